/- Questions and messages. -/
import Derived.Test.YtjakmljndnkplaaGreatDoorProveNegativeG10
import Derived.Test.YtjakmljndnkplaaGreatDoorProveNegativeG9
open BitVec renaming getLsbD_and->Of,getLsbD_not->Ik8
open Bool renaming eq_false_or_eq_true->Bm,and_eq_true->Bp,false_eq_true->B5,or_eq_true->Ck,not_eq_true'->Cf,eq_iff_iff->D8,eq_false_iff->Ef,not_eq_false->Hr,and_eq_false_iff->H2,false_or->I9,or_eq_false_iff->K6,true_and->N0,not_true->N1,and_true->N2
open Classical renaming not_not->Hp
open Int renaming toNat_natCast->Fq,lt_irrefl->Nt,le_refl->Ip8
open List renaming getElem?_eq_some_iff->Br,length_append->Bt,getElem?_eq_getElem->B0,mem_cons->Cj,mem_of_getElem?->Cq,append_assoc->Cv,length_take->Cw,length_cons->Cy,pairwise_cons->Cd,mem_filter->Cg,getElem?_drop->Cl,mem_append->Cn,all_eq_true->Cr,length_pos_iff->C1,length_nil->C3,take_append_drop->C7,getElem?_map->C9,any_eq_true->Dj,mem_append_right->Dq,length_drop->Dy,nil_append->Dc,cons_append->Dl,getElem?_range->Dp,take_add_one->Dr,mem_append_left->D1,length_filter_le->D4,drop_drop->D6,mem_map->Ev,take_length->Eh,getElem?_of_mem->Ep,getElem_mem->Er,pairwise_iff_getElem->E1,take_of_length_le->E5,length_map->E9,append_nil->Fj,suffix_iff_eq_drop->Fy,mem_range->Fh,filter_append->Fp,drop_zero->F6,flatMap_cons->Gj,exists_mem_of_ne_nil->Gb,pairwise_append->G5,map_cons->Hq,filter_eq_nil_iff->Hb,mem_of_mem_take->Ih,cons_prefix_cons->J5,getLast_eq_getElem->Lf,getElem?_set_self->M0,mem_filterMap->Oc,findIdx?_cons->Od,set_append_right->P1,drop_set_of_lt->Wt,length_replicate->yb,length_mergeSort->yc,getElem_take->Af2,take_succ_cons->Ff3,reverse_prefix->Ff4,map_mergeSort->Ik5
open Nat renaming le_refl->B7,zero_le->Df,le_trans->Dt,add_zero->E4,zero_add->F2,min_eq_left->L8
open Option renaming map_eq_some_iff->Bs,bind_some->B3,map_some->Cc,isSome_none->gz
open Option.some renaming injEq->Bn
set_option maxHeartbeats 1000000
set_option linter.defProp false
set_option linter.unusedVariables false
set_option linter.unusedSimpArgs false
namespace Go.X
open Go
structure Ques where
 name:List UInt8
 typ:Int
 deriving DecidableEq
structure Msg where
 id:Int
 op:Int
 code:Int
 resp:Bool
 aa:Bool
 tc:Bool
 rd:Bool
 ra:Bool
 ad:Bool
 cd:Bool
 dok:Bool
 size:Int
 q:Ques
 ans:List Rec
 auth:List Rec
 ext:List Rec
 deriving DecidableEq
structure Ques.wf (x:Ques):Prop where
 name:T6 x.name
 typ:T8 x.typ
structure Msg.wf (m:Msg):Prop where
 id:T8 m.id
 op:T8 m.op
 code:T8 m.code
 size:T8 m.size
 q:m.q.wf
 ans:Cl3 m.ans
 auth:Cl3 m.auth
 ext:Cl3 m.ext
def Ques.cells (x:Ques):List PV:=[.s x.name,.i .i64 x.typ]
def Ques.pv (x:Ques):PV:= .a x.cells
def Msg.cells (m:Msg):List PV:= .i .i64 m.id:: .i .i64 m.op:: .i .i64 m.code:: .b m.resp:: .b m.aa:: .b m.tc:: .b m.rd:: .b m.ra:: .b m.ad:: .b m.cd:: .b m.dok:: .i .i64 m.size:: .s m.q.name:: .i .i64 m.q.typ::B6 m.ans::B6 m.auth::B6 m.ext::[]
def Msg.pv (m:Msg):PV:= .a m.cells
def shQ:Sh:= .st [.s,.i .i64]
def Gq5 {cs:List PV} (h:shQ.okC cs):∃q:Ques,q.wf∧cs=q.cells:=by obtain⟨a0,r0,rfl,h0,h⟩:=E8 (rv h);obtain⟨a1,r1,rfl,h1,h⟩:=E8 h;obtain rfl:=Sn h;obtain⟨x0,rfl,k0⟩:=Bf8 h0;obtain⟨x1,rfl,k1⟩:=Nq h1;exact⟨⟨x0,x1⟩,⟨k0,k1⟩,rfl⟩
def Ih8 {p:PV} (h:shQ.ok p):∃q:Ques,q.wf∧p=q.pv:=by obtain⟨ds,rfl,h⟩:∃ds,p= .a ds∧shQ.okC ds:=h;obtain⟨r,hr,rfl⟩:=Gq5 h;exact⟨r,hr,rfl⟩
def Ct8 (m:Msg):Dw 0 m.pv=some (.i .i64 m.id):=rfl
def Ct7 (m:Msg):Dw 1 m.pv=some (.i .i64 m.op):=rfl
def Ct6 (m:Msg):Dw 2 m.pv=some (.i .i64 m.code):=rfl
def Ct5 (m:Msg):Dw 3 m.pv=some (.b m.resp):=rfl
def Ct4 (m:Msg):Dw 4 m.pv=some (.b m.aa):=rfl
def Ct3 (m:Msg):Dw 5 m.pv=some (.b m.tc):=rfl
def Ct2 (m:Msg):Dw 6 m.pv=some (.b m.rd):=rfl
def Ct1 (m:Msg):Dw 7 m.pv=some (.b m.ra):=rfl
def Ct0 (m:Msg):Dw 8 m.pv=some (.b m.ad):=rfl
def Cs9 (m:Msg):Dw 9 m.pv=some (.b m.cd):=rfl
def Bd7 (m:Msg):Dw 10 m.pv=some (.b m.dok):=rfl
def Bd6 (m:Msg):Dw 11 m.pv=some (.i .i64 m.size):=rfl
def Bd5 (m:Msg):Dw 12 m.pv=some (.s m.q.name):=rfl
def Bd4 (m:Msg):Dw 13 m.pv=some (.i .i64 m.q.typ):=rfl
def Bd3 (m:Msg):Dw 14 m.pv=some (B6 m.ans):=rfl
def Bd2 (m:Msg):Dw 15 m.pv=some (B6 m.auth):=rfl
def Bd1 (m:Msg):Dw 16 m.pv=some (B6 m.ext):=rfl
def Fs9 (m:Msg):Lz 0 17 m.pv=some m.pv:=rfl
def Gy7 (m:Msg):U6 17 m.pv=some m.pv:=rfl
def Cd4 (m:Msg):Lz 12 2 m.pv=some m.q.pv:=rfl
def Ix5 (x:Ques):Lz 0 2 x.pv=some x.pv:=rfl
def Im2 (x:Ques):U6 2 x.pv=some x.pv:=rfl
def Gk4 (x:Ques):Dw 0 x.pv=some (.s x.name):=rfl
def Gk3 (x:Ques):Dw 1 x.pv=some (.i .i64 x.typ):=rfl
def V2 (n:List UInt8) (t:Int):PV.a [.s n,.i .i64 t]=Ques.pv ⟨n,t⟩:=rfl
def Im6 (x:Ques):(⟨x.name,x.typ⟩:Ques)=x:=rfl
def Er1 (x0 x1 x2:Int) (b0 b1 b2 b3 b4 b5 b6 b7:Bool) (x3:Int) (n:List UInt8) (t:Int) (l0 l1 l2:List Rec):PV.a [.i .i64 x0,.i .i64 x1,.i .i64 x2,.b b0,.b b1,.b b2,.b b3,.b b4,.b b5,.b b6,.b b7,.i .i64 x3,.s n,.i .i64 t,B6 l0,B6 l1,B6 l2]=Msg.pv ⟨x0,x1,x2,b0,b1,b2,b3,b4,b5,b6,b7,x3,⟨n,t⟩,l0,l1,l2⟩:=rfl
def Ir2 (neg:Bool) (x y:Ques):Oy neg true [.s,(.i .i64)] x.pv y.pv=some (.b (if neg then decide (x≠y) else decide (x=y))):=by
 have:Ig [.s,(.i .i64)] x.cells y.cells=some (decide (x=y)):=by simp only[Ques.cells,Ig,Eq9,if_true,Bn];rw[D8];cases x;cases y;simp
 simp only[Oy,Ques.pv,this,Cc];cases neg<;>simp
set_option linter.defProp false in
def EVM:=(And.intro @Ct8 (And.intro @Ct7 (And.intro @Ct6 (And.intro @Ct5 (And.intro @Ct4 (And.intro @Ct3 (And.intro @Ct2 (And.intro @Ct1 (And.intro @Ct0 (And.intro @Cs9 (And.intro @Bd7 (And.intro @Bd6 (And.intro @Bd5 (And.intro @Bd4 (And.intro @Bd3 (And.intro @Bd2 (And.intro @Bd1 (And.intro @Fs9 (And.intro @Gy7 (And.intro @Cd4 (And.intro @Ix5 (And.intro @Im2 (And.intro @Gk4 (And.intro @Gk3 (And.intro @V2 (And.intro @Im6 (And.intro @Er1 @Ir2)))))))))))))))))))))))))))
def Ik0 (fn:Fns) (J:List PV) (fl:Bool) (ar:List E) (m:Nat):PV->Option (List PV)
 | .f f caps=>(E.evs J ar).bind fun vs=>results fl m J (fn f vs.length (vs++caps))
 |_=>none
def Ag5 {fn:Fns} {J:List PV} (fl:Bool) (c:E) (ar:List E) (m:Nat):W.ev fn J (.clo none fl c ar m)=(c.ev J).bind (Ik0 fn J fl ar m):=by
 rw[Fg5];congr 1;funext q;cases q with
 |f f caps=>rfl
 |_=>cases h:E.evs J ar<;>rfl
def Hs0 {fn:Fns} {J:List PV} (fl:Bool) (ar:List E) (m:Nat) (f:Nat) (caps:List PV):Ik0 fn J fl ar m (.f f caps)=(E.evs J ar).bind fun vs=>results fl m J (fn f vs.length (vs++caps)):=rfl
def Hd9 (f:Nat) (caps:List PV):Dw 0 (.f f caps)=some (.f f caps):=rfl
def Hk5 (f:Nat) (caps:List PV):Jl (.f f caps)=some (.f f caps):=rfl
def Qs (ks:List (List UInt8)):PV:= .m (ks.map fun k=>(.s k,.b true))
def Gj5:PV.m []=Qs []:=rfl
def Ec5 (ks:List (List UInt8)):Dw 0 (Qs ks)=some (Qs ks):=rfl
def Ez6 (ks:List (List UInt8)):Jl (Qs ks)=some (Qs ks):=rfl
def uw (k:List UInt8):∀ks:List (List UInt8),js (.s k) (ks.map fun k=>(.s k,.b true))=some (if k∈ks then some (.b true) else none)
 |[]=>by simp[js]
 |x::ks=>by
  simp only[Hq,js,um];by_cases h:k=x
  .subst h;simp
  .have h2:(k==x)=false:=by simpa using h
   rw[h2];simp only[uw k ks,Cj,h,false_or]
def As8 (k:List UInt8):∀ks:List (List UInt8),Fx2 (.s k) (.b true) (ks.map fun k=>(.s k,.b true))=some ((if k∈ks then ks else ks++[k]).map fun k=>(.s k,.b true))
 |[]=>by simp[Fx2]
 |x::ks=>by
  simp only[Hq,Fx2,um];by_cases h:k=x
  .subst h;simp
  .have h2:(k==x)=false:=by simpa using h
   rw[h2];simp only[As8 k ks,Cj,h,false_or,Cc];by_cases h3:k∈ks<;>simp[h3]
def El7 (k:List UInt8) (ks:List (List UInt8)):uv (Qs ks) (.s k) (.b false)=some (.b (decide (k∈ks))):=by simp only[uv,Qs,Dd8,if_true,uw,Cc];by_cases h:k∈ks<;>simp[h]
def El4 (k:List UInt8) (ks:List (List UInt8)):uk (Qs ks) (.s k) (.b true)=some (Qs (if k∈ks then ks else ks++[k])):=by simp only[uk,Qs,Dd8,if_true,As8,Cc]
def Dy2 (a b:List Rec):Kf 1 [B6 a,B6 b]=some (.l 1 ([a,b].map B6)):=rfl
def Hr9 (fn:Fns) (J:List PV) (fl:Bool) (c:E) (ar:List E) (m:Nat):PV->Option (List PV)
 | .b true=>(c.ev J).bind (Ik0 fn J fl ar m)
 | .b false=>some (J++List.replicate m .u)
 |_=>none
def Lh {fn:Fns} {J:List PV} (g:E) (fl:Bool) (c:E) (ar:List E) (m:Nat):W.ev fn J (.clo (some g) fl c ar m)=(g.ev J).bind (Hr9 fn J fl c ar m):=by
 have h:=Ag5 (fn:=fn) (J:=J) fl c ar m;simp only[W.ev,G0] at h ⊢;congr 1;funext q;cases q with
 |b x=>cases x with
  |true=>exact h
  |false=>rfl
 |_=>rfl
def Pg (fn:Fns) (J:List PV) (fl:Bool) (c:E) (ar:List E) (m:Nat) (x:Bool):Hr9 fn J fl c ar m (.b x)=if x=true then(c.ev J).bind (Ik0 fn J fl ar m) else some (J++List.replicate m .u):=by cases x<;>rfl
set_option linter.defProp false in
def EVC:=(And.intro @Ag5 (And.intro @Hs0 (And.intro @Hd9 (And.intro @Hk5 (And.intro @Gj5 (And.intro @Ec5 (And.intro @Ez6 (And.intro @El7 (And.intro @El4 @Dy2)))))))))
structure Adr where
 v6:Bool
 hi:Int
 lo:Int
 deriving DecidableEq
structure Tk where
 q:Ques
 name:List UInt8
 zone:List UInt8
 hosts:List (List UInt8)
 addrs:List Adr
 tried:List Adr
 state:Int
 more:Int
 dst:Adr
 asked:Ques
 sent:Int
 chain:List Rec
 last:Msg
 err:Int
def Adr.pv (x:Adr):PV:= .a [.b x.v6,.i .u64 x.hi,.i .u64 x.lo]
def Hk (l:List Adr):PV:= .l 3 (l.map Adr.pv)
def Dat.adr (d:Dat):Adr:=⟨d.v6,d.hi,d.lo⟩
def Tk.cells (t:Tk):List PV:=[.s t.q.name,.i .i64 t.q.typ,.s t.name,.s t.zone,C8 t.hosts,Hk t.addrs,Hk t.tried,.i .i64 t.state,.i .i64 t.more,.b t.dst.v6,.i .u64 t.dst.hi,.i .u64 t.dst.lo,.s t.asked.name,.i .i64 t.asked.typ,.i .i64 t.sent,B6 t.chain,.i .i64 t.last.id,.i .i64 t.last.op,.i .i64 t.last.code,.b t.last.resp,.b t.last.aa,.b t.last.tc,.b t.last.rd,.b t.last.ra,.b t.last.ad,.b t.last.cd,.b t.last.dok,.i .i64 t.last.size,.s t.last.q.name,.i .i64 t.last.q.typ,B6 t.last.ans,B6 t.last.auth,B6 t.last.ext,.i .i64 t.err]
def Tk.pv (t:Tk):PV:= .a t.cells
def Ec4 (t:Tk):Dw 0 t.pv=some (.s t.q.name):=rfl
def Ec3 (t:Tk):Dw 1 t.pv=some (.i .i64 t.q.typ):=rfl
def Ec2 (t:Tk):Dw 2 t.pv=some (.s t.name):=rfl
def Ec1 (t:Tk):Dw 3 t.pv=some (.s t.zone):=rfl
def Ec0 (t:Tk):Dw 4 t.pv=some (C8 t.hosts):=rfl
def Eb9 (t:Tk):Dw 5 t.pv=some (Hk t.addrs):=rfl
def Eb8 (t:Tk):Dw 6 t.pv=some (Hk t.tried):=rfl
def Eb7 (t:Tk):Dw 7 t.pv=some (.i .i64 t.state):=rfl
def Eb6 (t:Tk):Dw 8 t.pv=some (.i .i64 t.more):=rfl
def Eb5 (t:Tk):Dw 9 t.pv=some (.b t.dst.v6):=rfl
def Cp6 (t:Tk):Dw 10 t.pv=some (.i .u64 t.dst.hi):=rfl
def Cp5 (t:Tk):Dw 11 t.pv=some (.i .u64 t.dst.lo):=rfl
def Cp4 (t:Tk):Dw 12 t.pv=some (.s t.asked.name):=rfl
def Cp3 (t:Tk):Dw 13 t.pv=some (.i .i64 t.asked.typ):=rfl
def Cp2 (t:Tk):Dw 14 t.pv=some (.i .i64 t.sent):=rfl
def Cp1 (t:Tk):Dw 15 t.pv=some (B6 t.chain):=rfl
def Cp0 (t:Tk):Dw 16 t.pv=some (.i .i64 t.last.id):=rfl
def Cn9 (t:Tk):Dw 17 t.pv=some (.i .i64 t.last.op):=rfl
def Cn8 (t:Tk):Dw 18 t.pv=some (.i .i64 t.last.code):=rfl
def Cn7 (t:Tk):Dw 19 t.pv=some (.b t.last.resp):=rfl
def Cn6 (t:Tk):Dw 20 t.pv=some (.b t.last.aa):=rfl
def Cn5 (t:Tk):Dw 21 t.pv=some (.b t.last.tc):=rfl
def Cn4 (t:Tk):Dw 22 t.pv=some (.b t.last.rd):=rfl
def Cn3 (t:Tk):Dw 23 t.pv=some (.b t.last.ra):=rfl
def Cn2 (t:Tk):Dw 24 t.pv=some (.b t.last.ad):=rfl
def Cn1 (t:Tk):Dw 25 t.pv=some (.b t.last.cd):=rfl
def Cn0 (t:Tk):Dw 26 t.pv=some (.b t.last.dok):=rfl
def Cm9 (t:Tk):Dw 27 t.pv=some (.i .i64 t.last.size):=rfl
def Cm8 (t:Tk):Dw 28 t.pv=some (.s t.last.q.name):=rfl
def Cm7 (t:Tk):Dw 29 t.pv=some (.i .i64 t.last.q.typ):=rfl
def Cm6 (t:Tk):Dw 30 t.pv=some (B6 t.last.ans):=rfl
def Cm5 (t:Tk):Dw 31 t.pv=some (B6 t.last.auth):=rfl
def Cm4 (t:Tk):Dw 32 t.pv=some (B6 t.last.ext):=rfl
def Cm3 (t:Tk):Dw 33 t.pv=some (.i .i64 t.err):=rfl
def Hj1 (t:Tk):Lz 0 34 t.pv=some t.pv:=rfl
def Hm1 (t:Tk):U6 34 t.pv=some t.pv:=rfl
def By1 (t:Tk):Lz 9 3 t.pv=some t.dst.pv:=rfl
def o7 (t:Tk):Lz 12 2 t.pv=some t.asked.pv:=rfl
def Ex9 (t:Tk):Lz 0 2 t.pv=some t.q.pv:=rfl
def zy (t:Tk):Lz 16 17 t.pv=some t.last.pv:=rfl
def Gy2 (x0:List UInt8) (x1:Int) (x2:List UInt8) (x3:List UInt8) (x4:List (List UInt8)) (x5:List Adr) (x6:List Adr) (x7:Int) (x8:Int) (x9:Bool) (x10:Int) (x11:Int) (x12:List UInt8) (x13:Int) (x14:Int) (x15:List Rec) (x16:Int) (x17:Int) (x18:Int) (x19:Bool) (x20:Bool) (x21:Bool) (x22:Bool) (x23:Bool) (x24:Bool) (x25:Bool) (x26:Bool) (x27:Int) (x28:List UInt8) (x29:Int) (x30:List Rec) (x31:List Rec) (x32:List Rec) (x33:Int):PV.a [.s x0,.i .i64 x1,.s x2,.s x3,C8 x4,Hk x5,Hk x6,.i .i64 x7,.i .i64 x8,.b x9,.i .u64 x10,.i .u64 x11,.s x12,.i .i64 x13,.i .i64 x14,B6 x15,.i .i64 x16,.i .i64 x17,.i .i64 x18,.b x19,.b x20,.b x21,.b x22,.b x23,.b x24,.b x25,.b x26,.i .i64 x27,.s x28,.i .i64 x29,B6 x30,B6 x31,B6 x32,.i .i64 x33]=Tk.pv ⟨⟨x0,x1⟩,x2,x3,x4,x5,x6,x7,x8,⟨x9,x10,x11⟩,⟨x12,x13⟩,x14,x15,⟨x16,x17,x18,x19,x20,x21,x22,x23,x24,x25,x26,x27,⟨x28,x29⟩,x30,x31,x32⟩,x33⟩:=rfl
def Hp0 (t:Tk):(⟨t.q,t.name,t.zone,t.hosts,t.addrs,t.tried,t.state,t.more,t.dst,t.asked,t.sent,t.chain,t.last,t.err⟩:Tk)=t:=rfl
def Gb3 (m:Msg):(⟨m.id,m.op,m.code,m.resp,m.aa,m.tc,m.rd,m.ra,m.ad,m.cd,m.dok,m.size,m.q,m.ans,m.auth,m.ext⟩:Msg)=m:=rfl
def Gb4 (x:Adr):(⟨x.v6,x.hi,x.lo⟩:Adr)=x:=rfl
def Ht3 (d:Dat):Mn d=d.adr.pv:=rfl
def Er2 (v:Bool) (h l:Int):PV.a [.b v,.i .u64 h,.i .u64 l]=Adr.pv ⟨v,h,l⟩:=rfl
def Gl0 (d:Dat):(⟨d.v6,d.hi,d.lo⟩:Adr)=d.adr:=rfl
def Ft1 (x:Adr):Lz 0 3 x.pv=some x.pv:=rfl
def Gy9 (x:Adr):U6 3 x.pv=some x.pv:=rfl
def Dk2 (x:Adr):Dw 0 x.pv=some (.b x.v6):=rfl
def Dk1 (x:Adr):Dw 1 x.pv=some (.i .u64 x.hi):=rfl
def Dk0 (x:Adr):Dw 2 x.pv=some (.i .u64 x.lo):=rfl
def Er5 (x:Adr):PV.flat x.pv=true:=rfl
def Fk4:PV.l 3 []=Hk []:=rfl
def Gx0 (x:Adr):Kf 3 [x.pv]=some (Hk [x]):=rfl
def Cg8 (l:List Adr):Jl (Hk l)=some (Hk l):=rfl
def Dj9 (l:List Adr):Dw 0 (Hk l)=some (Hk l):=rfl
def Hl8 (x:Ques):PV.flat x.pv=true:=rfl
def Hk1 (n:Int):Jl (.i .u64 n)=some (.i .u64 n):=rfl
def Hd6 (n:Int):Dw 0 (.i .u64 n)=some (.i .u64 n):=rfl
def Em7 (l:List Adr):G2 (Hk l)=some (.i .i64 (l.length:Int)):=by simp[Hk,G2]
def Ep1 (l:List Adr) (k:IntKind) (z:Int) (h:0<=z):H6 3 (Hk l) (.i k z)=(l[z.toNat]?).map Adr.pv:=by simp[Hk,Wz _ _ _ _ h]
def Ej3 (l:List Adr) (x:Adr) (h:l.length+1<=1073741824):Jh 3 (Hk l) (Hk [x])=some (Hk (l++[x])):=by have:=Ts 3 (l.map Adr.pv) ([x].map Adr.pv) (by simpa using h);simpa [Hk] using this
def Fk1 (l m:List Adr) (h:l.length+m.length<=1073741824):Jh 3 (Hk l) (Hk m)=some (Hk (l++m)):=by have:=Ts 3 (l.map Adr.pv) (m.map Adr.pv) (by simpa using h);simpa [Hk] using this
def El9 (l:List Adr) (k k':IntKind) (a b:Int) (h1:0<=a) (h2:a<=b) (h3:b<=(l.length:Int)):Jx 3 (Hk l) (.i k a) (.i k' b)=some (Hk ((l.take b.toNat).drop a.toNat)):=by have:=Dx7 3 (l.map Adr.pv) k k' a b h1 h2 (by simpa using h3);simpa [Hk,List.map_take,List.map_drop] using this
def Hp4 (neg:Bool) (x y:Adr):Oy neg true [.b,(.i .u64),(.i .u64)] x.pv y.pv=some (.b (if neg then decide (x≠y) else decide (x=y))):=by
 have:Ig [.b,(.i .u64),(.i .u64)] [.b x.v6,.i .u64 x.hi,.i .u64 x.lo] [.b y.v6,.i .u64 y.hi,.i .u64 y.lo]=some (decide (x=y)):=by simp only[Ig,Eq9,if_true,Bn];rw[D8];cases x;cases y;simp
 simp only[Oy,Adr.pv,this,Cc];cases neg<;>simp
set_option linter.defProp false in
def EVT:=(And.intro @Ec4 (And.intro @Ec3 (And.intro @Ec2 (And.intro @Ec1 (And.intro @Ec0 (And.intro @Eb9 (And.intro @Eb8 (And.intro @Eb7 (And.intro @Eb6 (And.intro @Eb5 (And.intro @Cp6 (And.intro @Cp5 (And.intro @Cp4 (And.intro @Cp3 (And.intro @Cp2 (And.intro @Cp1 (And.intro @Cp0 (And.intro @Cn9 (And.intro @Cn8 (And.intro @Cn7 (And.intro @Cn6 (And.intro @Cn5 (And.intro @Cn4 (And.intro @Cn3 (And.intro @Cn2 (And.intro @Cn1 (And.intro @Cn0 (And.intro @Cm9 (And.intro @Cm8 (And.intro @Cm7 (And.intro @Cm6 (And.intro @Cm5 (And.intro @Cm4 (And.intro @Cm3 (And.intro @Hj1 (And.intro @Hm1 (And.intro @By1 (And.intro @o7 (And.intro @Ex9 (And.intro @zy (And.intro @Gy2 (And.intro @Hp0 (And.intro @Gb3 (And.intro @Gb4 (And.intro @Ht3 (And.intro @Er2 (And.intro @Gl0 (And.intro @Ft1 (And.intro @Gy9 (And.intro @Dk2 (And.intro @Dk1 (And.intro @Dk0 (And.intro @Er5 (And.intro @Fk4 (And.intro @Gx0 (And.intro @Cg8 (And.intro @Dj9 (And.intro @Hl8 (And.intro @Hk1 (And.intro @Hd6 (And.intro @Em7 (And.intro @Ep1 (And.intro @Ej3 (And.intro @Fk1 (And.intro @El9 @Hp4)))))))))))))))))))))))))))))))))))))))))))))))))))))))))))))))))
end Go.X
namespace Go.X.G
open Go Go.X
def Av:=And.intro xe<|And.intro EVP EV
def Aq:=And.intro EVC<|And.intro xe<|And.intro EVP EV
def Ak:=And.intro EVM<|And.intro EVC<|And.intro xe<|And.intro EVP EV
def Ek1 (l:List (List UInt8)) (x:List UInt8) (hl:l.length<=1000000):∃k:Int,(0<=k↔x∈l)∧S tg 2 [C8 l,.s x]=some [.i .i64 k]:=by
 have go:∀(i:Nat) (l:List (List UInt8)),∃k:Int,k=(match l.findIdx? (·=x) with|some j=>((i+j:Nat):Int)|none=> -1)∧(0<=k↔x∈l):=by
  intro i l;refine⟨_,rfl,?_⟩;cases h:l.findIdx? (·=x) with
  |none=>
   rw[List.findIdx?_eq_none_iff] at h;simp only;constructor
   .intro h2;omega
   .intro h2;have:=h x h2;simp at this
  |some j=>
   simp only;constructor
   .intro _;rw[List.findIdx?_eq_some_iff_getElem] at h;obtain⟨h1,h2,_⟩:=h;simp at h2;rw[<-h2];exact Er _
   .intro _;omega
 obtain⟨k,hk,hk2⟩:=go 0 l;refine⟨k,hk2,?_⟩;refine Fw3 (N:=l.length+1) rfl ?_;have key:Aq2.ev S (l.length+1) [C8 l,.s x]=some (match l.findIdx? (·=x) with|some j=> .ret [.i .i64 ((0+j:Nat):Int)]|none=> .yld 0 []):=by
  refine Gx l (fun i=>[.i .i64 (i:Int)]) (fun i r=>match r.findIdx? (·=x) with|some j=> .ret [.i .i64 ((i+j:Nat):Int)]|none=> .yld 0 []) rfl (by omega) (fun i c r hd hi hc=> ?_) ?_
  .by_cases h:x=c
   .right;simp(disch:=omega)only[Qr,hc,h,Ak,simprocAttr];simp[Od,Out.goes]
   .left;have h':¬c=x:=fun e=>h e.symm;simp(disch:=omega)only[Qr,hc,h,Ak,simprocAttr];refine⟨trivial,?_⟩;simp only[Od,h',decide_false,B5,if_false];cases r.findIdx? (·=x) with
    |none=>rfl
    |some j=>simp;omega
  .simp(disch:=omega)only[Qr,Ak,simprocAttr];simp[Out.goes]
 rw[hk];cases h:l.findIdx? (·=x) with
 |none=>
  rw[h] at key;simp(disch:=omega)only[Qr,key,Ak,simprocAttr]
 |some j=>
  rw[h] at key;simp(disch:=omega)only[Qr,key,Ak,simprocAttr]
def L6 (l:List (List UInt8)) (x:List UInt8) (hl:l.length<=1000000):S Yh 2 [C8 l,.s x]=some [.b (decide (x∈l))]:=by refine Hk7 (N:=1) rfl ?_;obtain⟨k,h1,h2⟩:=Ek1 l x hl;simp(disch:=omega)only[Gn1,h2,Ak,simprocAttr];simp[h1]
def ixG {α:Type} (p:α->Bool) (k:Nat):List α->Int
 |[]=> -1
 |r::rs=>if p r=true then(k:Int) else ixG p (k+1) rs
def Aq5 {α:Type} (p:α->Bool):∀(l:List α) (k:Nat),(0<=ixG p k l↔l.any p=true)∧ixG p k l<=k+l.length∧ -1<=ixG p k l
 |[],k=>by simp[ixG]
 |r::rs,k=>by
  have ih:=Aq5 p rs (k+1);rcases Bm (p r) with h|h
  .simp[ixG,h];omega
  .simp only[ixG,h,List.any_cons,I9,Cy];refine⟨by simpa using ih.1,?_,by simpa using ih.2.2⟩;have:=ih.2.1;simp only[B5,if_false] at this ⊢;omega
def m9 (l:List (List UInt8)) (g:Nat) (caps:List PV) (p:List UInt8->Bool) (hl:l.length<=1000000) (h:∀r∈l,S g 1 (.s r::caps)=some [.b (p r)]):S As2 2 [C8 l,.f g caps]=some [.i .i64 (ixG p 0 l)]:=by
 refine Hz9 (N:=l.length+1) rfl ?_;have key:Dc9.ev S (l.length+1) [C8 l,.f g caps]=some (if ixG p 0 l= -1 then .yld 0 [] else .ret [.i .i64 (ixG p 0 l)]):=by
  refine Gx l (fun i=>[.i .i64 (i:Int)]) (fun i r=>if ixG p i r= -1 then .yld 0 [] else .ret [.i .i64 (ixG p i r)]) rfl (by omega) (fun i c r hd hi hc=> ?_) ?_
  .have hp:=h c (Cq hc);rcases Bm (p c) with h1|h1
   .rw[h1] at hp;right;have h2:¬((i:Int)= -1):=by omega
    simp(disch:=omega)only[ob,hc,hp,EVT,Aq,simprocAttr];simp[ixG,h1,h2,Out.goes]
   .rw[h1] at hp;left;simp(disch:=omega)only[ob,hc,hp,EVT,Aq,simprocAttr];simp[ixG,h1]
  .simp(disch:=omega)only[ob,EVT,Aq,simprocAttr];simp[ixG,Out.goes]
 by_cases h1:ixG p 0 l= -1
 .rw[if_pos h1] at key;simp(disch:=omega)only[ob,key,h1,EVT,Aq,simprocAttr]
 .rw[if_neg h1] at key;simp(disch:=omega)only[ob,key,EVT,Aq,simprocAttr]
def N8 (l:List (List UInt8)) (g:Nat) (caps:List PV) (p:List UInt8->Bool) (hl:l.length<=1000000) (h:∀r∈l,S g 1 (.s r::caps)=some [.b (p r)]):S Dw1 2 [C8 l,.f g caps]=some [.b (l.any p)]:=by
 refine Ib9 (N:=1) rfl ?_;simp(disch:=omega)only[Iq6,m9 l g caps p hl h,Aq,simprocAttr];have:=(Aq5 p l 0).1;rcases Bm (l.any p) with h1|h1
 .rw[h1] at this ⊢;simp[this.2 rfl]
 .rw[h1] at this ⊢;have h2:¬(0<=ixG p 0 l):=fun h=>by simpa using this.1 h
  simp[h2]
def P0 (l:List Rec) (hl:l.length<=1000000):S rn 1 [B6 l]=some [B6 l]:=by
 refine If7 (N:=1) rfl ?_;have h0:Jh 16 (B6 []) (B6 l)=some (B6 l):=by simpa using J4 [] l (by simp;omega)
 simp(disch:=omega)only[Iv3,h0,EVT,Aq,simprocAttr]
def u5 {α:Type} (p:α->Bool):∀(l:List α) (k:Nat),0<=ixG p k l->∃j,ixG p k l=((k+j:Nat):Int)∧j<l.length∧(∀x∈l.take j,p x=false)∧∃x,l[j]? =some x∧p x=true
 |[],k,h=>by simp[ixG] at h
 |r::rs,k,h=>by
  rcases Bm (p r) with h1|h1
  .exact⟨0,by simp[ixG,h1],by simp,by simp,r,rfl,h1⟩
  .have e:ixG p k (r::rs)=ixG p (k+1) rs:=by simp[ixG,h1]
   rw[e] at h ⊢;obtain⟨j,g1,g2,g3,x,g4,g5⟩:=u5 p rs (k+1) h;refine⟨j+1,by rw[g1];congr 1;omega,by simp;omega,fun y hy=> ?_,x,by simpa using g4,g5⟩;simp only[Ff3,Cj] at hy;rcases hy with rfl|hy
   .exact h1
   .exact g3 y hy
def Mg {α:Type} (p:α->Bool) {l:List α} (h:∀x∈l,p x=false):l.filter (fun x=> !p x)=l:=by rw[List.filter_eq_self];intro x hx;simp[h x hx]
def ixF (p:Rec->Bool) (k:Nat):List Rec->Int
 |[]=> -1
 |r::rs=>if p r=true then(k:Int) else ixF p (k+1) rs
def Dd9 (p:Rec->Bool):∀(l:List Rec) (k:Nat),(0<=ixF p k l↔l.any p=true)∧ixF p k l<=k+l.length∧ -1<=ixF p k l
 |[],k=>by simp[ixF]
 |r::rs,k=>by
  have ih:=Dd9 p rs (k+1);rcases Bm (p r) with h|h
  .simp[ixF,h];omega
  .simp only[ixF,h,List.any_cons,I9,Cy];refine⟨by simpa using ih.1,?_,by simpa using ih.2.2⟩;have:=ih.2.1;simp only[B5,if_false] at this ⊢;omega
def T2 (l:List Rec) (g:Nat) (caps:List PV) (p:Rec->Bool) (hl:l.length<=1000000) (h:∀r∈l,S g 1 (r.pv::caps)=some [.b (p r)]):S Bg4 2 [B6 l,.f g caps]=some [.i .i64 (ixF p 0 l)]:=by
 refine Iz2 (N:=l.length+1) rfl ?_;have key:Fx9.ev S (l.length+1) [B6 l,.f g caps]=some (if ixF p 0 l= -1 then .yld 0 [] else .ret [.i .i64 (ixF p 0 l)]):=by
  refine Gx l (fun i=>[.i .i64 (i:Int)]) (fun i r=>if ixF p i r= -1 then .yld 0 [] else .ret [.i .i64 (ixF p i r)]) rfl (by omega) (fun i c r hd hi hc=> ?_) ?_
  .have hp:=h c (Cq hc);rcases Bm (p c) with h1|h1
   .rw[h1] at hp;right;have h2:¬((i:Int)= -1):=by omega
    simp(disch:=omega)only[Bt5,hc,hp,Aq,simprocAttr];simp[ixF,h1,h2,Out.goes]
   .rw[h1] at hp;left;simp(disch:=omega)only[Bt5,hc,hp,Aq,simprocAttr];simp[ixF,h1]
  .simp(disch:=omega)only[Bt5,Aq,simprocAttr];simp[ixF,Out.goes]
 by_cases h1:ixF p 0 l= -1
 .rw[if_pos h1] at key;simp(disch:=omega)only[Bt5,key,h1,Aq,simprocAttr]
 .rw[if_neg h1] at key;simp(disch:=omega)only[Bt5,key,Aq,simprocAttr]
def Hg (l:List Rec) (g:Nat) (caps:List PV) (p:Rec->Bool) (hl:l.length<=1000000) (h:∀r∈l,S g 1 (r.pv::caps)=some [.b (p r)]):S rl 2 [B6 l,.f g caps]=some [.b (l.any p)]:=by
 refine If0 (N:=1) rfl ?_;simp(disch:=omega)only[Iv2,T2 l g caps p hl h,Aq,simprocAttr];have:=(Dd9 p l 0).1;rcases Bm (l.any p) with h1|h1
 .rw[h1] at this ⊢;simp[this.2 rfl]
 .rw[h1] at this ⊢;have h2:¬(0<=ixF p 0 l):=fun h=>by simpa using this.1 h
  simp[h2]
def Tj (r:Rec) (t:Int):Bool:=
 if r.typ≠47∨t=255∨Rm r t=true∨Rm r 5=true then false else if t=43 then !Rm r 6 else Rm r 6|| !Rm r 2
def Dz0 (r:Rec) (t:Int):S Eg7 2 [r.pv,.i .i64 t]=some [.b (Tj r t)]:=by
 refine Ib2 (N:=1) rfl ?_;have a1:=Mz r t;have a2:=Mz r 5;have a3:=Mz r 6;have a4:=Mz r 2;unfold Tj;by_cases h1:r.typ=47
 .by_cases h2:t=255
  .simp(disch:=omega)only[Bx4,h1,h2,Aq,simprocAttr]
   try simp
  .rcases Bm (Rm r t) with e0|e0
   .simp(disch:=omega)only[Bx4,a1,e0,h1,h2,Aq,simprocAttr]
    try simp
   .rcases Bm (Rm r 5) with e1|e1
    .simp(disch:=omega)only[Bx4,a1,a2,e0,e1,h1,h2,Aq,simprocAttr]
     try simp
    .by_cases h3:t=43
     .rw[h3] at a1 e0 h2 ⊢;rcases Bm (Rm r 6) with e2|e2<;>simp(disch:=omega)only[Bx4,a1,a2,a3,e0,e1,e2,h1,Aq,simprocAttr]<;>simp[h1]
     .rcases Bm (Rm r 6) with e2|e2<;>rcases Bm (Rm r 2) with e3|e3<;>simp(disch:=omega)only[Bx4,a1,a2,a3,a4,e0,e1,e2,e3,h1,h2,h3,Aq,simprocAttr]<;>simp[h1,h2,h3]
 .simp(disch:=omega)only[Bx4,h1,Aq,simprocAttr]
  try simp[h1]
def Hr6 (l:List Rec) (zone s:List UInt8):Bool:=l.any fun r=>Hd r zone s
def Vy (l:List Rec) (zone name:List UInt8):Bool:=(starsN l zone name).any fun s=>Hr6 l zone s
def By4 {l:List Rec} {zone name s:List UInt8} (h:s∈starsN l zone name):s.length<=254:=by
 unfold starsN at h;rw[Oc] at h;obtain⟨r,_,hr⟩:=h;unfold dw at hr;split at hr
 .rename_i hc;simp only[Bp] at hc;injection hr with hr;unfold starN at hr;rw[if_pos hc.2] at hr;rw[<-hr];have:=hc.2;unfold starOk at this;simp only[Bp] at this;exact H4 this.2
 .cases hr
def Af0 (r:Rec) (zone s:List UInt8) (hr:r.wf) (hz:zone.length<=9223372036854775807) (hn:s.length<=9223372036854775807):S Dv8 1 [r.pv,.s zone,.s s]=some [.b (Hd r zone s)]:=by refine Ib6 (N:=1) rfl ?_;simp(disch:=omega)only[Iq4,Pt r zone s hr hz hn,Aq,simprocAttr]
def Br5 (l:List Rec) (zone s:List UInt8) (hw:∀r∈l,r.wf) (hl:l.length<=1000000) (hz:zone.length<=9223372036854775807) (hn:s.length<=9223372036854775807):S Dv9 1 [.s s,B6 l,.s zone]=some [.b (Hr6 l zone s)]:=by refine Ib7 (N:=1) rfl ?_;have k:=Hg l Dv8 [.s zone,.s s] (fun r=>Hd r zone s) hl (fun r hr=>Af0 r zone s (hw r hr) hz hn);unfold Hr6;simp(disch:=omega)only[Iq5,k,Aq,simprocAttr]
def Br4 (l:List Rec) (zone name:List UInt8) (hw:∀r∈l,r.wf) (hl:l.length<=1000000) (hz:zone.length<=9223372036854775807) (hn:name.length<=9223372036854775807):S El0 3 [B6 l,.s zone,.s name]=some [.b (Vy l zone name)]:=by refine Ig0 (N:=1) rfl ?_;have k1:=Ah4 l zone name hw hl hz hn;have hsl:=dv l zone name;have k:=N8 (starsN l zone name) Dv9 [B6 l,.s zone] (fun s=>Hr6 l zone s) (by omega) (fun s hs=>Br5 l zone s hw hl hz (by have:=By4 hs;omega));unfold Vy;generalize starsN l zone name=st at*;simp(disch:=omega)only[Iv6,k1,k,Aq,simprocAttr]
def Gb7 (l:List Rec) (zone:List UInt8) (q:Ques) (r:Rec):Bool:=
 (Hd r zone q.name && I7 r.data.host q.name)||(Tj r q.typ && (decide (r.name=q.name)||H9 l zone q.name r.name))
def fc (l:List Rec) (zone:List UInt8) (q:Ques):Bool:=under q.name zone && l.any (Gb7 l zone q)
def Ek6 (l:List Rec) (zone:List UInt8) (q:Ques) (r:Rec) (hr:r.wf) (hw:∀r∈l,r.wf) (hl:l.length<=1000000) (hz:zone.length<=9223372036854775807) (hn:q.name.length<=9223372036854775807):
  S Dv7 1 [r.pv,.s zone,q.pv,B6 l]=some [.b (Gb7 l zone q r)]:=by
 refine Ib4 (N:=1) rfl ?_;have g2:=hr.data.host;unfold T6 at g2;have h1:=Pt r zone q.name hr hz hn;have h2:=I3 r.data.host q.name g2 hn;have h3:=Dz0 r q.typ;have h4:=aw l zone q.name r.name hw hl hz hn;unfold Gb7;by_cases e4:r.name=q.name
 .rcases Bm (Hd r zone q.name) with e0|e0<;>rcases Bm (I7 r.data.host q.name) with e1|e1<;>rcases Bm (Tj r q.typ) with e2|e2<;>rcases Bm (H9 l zone q.name r.name) with e3|e3
  all_goals simp(disch:=omega)only[Gn0,h1,h2,h3,h4,e0,e1,e2,e3,e4,Ak,simprocAttr]
  all_goals simp
 .rcases Bm (Hd r zone q.name) with e0|e0<;>rcases Bm (I7 r.data.host q.name) with e1|e1<;>rcases Bm (Tj r q.typ) with e2|e2<;>rcases Bm (H9 l zone q.name r.name) with e3|e3
  all_goals simp(disch:=omega)only[Gn0,h1,h2,h3,h4,e0,e1,e2,e3,e4,Ak,simprocAttr]
  all_goals simp
def Ek5 (l:List Rec) (zone:List UInt8) (q:Ques) (hw:∀r∈l,r.wf) (hl:l.length<=1000000) (hz:zone.length<=9223372036854775807) (hn:q.name.length<=9223372036854775807):S Eh9 3 [B6 l,.s zone,q.pv]=some [.b (fc l zone q)]:=by refine If8 (N:=1) rfl ?_;have k:=Hg l Dv7 [.s zone,q.pv,B6 l] (Gb7 l zone q) hl (fun r hr=>Ek6 l zone q r (hw r hr) hw hl hz hn);have hu:=Fl q.name zone hn hz;unfold fc;rcases Bm (under q.name zone) with h|h<;>simp(disch:=omega)only[Iv4,hu,h,k,Ak,simprocAttr]<;>simp
def Gh6 (set:Int) (i:Nat):Nat->Bool
 |0=>true
 |k+1=>(!decide (bit set i=1)||knw (i:Int)) && Gh6 set (i+1) k
def be (v:Int):Nat->List UInt8
 |0=>[]
 |n+1=>UInt8.ofNat (v / 256 ^ n % 256).toNat::be v n
def Gm (v:Int):∀n,(be v n).length=n
 |0=>rfl
 |n+1=>by simp[be,Gm v n]
def Dq9 (z:Int) (h1:0<=z) (h2:z<256):((UInt8.ofNat z.toNat).toNat:Int)=z:=by simp;omega
def Gd1 (v:Int) (j:Nat):v / 256 ^ j / 256=v / 256 ^ (j+1):=by rw[Int.pow_succ,Int.ediv_ediv_of_nonneg (Int.le_of_lt (Int.pow_pos (by decide)))]
def Hr1 (v:Int) (j:Nat) (h:0<=v):0<=v / 256 ^ j:=Int.ediv_nonneg h (Int.le_of_lt (Int.pow_pos (by decide)))
def Hr2 (v:Int) (j:Nat) (h:0<=v):v / 256 ^ j<=v:=Int.ediv_le_self _ h
def u6 {s:List UInt8} (h:Ox s=true):s.length<=63:=by
 unfold Ox at h;simp at h;rcases h with h|h
 .simp[h]
 .omega
def ig:∀(r:List UInt8) (f:Bool) (cur:List UInt8) (l:List (List UInt8)),spl f cur r=some l->∀x∈l,Ox x=true
 |[],f,cur,l,h=>by simp[spl] at h;subst h;simp
 |c::r,f,cur,l,h=>by
  simp only[spl] at h;split at h
  .split at h
   .rename_i h2;obtain⟨m,hm,rfl⟩:=Bs.1 h;intro x hx;simp at hx;rcases hx with rfl|hx
    .exact h2.1
    .exact ig r _ _ _ hm x hx
   .cases h
  .exact ig r _ _ _ h
def j7 (n:List UInt8):∀x∈lbl n,Ox x=true:=by
 unfold lbl nm;split
 .simp
 .split
  .cases h:spl true [] n with
   |none=>simp
   |some l=>simpa using ig _ _ _ _ h
  .simp
def wireL (l:List (List UInt8)):List UInt8:=l.flatMap fun x=>be (x.length:Int) 1++x
def K7 (n:List UInt8):List UInt8:=wireL (lbl n)++be 0 1
def Xp:∀(l:List (List UInt8)),(∀x∈l,Ox x=true)->(wireL l).length<=64*l.length
 |[],_=>by simp[wireL]
 |x::l,h=>by have h1:=u6 (h x (by simp));have h2:=Xp l (fun y hy=>h y (by simp[hy]));simp only[wireL,Gj,Bt,Gm,Cy] at h2 ⊢;omega
def oh (n:List UInt8):(K7 n).length<=20000:=by have h1:=Xp (lbl n) (j7 n);have h2:=Nz n;simp only[K7,Bt,Gm];omega
def bmV (set:Int) (i:Nat):Nat->Int
 |0=>0
 |j+1=>bmV set i j*2+bit set (i*8+j)
def Fd6 (set:Int) (t:Nat):0<=bit set t∧bit set t<=1:=by unfold bit;omega
def Bv5 (set:Int) (i:Nat):∀j,0<=bmV set i j∧bmV set i j<2 ^ j
 |0=>by simp[bmV]
 |j+1=>by have h1:=Bv5 set i j;have h2:=Fd6 set (i*8+j);simp only[bmV,Int.pow_succ];omega
def bmB (set:Int) (i:Nat):UInt8:=UInt8.ofNat (bmV set i 8).toNat
def bmL (set:Int):Nat->Nat
 |0=>0
 |i+1=>if bmV set i 8≠0 then i+1 else bmL set i
def Fd4 (set:Int):∀i,bmL set i<=i
 |0=>B7 _
 |i+1=>by have:=Fd4 set i;simp only[bmL];split<;>omega
def bmap (set:Int):List UInt8:=((List.range 8).map (bmB set)).take (bmL set 8)
def Bv4 (set:Int):(bmap set).length<=8:=by simp[bmap];omega
def Ww (d:Dat):List UInt8:=if d.v6 then be d.hi 8++be d.lo 8 else be d.lo 4
def usd (t:Int) (d:Dat):Dat:=
 if t=1∨t=28 then ⟨d.v6,d.hi,d.lo,[],[],[],0,0,0,0,0,0,0⟩
 else if t=2∨t=5∨t=12∨t=39 then ⟨false,0,0,d.host,[],[],0,0,0,0,0,0,0⟩
 else if t=6 then ⟨false,0,0,d.host,d.mail,[],d.a,d.b,d.c,d.d,d.e,0,0⟩
 else if t=15 then ⟨false,0,0,d.host,[],[],d.a,0,0,0,0,0,0⟩
 else if t=16 then ⟨false,0,0,[],[],d.text,0,0,0,0,0,0,0⟩
 else if t=33 then ⟨false,0,0,d.host,[],[],d.a,d.b,d.c,0,0,0,0⟩
 else if t=43∨t=48 then ⟨false,0,0,[],[],d.text,d.a,d.b,d.c,0,0,0,0⟩
 else if t=46 then ⟨false,0,0,d.host,[],d.text,d.a,d.b,d.c,d.d,d.e,d.f,0⟩
 else ⟨false,0,0,d.host,[],[],0,0,0,0,0,0,d.bits⟩
def Fv (t:Int) (d:Dat):Bool:=
 if t=1 then Gv d && !d.v6
 else if t=28 then d.v6
 else if t=6 then Kj d.host && Kj d.mail && inB d.a 4294967295 && inB d.b 2147483647 && inB d.c 2147483647 && inB d.d 2147483647 && inB d.e 2147483647
 else if t=15 then Kj d.host && inB d.a 65535
 else if t=16 then decide (d.text.length<=255)
 else if t=33 then Kj d.host && inB d.a 65535 && inB d.b 65535 && inB d.c 65535
 else if t=43 then inB d.a 65535 && inB d.b 255 && inB d.c 255 && Ly d.text
 else if t=46 then knw d.a && decide (d.a≠46) && inB d.b 127 && inB d.c 2147483647 && inB d.d 4294967295 && inB d.e 4294967295 && inB d.f 65535 && Kj d.host && Ly d.text
 else if t=47 then vld d.host && decide (d.bits≠0) && Gh6 d.bits 0 64
 else if t=48 then(decide (d.a=256)||decide (d.a=257)) && decide (d.b=3) && inB d.c 255 && Ly d.text
 else Kj d.host
def Gc (t:Int) (d:Dat):Bool:=knw t && decide (usd t d=d) && Fv t d
def M3 (t:Int) (d:Dat):List UInt8:=
 if t=1∨t=28 then Ww d
 else if t=6 then K7 d.host++K7 d.mail++be d.a 4++be d.b 4++be d.c 4++be d.d 4++be d.e 4
 else if t=15 then be d.a 2++K7 d.host
 else if t=16 then be (d.text.length:Int) 1++d.text
 else if t=33 then be d.a 2++be d.b 2++be d.c 2++K7 d.host
 else if t=43∨t=48 then be d.a 2++be d.b 1++be d.c 1++d.text
 else if t=46 then be d.a 2++be 253 1++be d.b 1++be d.c 4++be d.d 4++be d.e 4++be d.f 2++K7 d.host++d.text
 else if t=47 then K7 d.host++be 0 1++be ((bmap d.bits).length:Int) 1++bmap d.bits
 else K7 d.host
def knw_cases {t:Int} (h:knw t=true):t=1∨t=2∨t=5∨t=6∨t=12∨t=15∨t=16∨t=28∨t=33∨t=39∨t=43∨t=46∨t=47∨t=48:=by simp[knw] at h;omega
def Et9 (t:Int) (a b:Dat):Int:=
 if Gc t a && Gc t b then cmpS (M3 t a) (M3 t b) else if Gc t a then -1 else if Gc t b then 1 else 0
def T5 (r:Rec):Bool:=vld r.name && knw r.typ && decide (0<=r.ttl) && decide (r.ttl<=2147483647) && Gc r.typ r.data
def Bq2 (a b:Int):Int:=if a<b then -1 else if b<a then 1 else 0
def af (a b:Rec):Int:=
 if Ky a.name b.name≠0 then Ky a.name b.name else if Bq2 a.typ b.typ≠0 then Bq2 a.typ b.typ else Et9 a.typ a.data b.data
def isK (n:List UInt8) (t:Int) (r:Rec):Bool:=decide (r.name=n) && decide (r.typ=t)
def findR (l:List Rec) (n:List UInt8) (t:Int):List Rec:=l.filter (isK n t)
def Bx1 (l:List Rec) (n:List UInt8) (t:Int) (hl:l.length<=1000000):S Eg3 3 [B6 l,.s n,.i .i64 t]=some [B6 (findR l n t)]:=by
 refine Iz7 (N:=l.length+1) rfl ?_;have key:Fy1.ev S (l.length+1) [B6 l,.s n,.i .i64 t]=some (.yld 0 [B6 ([]++findR l n t)]):=by
  refine E7 l (fun i (g:List Rec)=>[B6 g,.i .i64 (i:Int)]) (fun i g r=> .yld 0 [B6 (g++findR r n t)]) (fun i g=>g.length<=i) [] rfl (Df _) (by omega) (fun i g c r hd hi hc hI=> ?_) (fun g hI=> ?_)
  .left;by_cases h:isK n t c=true
   .refine⟨g++[c],?_,by simp;omega,by simp[findR,h]⟩;simp[isK] at h;simp(disch:=omega)only[Bt8,hc,h.1,h.2,Av,simprocAttr]
   .refine⟨g,?_,by omega,by simp[findR,h]⟩;simp[isK] at h;by_cases h1:c.name=n
    .simp(disch:=omega)only[Bt8,hc,h1,h h1,Av,simprocAttr]
    .by_cases h2:c.typ=t<;>simp(disch:=omega)only[Bt8,hc,h1,h2,Av,simprocAttr]
  .simp(disch:=omega)only[Bt8,Av,simprocAttr];simp[findR,Out.goes]
 simp(disch:=omega)only[Bt8,key,Av,simprocAttr]
def bz (x:Rec):List Rec->List Rec
 |[]=>[x]
 |y::r=>if af y x<0 then y::bz x r else if af y x=0 then(if x.ttl<y.ttl then x::r else y::r) else x::y::r
def sortR (l:List Rec):List Rec:=l.foldl (fun acc x=>bz x acc) []
def Bj5 (x:Rec):∀l,(bz x l).length<=l.length+1
 |[]=>by simp[bz]
 |y::r=>by
  have:=Bj5 x r;simp only[bz];split
  .simp;omega
  .split
   .split<;>simp
   .simp
def insR_mem (x:Rec):∀(l:List Rec) (y:Rec),y∈bz x l->y=x∨y∈l
 |[],y,h=>by simp[bz] at h;exact .inl h
 |z::r,y,h=>by
  simp only[bz] at h;split at h
  .simp at h;rcases h with h|h
   .exact .inr (by simp[h])
   .rcases insR_mem x r y h with h|h
    .exact .inl h
    .exact .inr (by simp[h])
  .split at h
   .split at h
    .simp at h;rcases h with h|h
     .exact .inl h
     .exact .inr (by simp[h])
    .exact .inr h
   .simp at h;rcases h with h|h
    .exact .inl h
    .exact .inr (by simpa using h)
def Gz (n top:List UInt8):Bool:=decide (n≠top) && under n top
def vk (l:List Rec) (n:List UInt8) (t:Int):Bool:=decide (0<(findR l n t).length)
def Tr (r x:Rec):Bool:=
 !decide (x.name=r.name)||(!(decide (x.typ=r.typ) && decide (r.typ≠46) && decide (x.ttl≠r.ttl)) && !(decide (x.typ=r.typ) && (decide (r.typ=6)||decide (r.typ=5)||decide (r.typ=39)) && decide (x≠r)) &&
  !(decide (r.typ=5) && decide (x.typ≠5) && decide (x.typ≠46) && decide (x.typ≠47)))
def my (z:Zone) (r:Rec):Bool:=z.recs.all (Tr r)
def Sg (z:Zone) (r x:Rec):Bool:=
 !(decide (x.typ=39) && Gz r.name x.name) && !(decide (x.typ=2) && Gz x.name z.origin && Gz r.name x.name && decide (r.typ≠1) && decide (r.typ≠28))
def jx (t:Int):Bool:=decide (t=2)||decide (t=43)||decide (t=47)||decide (t=46)||decide (t=1)||decide (t=28)
def Up (z:Zone) (r:Rec):Bool:=
 if(lbl r.name)[0]? =some [42]∧(r.typ=2∨r.typ=39) then false
 else z.recs.all (Sg z r) && (if Gz r.name z.origin && vk z.recs r.name 2 then jx r.typ else decide (r.typ≠43))
def Um (z:Zone) (r:Rec):Bool:=under r.name z.origin && !(decide (r.typ=6) && decide (r.name≠z.origin)) && my z r && Up z r
def Jm (z:Zone):Int:=
 if vld z.origin=false then 2
 else if 2048<z.recs.length then 9
 else if z.recs.all (fun r=>decide ((findR z.recs r.name r.typ).length<=64))=false then 9
 else if z.recs.all T5=false then 5
 else if z.recs≠sortR z.recs then 7
 else if(findR z.recs z.origin 6).length≠1∨vk z.recs z.origin 2=false then 13
 else if z.recs.all (Um z)=false then 13
 else 0
def Xc (z:Zone) (n:List UInt8) (t:Int) (hl:z.recs.length<=1000000):S Rk 3 [z.pv,.s n,.i .i64 t]=some [B6 (findR z.recs n t)]:=by refine Hk8 (N:=1) rfl ?_;simp(disch:=omega)only[Gn4,Bx1,Av,simprocAttr]
def soaR (z:Zone):List Rec:=match findR z.recs z.origin 6 with
 |[]=>[]
 |r::_=>[{r with ttl:=if r.data.e<r.ttl then r.data.e else r.ttl}]
def Gl4 (z:Zone) (hl:z.recs.length<=1000000):S Dw7 1 [z.pv]=some [B6 (soaR z)]:=by
 refine Ic8 (N:=1) rfl ?_;unfold soaR;cases h:findR z.recs z.origin 6 with
 |nil=>simp(disch:=first|omega|(simp;omega))only[Gn2,Xc,h,Av,simprocAttr]
 |cons r l=>
  have h1:¬(((l.length+1:Nat):Int)=0):=by omega
  by_cases h2:r.data.e<r.ttl<;>simp(disch:=first|omega|(simp;omega))only[Gn2,Xc,h,h2,Av,simprocAttr]
def zero:Dat:=⟨false,0,0,[],[],[],0,0,0,0,0,0,0⟩
structure TO {α:Type} (lt:α->α->Prop):Prop where
 irr:∀a,¬lt a a
 tr:∀a b c,lt a b->lt b c->lt a c
 tri:∀a b,lt a b∨a=b∨lt b a
def TO.asym {α:Type} {lt:α->α->Prop} (h:TO lt) {a b:α} (h1:lt a b):¬lt b a:=fun h2=>h.irr a (h.tr _ _ _ h1 h2)
def TO.ntr {α:Type} {lt:α->α->Prop} (h:TO lt) {a b c:α} (h1:¬lt a b) (h2:¬lt b c):¬lt a c:=by
 intro h3;rcases h.tri b a with h4|h4|h4
 .exact h2 (h.tr _ _ _ h4 h3)
 .subst h4;exact h2 h3
 .exact h1 h4
def lex {α:Type} (lt:α->α->Prop):List α->List α->Prop
 |[],[]=>False
 |[],_::_=>True
 |_::_,[]=>False
 |a::x,b::y=>lt a b∨(a=b∧lex lt x y)
def Dy6 {α:Type} {lt:α->α->Prop} (h:TO lt):∀x:List α,¬lex lt x x
 |[]=>by simp[lex]
 |a::x=>by simp only[lex,true_and,not_or];exact⟨h.irr a,Dy6 h x⟩
def Fx5 {α:Type} {lt:α->α->Prop} (h:TO lt):∀x y z:List α,lex lt x y->lex lt y z->lex lt x z
 |[],[],_,h1,_=>by simp[lex] at h1
 |[],_::_,[],_,h2=>by simp[lex] at h2
 |[],_::_,_::_,_,_=>by simp[lex]
 |_::_,[],_,h1,_=>by simp[lex] at h1
 |_::_,_::_,[],_,h2=>by simp[lex] at h2
 |a::x,b::y,c::z,h1,h2=>by
  simp only[lex] at h1 h2 ⊢;rcases h1 with h1|⟨rfl,h1⟩
  .rcases h2 with h2|⟨rfl,h2⟩
   .exact .inl (h.tr _ _ _ h1 h2)
   .exact .inl h1
  .rcases h2 with h2|⟨rfl,h2⟩
   .exact .inl h2
   .exact .inr ⟨rfl,Fx5 h x y z h1 h2⟩
def lex_tri {α:Type} {lt:α->α->Prop} (h:TO lt):∀x y:List α,lex lt x y∨x=y∨lex lt y x
 |[],[]=> .inr (.inl rfl)
 |[],_::_=> .inl (by simp[lex])
 |_::_,[]=> .inr (.inr (by simp[lex]))
 |a::x,b::y=>by
  simp only[lex];rcases h.tri a b with h1|rfl|h1
  .exact .inl (.inl h1)
  .rcases lex_tri h x y with h2|rfl|h2
   .exact .inl (.inr ⟨rfl,h2⟩)
   .exact .inr (.inl rfl)
   .exact .inr (.inr (.inr ⟨rfl,h2⟩))
  .exact .inr (.inr (.inl h1))
def TO.lex {α:Type} {lt:α->α->Prop} (h:TO lt):TO (G.lex lt):=⟨Dy6 h,Fx5 h,lex_tri h⟩
def Ix1:TO (fun a b:UInt8=>a<b):=⟨fun a=>UInt8.lt_irrefl a,fun a b c h1 h2=>UInt8.lt_trans h1 h2,fun a b=>by
 rcases UInt8.lt_or_le a b with h|h
 .exact .inl h
 .rcases UInt8.lt_or_le b a with h2|h2
  .exact .inr (.inr h2)
  .exact .inr (.inl (UInt8.le_antisymm h2 h))⟩
abbrev ltB:List UInt8->List UInt8->Prop:=lex fun a b:UInt8=>a<b
def Eq5:TO ltB:=Ix1.lex
def Z8:∀a b:List UInt8,Op.bytesLess a b=true↔ltB a b
 |[],[]=>by simp[Op.bytesLess,lex]
 |[],_::_=>by simp[Op.bytesLess,lex]
 |_::_,[]=>by simp[Op.bytesLess,lex]
 |a::x,b::y=>by have ih:=Z8 x y;simp only[Op.bytesLess,Ck,decide_eq_true_eq,Bp,beq_iff_eq,lex];rw[ih]
def Xw (a b:List UInt8):cmpS a b<0↔ltB a b:=by
 rw[<-Z8];unfold cmpS;cases h:Op.bytesLess a b
 .simp only[B5,if_false,iff_false];split<;>omega
 .simp
abbrev ltL:List (List UInt8)->List (List UInt8)->Prop:=lex ltB
def to_L:TO ltL:=Eq5.lex
def Bn4 (a b:List (List UInt8)):Int:=match ab a b with
 |some c=>c
 |none=>if a.length<b.length then -1 else if b.length<a.length then 1 else 0
def Bq4:∀a b:List (List UInt8),Bn4 a b<0↔ltL a b
 |[],[]=>by simp[Bn4,ab,lex]
 |[],_::_=>by simp[Bn4,ab,lex]
 |_::_,[]=>by simp[Bn4,ab,lex]
 |x::xs,y::ys=>by
  have ih:=Bq4 xs ys;simp only[Bn4,ab,lex] at ih ⊢;by_cases h:x=y
  .subst h;rw[if_pos rfl];simp only[Cy,Nat.add_lt_add_iff_right,true_and];rw[ih];constructor
   .exact fun h=> .inr h
   .rintro (h|h)
    .exact absurd h (Eq5.irr x)
    .exact h
  .rw[if_neg h];simp only;rw[Xw];simp[h]
def Aw7 (a b:List (List UInt8)):Bn3 a b=Bn4 a.reverse b.reverse:=by unfold Bn3 Bn4;cases ab a.reverse b.reverse<;>simp
def Dl9 (a b:List (List UInt8)):Bn3 a b<0↔ltL a.reverse b.reverse:=by rw[<-Bq4,Aw7]
def ltN (a b:List UInt8):Prop:=if vld a=true then(if vld b=true then ltL (lbl a).reverse (lbl b).reverse else True) else(if vld b=true then False else ltB a b)
def Gq (a b:List UInt8):Ky a b<0↔ltN a b:=by
 unfold ltN;rcases Bm (vld a) with ha|ha
 .rcases Bm (vld b) with hb|hb
  .rw[lp ha hb,Dl9,if_pos ha,if_pos hb]
  .unfold Ky;simp[ha,hb]
 .rcases Bm (vld b) with hb|hb
  .unfold Ky;simp[ha,hb]
  .have e:Ky a b=cmpS a b:=by unfold Ky;simp[ha,hb]
   rw[e,Xw];simp[ha,hb]
def to_N:TO ltN:=by
 refine⟨fun a h=> ?_,fun a b c h1 h2=> ?_,fun a b=> ?_⟩
 .unfold ltN at h;split at h
  .exact to_L.irr _ h
  .exact Eq5.irr _ h
 .unfold ltN at*;rcases Bm (vld a) with ha|ha<;>rcases Bm (vld b) with hb|hb<;>rcases Bm (vld c) with hc|hc<;>
   simp only[ha,hb,hc,if_true,B5,if_false] at h1 h2 ⊢
  .exact to_L.tr _ _ _ h1 h2
  .exact Eq5.tr _ _ _ h1 h2
 .unfold ltN;rcases Bm (vld a) with ha|ha<;>rcases Bm (vld b) with hb|hb<;>simp only[ha,hb,if_true,B5,if_false]
  .rcases to_L.tri (lbl a).reverse (lbl b).reverse with h|h|h
   .exact .inl h
   .exact .inr (.inl (Nb ha hb (List.reverse_inj.1 h)))
   .exact .inr (.inr h)
  .simp
  .simp
  .exact Eq5.tri a b
def Jc {a b:List UInt8}:Ky a b=0↔a=b:=by
 constructor
 .intro h;rcases Bm (vld a) with ha|ha
  .rcases Bm (vld b) with hb|hb
   .rw[lp ha hb] at h;have key:∀x y:List (List UInt8),Bn4 x y=0->x=y:=by
     intro x
     induction x with
     |nil=>intro y hy;cases y with
      |nil=>rfl
      |cons=>simp[Bn4,ab] at hy
     |cons x xs ih=>intro y hy;cases y with
      |nil=>simp[Bn4,ab] at hy
      |cons y ys=>
       simp only[Bn4,ab] at hy ih;by_cases e:x=y
       .subst e;rw[if_pos rfl] at hy;simp only[Cy,Nat.add_lt_add_iff_right] at hy;rw[ih ys hy]
       .rw[if_neg e] at hy;exact absurd (Lv.1 hy) e
    rw[Aw7] at h;exact Nb ha hb (List.reverse_inj.1 (key _ _ h))
   .unfold Ky at h;simp[ha,hb] at h
  .rcases Bm (vld b) with hb|hb
   .unfold Ky at h;simp[ha,hb] at h
   .have e:Ky a b=cmpS a b:=by unfold Ky;simp[ha,hb]
    rw[e] at h;exact Lv.1 h
 .rintro rfl;have h1:=Gq a a;have h2:¬Ky a a<0:=fun h=>to_N.irr a (h1.1 h);have key:∀x:List (List UInt8),Bn4 x x=0:=by
   intro x
   induction x with
   |nil=>rfl
   |cons x xs ih=>
    simp only[Bn4,ab] at ih ⊢;simp only[if_true,Cy,Nat.add_lt_add_iff_right];exact ih
  rcases Bm (vld a) with ha|ha
  .rw[lp ha ha];rw[Aw7];exact key _
  .have e:Ky a a=cmpS a a:=by unfold Ky;simp[ha]
   rw[e];exact Lv.2 rfl
def Wr {α:Type} (e:α->α->Bool):α->List α->List α
 |_,[]=>[]
 |p,c::r=>if e c p=true then Wr e c r else c::Wr e c r
def cpt {α:Type} (e:α->α->Bool):List α->List α
 |[]=>[]
 |x::r=>x::Wr e x r
def wx {α:Type} (e:α->α->Bool) (c:α):∀(r:List α) (p:α),Wr e p (r++[c])=Wr e p r++(if e c ((p::r).getLast (by simp))=true then [] else [c])
 |[],p=>by simp only[Dc,Wr,List.getLast_singleton];rfl
 |x::r,p=>by
  have ih:=wx e c r x;simp only[Dl,Wr,List.getLast_cons_cons];split
  .exact ih
  .rw[ih];rfl
def Qb {α:Type} (e:α->α->Bool) (c:α) (l:List α) (h:l≠[]):cpt e (l++[c])=cpt e l++(if e c (l.getLast h)=true then [] else [c]):=by
 cases l with
 |nil=>exact absurd rfl h
 |cons x r=>
  show x::Wr e x (r++[c])=_;rw[wx];rfl
def Bk6 {α:Type} (e:α->α->Bool):∀(r:List α) (p:α),(Wr e p r).length<=r.length
 |[],_=>by simp[Wr]
 |c::r,p=>by have:=Bk6 e r c;simp only[Wr];split<;>simp<;>omega
def lg {α:Type} (e:α->α->Bool) (l:List α):(cpt e l).length<=l.length:=by
 cases l with
 |nil=>simp[cpt]
 |cons x r=>have:=Bk6 e r x;simp[cpt];exact this
def lh {α:Type} (e:α->α->Bool):∀(r:List α) (p:α),∀x∈Wr e p r,x∈r
 |[],_,x,h=>by simp[Wr] at h
 |c::r,p,x,h=>by
  simp only[Wr] at h;split at h
  .exact .tail _ (lh e r c x h)
  .rcases Cj.1 h with rfl|h
   .exact .head _
   .exact .tail _ (lh e r c x h)
def Gd4 {α:Type} (e:α->α->Bool) (l:List α):∀x∈cpt e l,x∈l:=by
 cases l with
 |nil=>intro x h;simp[cpt] at h
 |cons y r=>
  intro x h;rcases Cj.1 (show x∈y::Wr e y r from h) with rfl|h
  .exact .head _
  .exact .tail _ (lh e r y x h)
abbrev eqs {α:Type} [DecidableEq α]:α->α->Bool:=fun a b=>decide (a=b)
def cptG_mem {α:Type} [DecidableEq α]:∀(r:List α) (p x:α),x∈r->x=p∨x∈Wr eqs p r
 |[],_,x,h=>by simp at h
 |c::r,p,x,h=>by
  simp only[Wr];by_cases hc:c=p
  .subst hc;rw[if_pos (by simp[eqs])];rcases Cj.1 h with rfl|h
   .exact .inl rfl
   .exact cptG_mem r c x h
  .rw[if_neg (by simp[eqs,hc])];right;rcases Cj.1 h with rfl|h
   .exact .head _
   .rcases cptG_mem r c x h with rfl|h
    .exact .head _
    .exact .tail _ h
def Gd5 {α:Type} [DecidableEq α] (l:List α) (x:α):x∈cpt eqs l↔x∈l:=by
 refine⟨Gd4 _ l x,fun h=> ?_⟩;cases l with
 |nil=>simp at h
 |cons y r=>
  rcases Cj.1 h with rfl|h
  .exact .head _
  .rcases cptG_mem r y x h with rfl|h
   .exact .head _
   .exact .tail _ h
def Z0 {α:Type} [DecidableEq α] {lt:α->α->Prop} (ht:TO lt):∀(r:List α) (p:α),(p::r).Pairwise (fun a b=>¬lt b a)->(p::Wr eqs p r).Pairwise lt
 |[],p,_=>by simp[Wr]
 |c::r,p,h=>by
  rw[Cd] at h;have ih:=Z0 ht r c h.2;simp only[Wr];by_cases hc:c=p
  .subst hc;rw[if_pos (by simp[eqs])];exact ih
  .rw[if_neg (by simp[eqs,hc])];rw[Cd];refine⟨fun x hx=> ?_,ih⟩;have hpc:lt p c:=by
    rcases ht.tri p c with h1|h1|h1
    .exact h1
    .exact absurd h1.symm hc
    .exact absurd h1 (h.1 c (.head _))
   rcases Cj.1 hx with rfl|hx
   .exact hpc
   .exact ht.tr _ _ _ hpc ((Cd.1 ih).1 x hx)
def Bn0 {α:Type} [DecidableEq α] {lt:α->α->Prop} (ht:TO lt) (l:List α) (h:l.Pairwise (fun a b=>¬lt b a)):(cpt eqs l).Pairwise lt:=by
 cases l with
 |nil=>simp[cpt]
 |cons x r=>exact Z0 ht r x h
def Yv {α:Type} {lt:α->α->Prop} (ht:TO lt):∀(a b:List α),a.Pairwise lt->b.Pairwise lt->(∀x,x∈a↔x∈b)->a=b
 |[],[],_,_,_=>rfl
 |[],y::b,_,_,h=>absurd ((h y).2 (.head _)) (by simp)
 |x::a,[],_,_,h=>absurd ((h x).1 (.head _)) (by simp)
 |x::a,y::b,ha,hb,h=>by
  rw[Cd] at ha hb;have hxy:x=y:=by
   rcases Cj.1 ((h x).1 (.head _)) with h1|h1
   .exact h1
   .rcases Cj.1 ((h y).2 (.head _)) with h2|h2
    .exact h2.symm
    .exact absurd (hb.1 x h1) (ht.asym (ha.1 y h2))
  subst hxy;rw[Yv ht a b ha.2 hb.2 fun z=> ?_];constructor
  .intro hz;rcases Cj.1 ((h z).1 (.tail _ hz)) with rfl|h1
   .exact absurd (ha.1 z hz) (ht.irr z)
   .exact h1
  .intro hz;rcases Cj.1 ((h z).2 (.tail _ hz)) with rfl|h1
   .exact absurd (hb.1 z hz) (ht.irr z)
   .exact h1
def setN (l:List (List UInt8)):List (List UInt8):=cpt eqs (l.mergeSort fun x y=> !decide (Ky y x<0))
def Gv7 (l:List (List UInt8)):(l.mergeSort fun x y=> !decide (Ky y x<0)).Pairwise (fun a b=>¬ltN b a):=by
 have:=List.pairwise_mergeSort (le:=fun x y:List UInt8=> !decide (Ky y x<0)) (fun a b c h1 h2=>by
  simp only[Cf,decide_eq_false_iff_not,Gq] at h1 h2 ⊢;exact to_N.ntr h2 h1) (fun a b=>by
  simp only[Ck,Cf,decide_eq_false_iff_not,Gq];rcases to_N.tri a b with h|h|h
  .exact .inl (to_N.asym h)
  .subst h;exact .inl (to_N.irr a)
  .exact .inr (to_N.asym h)) l
 refine this.imp fun {a b} h=> ?_;simpa only[Cf,decide_eq_false_iff_not,Gq] using h
def K8 (l:List (List UInt8)):(setN l).Pairwise ltN:=Bn0 to_N _ (Gv7 l)
def M9 (l:List (List UInt8)) (x:List UInt8):x∈setN l↔x∈l:=by unfold setN;rw[Gd5];exact(List.mergeSort_perm _ _).mem_iff
def Sy (l:List (List UInt8)):(setN l).length<=l.length:=by have:=lg eqs (l.mergeSort fun x y=> !decide (Ky y x<0));rw[yc] at this;exact this
def qw {step:List PV->Option Out} {id:Nat} {α:Type} (st:α->List PV) (Q:Out->Prop) (I:α->Prop) (μ:α->Nat)
  (h:∀a,I a->(∃b,step (st a)=some (.yld id (st b))∧I b∧μ b<μ a)∨∃o,step (st a)=some o∧o.goes id=false∧Q o):
  ∀(n:Nat) (a:α),I a->μ a<n->∃o,Ix step id n (st a)=some o∧Q o
 |0,a,_,hn=>by omega
 |n+1,a,ha,hn=>by
  simp only[Ix];rcases h a ha with⟨b,h1,h2,h3⟩|⟨o,h1,h2,h3⟩
  .rw[h1];simp only[B3,if_true];exact qw st Q I μ h n b h2 (by omega)
  .rw[h1];refine⟨o,?_,h3⟩;simp only[B3];cases o with
   |ret vs=>rfl
   |yld j vs=>
    simp only[Out.goes,beq_eq_false_iff_ne,ne_eq] at h2;simp only[];rw[if_neg h2]
def Jy {fn:Fns} {N:Nat} {J:List PV} {id:Nat} {init:List E} {body:T} {α:Type} (st:α->List PV) (Q:Out->Prop) (I:α->Prop) (μ:α->Nat) (a0:α)
  (h0:E.evs J init=some (st a0)) (hI:I a0) (hN:μ a0<N)
  (h:∀a,I a->(∃b,body.ev fn N (J++st a)=some (.yld id (st b))∧I b∧μ b<μ a)∨∃o,body.ev fn N (J++st a)=some o∧o.goes id=false∧Q o):
  ∃o,(T.loop id init body).ev fn N J=some o∧Q o:=by
 simp only[T.ev,h0,B3];exact qw st Q I μ h N a0 hI hN
abbrev zr:Rec:=⟨[],0,0,⟨false,0,0,[],[],[],0,0,0,0,0,0,0⟩⟩
abbrev Af3:PV:=Rec.pv ⟨[],0,0,⟨false,0,0,[],[],[],0,0,0,0,0,0,0⟩⟩
def Hl1 (p:Rec->Bool):∀(l:List Rec) (k:Nat),ixF p k l=ixG p k l
 |[],_=>rfl
 |r::rs,k=>by simp only[ixF,ixG,Hl1 p rs]
def cp (l:List Rec) (g:Nat) (caps:List PV) (p:Rec->Bool) (hl:l.length<=1000000) (h:∀r∈l,S g 1 (r.pv::caps)=some [.b (p r)]):S Bg4 2 [B6 l,.f g caps]=some [.i .i64 (ixG p 0 l)]:=by rw[<-Hl1];exact T2 l g caps p hl h
def Am1 (n:Int) (h0:0<=n) (h1:n<=1073741824):Ov 16 (.i .i64 n) Af3=some (B6 (List.replicate n.toNat zr)):=by
 have h2:n<=(LIM:Int):=by simp only[LIM];omega
 have h3:Af3.cells.length=16:=rfl;simp only[Ov,h0,h2,h3,and_self,if_true];simp[B6,Rec.pv,Rec.cells,Dat.cells]
def Vd (l:List Rec) (g:Nat) (caps:List PV) (p:Rec->Bool) (hl:l.length<=1000000) (h:∀r∈l,S g 1 (r.pv::caps)=some [.b (p r)]):S Ss 1048578 [B6 l,.f g caps]=some [B6 (l.filter fun x=> !p x)]:=by
 refine Hz3 (N:=l.length+1) rfl ?_;have h0:=cp l g caps p hl h;have hany:=(Aq5 p l 0);by_cases hneg:ixG p 0 l= -1
 .have hf:l.any p=false:=by
   rcases Bm (l.any p) with h1|h1
   .have:=hany.1.2 h1;omega
   .exact h1
  have e:l.filter (fun x=> !p x)=l:=Mg p (fun x hx=>by rw[List.any_eq_false] at hf;simpa using hf x hx);rw[hneg] at h0;rw[e];simp(disch:=omega)only[oy,h0,EVT,Ak,simprocAttr]
 .obtain⟨j0,g1,g2,g3,x0,g4,g5⟩:=u5 p l 0 (by have:=hany.2.2;omega);rw[g1] at h0;simp only[F2] at h0;have key:∃s:List Rec,s.length=l.length∧s.take (l.filter fun x=> !p x).length=l.filter (fun x=> !p x)∧Dc7.ev S (l.length+1) [B6 l,.f g caps,.i .i64 (j0:Int)]=some (.yld 0 [.i .i64 (((l.filter fun x=> !p x).length:Nat):Int),B6 s]):=by
   let nx:Nat×Nat×List Rec->Nat×Nat×List Rec:=fun a=>match l[a.2.1]? with
    |some c=>if p c=true then(a.1,a.2.1+1,a.2.2) else(a.1+1,a.2.1+1,a.2.2.set a.1 c)
    |none=>a
   let fin:Nat->Nat×Nat×List Rec->Nat×Nat×List Rec:=fun n a=>Nat.rec a (fun _ b=>nx b) n;have fin_s:∀n a,fin (n+1) a=nx (fin n a):=fun _ _=>rfl;have fin_c:∀n a,fin (n+1) a=fin n (nx a):=by
    intro n
    induction n with
    |zero=>intro a;rfl
    |succ n ih=>intro a;exact congrArg nx (ih a)
   let I:Nat×Nat×List Rec->Prop:=fun a=>a.1<a.2.1∧a.2.1<=l.length∧a.2.2.length=l.length∧a.2.2.take a.1=(l.take a.2.1).filter (fun x=> !p x)∧a.2.2.drop a.2.1=l.drop a.2.1;have I_nx:∀a,I a->a.2.1<l.length->I (nx a)∧(nx a).2.1=a.2.1+1:=by
    rintro⟨i,j,s⟩ ⟨i1,i2,i3,i4,i5⟩ hj;simp only at i1 i2 i3 i4 i5 hj;have hc:l[j]? =some l[j]:=B0 hj;have ht:l.take (j+1)=l.take j++[l[j]]:=by rw[Dr,hc];rfl
    have hdrop:s.drop (j+1)=l.drop (j+1):=by rw[<-D6 (i:=1) (j:=j),i5,D6]
    have hlen:i=((l.take j).filter fun x=> !p x).length:=by rw[<-i4,Cw];omega
    simp only[nx,hc];rcases Bm (p l[j]) with h1|h1
    .simp only[h1,if_true];refine⟨⟨by simp only;omega,by simp only;omega,i3,?_,hdrop⟩,trivial⟩;simp only;rw[ht,Fp,i4];simp[h1]
    .simp only[h1,B5,if_false];refine⟨⟨by simp only;omega,by simp only;omega,by simpa using i3,?_,?_⟩,trivial⟩
     .simp only;rw[ht,Fp,<-i4,Dr,M0 (by omega),List.take_set_of_le (by omega)];simp[h1]
     .simp only;rw[Wt (by omega),hdrop]
   have I_fin:∀n a,I a->a.2.1+n<=l.length->I (fin n a)∧(fin n a).2.1=a.2.1+n:=by
    intro n
    induction n with
    |zero=>intro a ha _;exact⟨ha,rfl⟩
    |succ n ih=>
     intro a ha hn;obtain⟨q1,q2⟩:=ih a ha (by omega);obtain⟨q3,q4⟩:=I_nx _ q1 (by omega);rw[fin_s];exact⟨q3,by rw[q4,q2];omega⟩
   have I0:I (j0,j0+1,l):=by refine⟨by simp only;omega,by simp only;omega,rfl,?_,rfl⟩;simp only;rw[Dr,g4,Fp,Mg p g3];simp[g5]
   obtain⟨z1,z2⟩:=I_fin (l.length - (j0+1)) (j0,j0+1,l) I0 (by simp only;omega);simp only at z2;refine⟨(fin (l.length - (j0+1)) (j0,j0+1,l)).2.2,z1.2.2.1,?_,?_⟩
   .have q:=z1.2.2.2.1;have e1:(fin (l.length - (j0+1)) (j0,j0+1,l)).2.1=l.length:=by rw[z2];omega
    rw[e1,Eh] at q;rw[<-q,Cw,z1.2.2.1];have:=z1.1;rw[L8 (by omega)]
   .have hlen:(fin (l.length - (j0+1)) (j0,j0+1,l)).1=(l.filter fun x=> !p x).length:=by
     have q:=z1.2.2.2.1;have e1:(fin (l.length - (j0+1)) (j0,j0+1,l)).2.1=l.length:=by rw[z2];omega
     rw[e1,Eh] at q;have q2:=congrArg List.length q;have:=z1.1;rw[Cw,z1.2.2.1,L8 (by omega)] at q2;exact q2
    refine Eq.trans (Lj (α:=Nat×Nat×List Rec) (fun a=>[.i .i64 (a.1:Int),.i .i64 (a.2.1:Int),B6 a.2.2]) (fun a=> .yld 0 [.i .i64 ((fin (l.length - a.2.1) a).1:Int),B6 (fin (l.length - a.2.1) a).2.2]) I (fun a=>l.length - a.2.1) (j0,j0+1,l) ?_ I0 (by simp only;omega) ?_) ?_
    .simp(disch:=omega)only[EVT,Ak,simprocAttr]
    .rintro⟨i,j,s⟩ hI;obtain⟨i1,i2,i3,i4,i5⟩:=hI;simp only at i1 i2 i3 i4 i5;by_cases hj:j<l.length
     .left;have hc:l[j]? =some l[j]:=B0 hj;have hsc:s[j]? =some l[j]:=by have:=congrArg (fun q=>q[0]?) i5;simpa [Cl,hc] using this
      have hsi:∃y,s[i]? =some y:=⟨_,B0 (by omega)⟩;obtain⟨y,hsi⟩:=hsi;obtain⟨q3,q4⟩:=I_nx (i,j,s) ⟨i1,i2,i3,i4,i5⟩ hj;have hp:=h l[j] (Er hj);refine⟨nx (i,j,s),?_,q3,by rw[q4];simp only;omega,?_⟩
      .have hjs:(j:Int)<(s.length:Int):=by omega
       rcases Bm (p l[j]) with h1|h1
       .rw[h1] at hp;simp only[nx,hc,h1,if_true];simp(disch:=omega)only[oy,hjs,hsc,hp,EVT,Ak,simprocAttr]
       .rw[h1] at hp;simp only[nx,hc,h1,B5,if_false];simp(disch:=omega)only[oy,hjs,hsc,hsi,hp,EVT,Ak,simprocAttr]
      .have e1:l.length - j=(l.length - (j+1))+1:=by omega
       rw[q4];simp only;rw[e1,fin_c]
     .right;have hjs:¬(j:Int)<(s.length:Int):=by omega
      have e1:l.length - j=0:=by omega
      simp only[e1];simp(disch:=omega)only[oy,hjs,EVT,Ak,simprocAttr];exact⟨rfl,rfl⟩
    .simp only;rw[hlen]
  obtain⟨s,hs1,hs2,key⟩:=key;have hle:(l.filter fun x=> !p x).length<=l.length:=D4 _ _;have e0:¬((j0:Int)= -1):=by omega
  generalize (l.filter fun x=> !p x)=fl at*;have hsl1:Jx 16 (B6 s) (.i .i64 ((fl.length:Nat):Int)) (.i .i64 (s.length:Int))=some (B6 (s.drop fl.length)):=by rw[Jw _ _ _ _ _ (by omega) (by omega) (by omega)];simp
  have hsl2:Jx 16 (B6 s) (.i .i64 0) (.i .i64 ((fl.length:Nat):Int))=some (B6 fl):=by rw[Jw _ _ _ _ _ (by omega) (by omega) (by omega)];simp[hs2]
  have hrep:Ov 16 (.i .i64 ((s.length:Int) - (fl.length:Int))) Af3=some (B6 (List.replicate (s.length - fl.length) zr)):=by rw[Am1 _ (by omega) (by omega)];congr 3;omega
  have happ:Jh 16 (B6 fl) (B6 (List.replicate (s.length - fl.length) zr))=some (B6 (fl++List.replicate (s.length - fl.length) zr)):=J4 _ _ (by simp;omega);have hsl3:Jx 16 (B6 (fl++List.replicate (s.length - fl.length) zr)) (.i .i64 0) (.i .i64 ((fl.length:Nat):Int))=some (B6 fl):=by rw[Jw _ _ _ _ _ (by omega) (by omega) (by simp;omega)];simp
  simp(disch:=omega)only[oy,h0,e0,key,hsl1,hsl2,hrep,happ,hsl3,EVT,Ak,simprocAttr]
def Gf0:PV->PV->Int
 | .s a,.s b=>Ky a b
 |_,_=>0
def m7 (l:List (List UInt8)) (hl:l.length<=1000000) (hs:∀x∈l,x.length<=9223372036854775807):S Sp 1048578 [C8 l,.f Ls []]=some [C8 (l.mergeSort fun x y=> !decide (Ky y x<0))]:=by
 have hm:∀x∈l.map PV.s,∃a∈l,x= .s a:=fun x hx=>by obtain⟨a,h1,h2⟩:=Ev.1 hx;exact⟨a,h1,h2.symm⟩
 have h:=Al6 (tab:=tab) (xs:=Gz2) (ss:=il) (f:=Sp) (s:=Cf4) Ft5 Gj1 (g:=Ls) (caps:=[]) (l:=l.map PV.s) (by decide) (by simp;omega)
  (fun x hx=>by obtain⟨a,_,rfl⟩:=hm x hx;rfl) Gf0
  (fun x hx y hy=>by obtain⟨a,ha,rfl⟩:=hm x hx;obtain⟨b,hb,rfl⟩:=hm y hy;exact J0 a b (hs a ha) (hs b hb))
  (fun x hx=>by obtain⟨a,_,rfl⟩:=hm x hx;show¬Ky a a<0;rw[Gq];exact to_N.irr a)
  (fun x hx y hy z hz h1 h2=>by obtain⟨a,_,rfl⟩:=hm x hx;obtain⟨b,_,rfl⟩:=hm y hy;obtain⟨c,_,rfl⟩:=hm z hz;exact(Gq a c).2 (to_N.tr _ _ _ ((Gq a b).1 h1) ((Gq b c).1 h2)))
  (fun x hx y hy z hz h1 h2=>by obtain⟨a,_,rfl⟩:=hm x hx;obtain⟨b,_,rfl⟩:=hm y hy;obtain⟨c,_,rfl⟩:=hm z hz;exact fun h3=>to_N.ntr (fun q=>h1 ((Gq a b).2 q)) (fun q=>h2 ((Gq b c).2 q)) ((Gq a c).1 h3))
  (fun x hx y hy h1 h2=>by
   obtain⟨a,_,rfl⟩:=hm x hx;obtain⟨b,_,rfl⟩:=hm y hy;rcases to_N.tri a b with q|q|q
   .exact absurd ((Gq a b).2 q) h1
   .rw[q]
   .exact absurd ((Gq b a).2 q) h2)
 have e:(l.map PV.s).mergeSort (fun x y=> !decide (Gf0 y x<0))=(l.mergeSort fun x y=> !decide (Ky y x<0)).map PV.s:=(Ik5 (r:=fun x y=> !decide (Ky y x<0)) (s:=fun x y=> !decide (Gf0 y x<0)) (f:=PV.s) fun a _ b _=>rfl).symm;rw[e] at h;exact h
def Rc (l:List (List UInt8)) (hl:l.length<=1000000):S d4 1048577 [C8 l]=some [C8 (cpt eqs l)]:=by
 refine Hx4 (N:=l.length+2) rfl ?_;by_cases h2:(l.length:Int)<2
 .have e:cpt eqs l=l:=by
   match l,h2 with
   |[],_=>rfl
   |[x],_=>rfl
   |_::_::_,h=>simp at h;omega
  rw[e];simp(disch:=omega)only[R4,h2,EVT,Ak,simprocAttr]
 ·-- the inner Ix, from a place where two neighbours are equal
  have inner:∀k:Nat,1<=k->k<l.length->cpt eqs (l.take (k+1))=l.take k->∃s:List (List UInt8),s.length=l.length∧s.take (cpt eqs l).length=cpt eqs l∧Dz8.ev S (l.length+2) [C8 l,.i .i64 (k:Int),C8 l]=some (.yld 2 [.i .i64 ((cpt eqs l).length:Int),C8 s]):=by
   intro k hk1 hk hcp;have key:=Jy (fn:=S) (N:=l.length+2) (J:=[C8 l,.i .i64 (k:Int),C8 l]) (id:=3) (init:=[(.v 1),(.c (.i .i64 (1))),(.v 2)]) (body:=Ab5) (α:=Nat×Nat×List (List UInt8))
    (fun a=>[.i .i64 (a.1:Int),.i .i64 (a.2.1:Int),C8 a.2.2])
    (fun o=>∃s:List (List UInt8),s.length=l.length∧s.take (cpt eqs l).length=cpt eqs l∧o= .yld 2 [.i .i64 ((cpt eqs l).length:Int),C8 s])
    (fun a=>1<=a.2.1∧k+a.2.1<=l.length∧a.1<k+a.2.1∧a.2.2.length=l.length∧a.2.2.take a.1=cpt eqs (l.take (k+a.2.1))∧(cpt eqs (l.take (k+a.2.1))).length=a.1∧a.2.2.drop (k+a.2.1 - 1)=l.drop (k+a.2.1 - 1))
    (fun a=>l.length - a.2.1) (k,1,l) (by simp(disch:=omega)only[EVT,Ak,simprocAttr])
    ⟨by simp,by simp;omega,by simp,rfl,by simp only;rw[hcp],by simp only;rw[hcp,Cw];omega,rfl⟩ (by simp only;omega) ?_
   .obtain⟨o,h3,s,h4,h5,rfl⟩:=key;exact⟨s,h4,h5,h3⟩
   .rintro⟨i,j,s⟩ ⟨a1,a2,a3,a4,a5,a6,a7⟩;simp only at a1 a2 a3 a4 a5 a6 a7;by_cases hj:k+j<l.length
    .left;have c1:s[k+j]? =l[k+j]? :=by have:=congrArg (fun q=>q[1]?) a7;simp only[Cl] at this;rwa[show k+j - 1+1=k+j by omega] at this
     have c0:s[k+j - 1]? =l[k+j - 1]? :=by have:=congrArg (fun q=>q[0]?) a7;simpa only[Cl,E4] using this
     have g1:l[k+j]? =some (l[k+j]'hj):=B0 hj;have g0:l[k+j - 1]? =some (l[k+j - 1]'(by omega)):=B0 (by omega);have tk:l.take (k+(j+1))=l.take (k+j)++[l[k+j]'hj]:=by rw[show k+(j+1)=(k+j)+1 by omega,Dr,g1];rfl
     have ne:l.take (k+j)≠[]:=by intro h;have:=congrArg List.length h;rw[Cw,C3] at this;omega
     have gl:(l.take (k+j)).getLast ne=l[k+j - 1]'(by omega):=by rw[Lf];simp only[Af2,Cw];congr 1;omega
     have cs:=Qb eqs (l[k+j]'hj) (l.take (k+j)) ne;rw[<-tk,gl] at cs;generalize l[k+j]'hj=x at*;generalize l[k+j - 1]'(by omega)=y at*;have hjj:(j:Int)<(s.length:Int) - (k:Int):=by omega
     have i1:H6 1 (C8 s) (.i .i64 ((k:Int)+(j:Int)))=some (.s x):=by rw[Qx _ _ _ (by omega),show ((k:Int)+(j:Int)).toNat=k+j by omega,c1,g1];rfl
     have i0:H6 1 (C8 s) (.i .i64 ((k:Int)+((j:Int) - 1)))=some (.s y):=by rw[Qx _ _ _ (by omega),show ((k:Int)+((j:Int) - 1)).toNat=k+j - 1 by omega,c0,g0];rfl
     have ls:Jx 1 (C8 s) (.i .i64 (k:Int)) (.i .i64 (s.length:Int))=some (C8 (s.drop k)):=by rw[Qq _ _ _ _ _ (by omega) (by omega) (by omega)];simp
     have e1:(s.drop k)[j]? =some x:=by rw[Cl,c1,g1]
     have e0:(s.drop k)[j - 1]? =some y:=by rw[Cl,show k+(j - 1)=k+j - 1 by omega,c0,g0]
     have si:∃w,s[i]? =some w:=⟨_,B0 (by omega)⟩;obtain⟨w,si⟩:=si;have ej:((j:Int) - 1).toNat=j - 1:=by omega
     by_cases hxy:x=y
     .refine⟨(i,j+1,s),?_,⟨by simp,by simp only;omega,by simp only;omega,a4,?_,?_,?_⟩,by simp only;omega⟩
      .simp(disch:=omega)only[R4,hjj,i1,i0,ls,e1,e0,ej,hxy,EVT,Ak,simprocAttr]
      .simp only;rw[cs,a5];simp[eqs,hxy]
      .simp only;rw[cs,Bt,a6];simp[eqs,hxy]
      .simp only;rw[show k+(j+1) - 1=(k+j - 1)+1 by omega,<-D6,<-D6,a7]
     .refine⟨(i+1,j+1,s.set i x),?_,⟨by simp,by simp only;omega,by simp only;omega,by simpa using a4,?_,?_,?_⟩,by simp only;omega⟩
      .simp(disch:=omega)only[R4,hjj,i1,i0,ls,e1,e0,ej,si,hxy,EVT,Ak,simprocAttr]
      .simp only;rw[cs,Dr,M0 (by omega),List.take_set_of_le (by omega),a5];simp[eqs,hxy]
      .simp only;rw[cs,Bt,a6];simp[eqs,hxy]
      .simp only;rw[show k+(j+1) - 1=(k+j - 1)+1 by omega,Wt (by omega),<-D6,<-D6,a7]
    .right;have ek:k+j=l.length:=by omega
     rw[ek,Eh] at a5 a6;have hjj:¬(j:Int)<(s.length:Int) - (k:Int):=by omega
     refine⟨.yld 2 [.i .i64 (i:Int),C8 s],?_,rfl,s,a4,by rw[a6];exact a5,by rw[a6]⟩;simp(disch:=omega)only[R4,hjj,EVT,Ak,simprocAttr]
  have key:Dc2.ev S (l.length+2) [C8 l]=some (if cpt eqs l=l then .yld 0 [C8 l] else .ret [C8 (cpt eqs l)]):=by
   have:=Jy (fn:=S) (N:=l.length+2) (J:=[C8 l]) (id:=1) (init:=[(.c (.i .i64 (1))),(.v 0)]) (body:=Ac2) (α:=Nat)
    (fun k=>[.i .i64 (k:Int),C8 l]) (fun o=>o=if cpt eqs l=l then .yld 0 [C8 l] else .ret [C8 (cpt eqs l)])
    (fun k=>1<=k∧k<=l.length∧cpt eqs (l.take k)=l.take k) (fun k=>l.length - k) 1 (by simp(disch:=omega)only[EVT,Ak,simprocAttr])
    ⟨B7 1,by omega,by cases l with
     |nil=>simp at h2
     |cons x r=>rfl⟩ (by omega) ?_
   .obtain⟨o,h3,h4⟩:=this;rw[<-h4];exact h3
   .rintro k ⟨k1,k2,k3⟩;by_cases hk:k<l.length
    .have g1:l[k]? =some l[k]:=B0 hk;have g0:l[k - 1]? =some (l[k - 1]'(by omega)):=B0 (by omega);have tk:l.take (k+1)=l.take k++[l[k]]:=by rw[Dr,g1];rfl
     have ne:l.take k≠[]:=by intro h;have:=congrArg List.length h;rw[Cw,C3] at this;omega
     have gl:(l.take k).getLast ne=l[k - 1]'(by omega):=by rw[Lf];simp only[Af2,Cw];congr 1;omega
     have cs:=Qb eqs l[k] (l.take k) ne;rw[<-tk,gl,k3] at cs;have hkk:(k:Int)<(l.length:Int):=by omega
     have i1:H6 1 (C8 l) (.i .i64 (k:Int))=some (.s l[k]):=by rw[Qx _ _ _ (by omega),show ((k:Int)).toNat=k by omega,g1];rfl
     have i0:H6 1 (C8 l) (.i .i64 ((k:Int) - 1))=some (.s (l[k - 1]'(by omega))):=by rw[Qx _ _ _ (by omega),show ((k:Int) - 1).toNat=k - 1 by omega,g0];rfl
     by_cases hxy:l[k]=l[k - 1]'(by omega)
     .right;have cs':cpt eqs (l.take (k+1))=l.take k:=by rw[cs];simp[eqs,hxy]
      obtain⟨s,s1,s2,s3⟩:=inner k k1 hk cs';have hlt:cpt eqs l≠l:=by
       intro h;have q:(cpt eqs l).length<=(cpt eqs (l.take (k+1))).length+(l.drop (k+1)).length:=by
        have:∀(b a:List (List UInt8)),a≠[]->(cpt eqs (a++b)).length<=(cpt eqs a).length+b.length:=by
         intro b
         induction b with
         |nil=>intro a _;simp
         |cons x r ih=>
          intro a ha;have h1:=ih (a++[x]) (by simp);rw[Qb _ _ _ ha] at h1;rw[show a++x::r=a++[x]++r by simp];refine Dt h1 ?_;rw[Bt];split<;>simp<;>omega
        have h3:=this (l.drop (k+1)) (l.take (k+1)) (by intro h;have:=congrArg List.length h;rw[Cw,C3] at this;omega);rwa[C7] at h3
       rw[h,cs',Cw,Dy] at q;omega
      have hlen:=lg eqs l;refine⟨.ret [C8 (cpt eqs l)],?_,rfl,by rw[if_neg hlt]⟩;generalize cpt eqs l=fl at*;have ls:Jx 1 (C8 l) (.i .i64 (k:Int)) (.i .i64 (l.length:Int))=some (C8 (l.drop k)):=by rw[Qq _ _ _ _ _ (by omega) (by omega) (by omega)];simp
      have hsl1:Jx 1 (C8 s) (.i .i64 ((fl.length:Nat):Int)) (.i .i64 (s.length:Int))=some (C8 (s.drop fl.length)):=by rw[Qq _ _ _ _ _ (by omega) (by omega) (by omega)];simp
      have hsl2:Jx 1 (C8 s) (.i .i64 0) (.i .i64 ((fl.length:Nat):Int))=some (C8 fl):=by rw[Qq _ _ _ _ _ (by omega) (by omega) (by omega)];simp[s2]
      have hrep:Ov 1 (.i .i64 ((s.length:Int) - (fl.length:Int))) (.s [])=some (C8 (List.replicate (s.length - fl.length) [])):=by rw[Am0 _ (by omega) (by omega)];congr 3;omega
      have happ:Jh 1 (C8 fl) (C8 (List.replicate (s.length - fl.length) []))=some (C8 (fl++List.replicate (s.length - fl.length) [])):=Bv9 _ _ (by simp;omega);have hsl3:Jx 1 (C8 (fl++List.replicate (s.length - fl.length) [])) (.i .i64 0) (.i .i64 ((fl.length:Nat):Int))=some (C8 fl):=by rw[Qq _ _ _ _ _ (by omega) (by omega) (by simp;omega)];simp
      simp(disch:=omega)only[R4,hkk,i1,i0,hxy,ls,s3,hsl1,hsl2,hrep,happ,hsl3,EVT,Ak,simprocAttr]
     .left;refine⟨k+1,?_,⟨by omega,by omega,?_⟩,by omega⟩
      .simp(disch:=omega)only[R4,hkk,i1,i0,hxy,EVT,Ak,simprocAttr]
      .rw[cs,tk];simp[eqs,hxy]
    .right;have e:k=l.length:=by omega
     subst e;rw[Eh] at k3;refine⟨_,?_,?_,rfl⟩
     .rw[if_pos k3];simp(disch:=omega)only[R4,EVT,Ak,simprocAttr]
     .rw[if_pos k3];rfl
  by_cases h:cpt eqs l=l
  .rw[if_pos h] at key;rw[h];simp(disch:=omega)only[R4,h2,key,EVT,Ak,simprocAttr]
  .rw[if_neg h] at key;simp(disch:=omega)only[R4,h2,key,EVT,Ak,simprocAttr]
structure Kd where
 num:Int
 mne:List UInt8
 fls:List UInt8
def Kd.pv (k:Kd):PV:= .a [.i .i64 k.num,.s k.mne,.s k.fls]
def Aq4 (l:List Kd):PV:= .l 3 (l.map Kd.pv)
def kds:List Kd:=[⟨1,[65],[52]⟩,⟨2,[78,83],[104]⟩,⟨5,[67,78,65,77,69],[104]⟩,⟨6,[83,79,65],[104,109,118,119,120,121,122]⟩,⟨12,[80,84,82],[104]⟩,⟨15,[77,88],[65,104]⟩,⟨16,[84,88,84],[116]⟩,⟨28,[65,65,65,65],[54]⟩,⟨33,[83,82,86],[65,66,67,104]⟩,⟨39,[68,78,65,77,69],[104]⟩,⟨43,[68,83],[65,98,99,114]⟩,⟨46,[82,82,83,73,71],[65,115,98,120,121,122,70,104,114]⟩,⟨47,[78,83,69,67],[104,110]⟩,⟨48,[68,78,83,75,69,89],[65,98,99,114]⟩]
def jw (k:Kd):Dw 0 k.pv=some (.i .i64 k.num):=rfl
def jv (k:Kd):Dw 1 k.pv=some (.s k.mne):=rfl
def Eb (k:Kd):Dw 2 k.pv=some (.s k.fls):=rfl
def Cd5 (k:Kd):Lz 0 3 k.pv=some k.pv:=rfl
def V3 (k:Kd):U6 3 k.pv=some k.pv:=rfl
def U2 (l:List Kd):G2 (Aq4 l)=some (.i .i64 (l.length:Int)):=by simp[Aq4,G2]
def Aq6 (l:List Kd) (k:IntKind) (z:Int) (h:0<=z):H6 3 (Aq4 l) (.i k z)=(l[z.toNat]?).map Kd.pv:=by simp[Aq4,Wz _ _ _ _ h]
def At9:S sy 0 []=some [Aq4 kds]:=Hw1 (N:=1) rfl (by kernel_rfl)
def Zy (k:Kd):PV.flat k.pv=true:=rfl
def Bj1 (t:Int):S tx 1 [.i .i64 t]=some (match kds.find? (fun k=>decide (k.num=t)) with|some k=>[k.pv,.b true]|none=>[Kd.pv ⟨0,[],[]⟩,.b false]):=by
 refine Hy9 (N:=20) rfl ?_;have key:∀l:List Kd,l.length<=15->Dc6.ev S 20 [.i .i64 t,Aq4 l]=some (match l.find? (fun k=>decide (k.num=t)) with|some k=> .ret [k.pv,.b true]|none=> .yld 0 [.i .i64 0,.s [],.s []]):=by
  intro l hl;refine Gx l (fun i=>[.i .i64 (i:Int),.i .i64 0,.s [],.s []]) (fun i r=>match r.find? (fun k=>decide (k.num=t)) with|some k=> .ret [k.pv,.b true]|none=> .yld 0 [.i .i64 0,.s [],.s []]) rfl (by omega) (fun i c r hd hi hc=> ?_) ?_
  .by_cases h:c.num=t
   .right;simp(disch:=omega)only[ox,hc,h,jw,jv,Eb,Cd5,V3,U2,Aq6,Av,simprocAttr];simp[h,Out.goes]
   .left;simp(disch:=omega)only[ox,hc,h,jw,jv,Eb,Cd5,V3,U2,Aq6,Av,simprocAttr];simp[h]
  .simp(disch:=omega)only[ox,jw,jv,Eb,Cd5,V3,U2,Aq6,Av,simprocAttr];simp[Out.goes]
 have hk:=key kds (by decide);have hkd:=At9;cases h:kds.find? (fun k=>decide (k.num=t)) with
 |some k=>
  rw[h] at hk;simp(disch:=omega)only[ox,hkd,hk,U2,Av,simprocAttr]
 |none=>
  rw[h] at hk;simp(disch:=omega)only[ox,hkd,hk,U2,Av,simprocAttr];rfl
def Bk1 (t:Int):(kds.find? (fun k=>decide (k.num=t))).isSome=knw t:=by
 rw[D8,List.find?_isSome];simp[kds,knw]
 grind
def Ek (t:Int):S Aj9 1 [.i .i64 t]=some [.b (knw t)]:=by
 refine Iz1 (N:=1) rfl ?_;have h:=Bj1 t;have h2:=Bk1 t;cases hk:kds.find? (fun k=>decide (k.num=t)) with
 |some k=>
  rw[hk] at h h2;simp only[Option.isSome_some] at h2;simp(disch:=omega)only[Gm8,h,Zy,V3,Av,simprocAttr];rw[<-h2]
 |none=>
  rw[hk] at h h2;simp only[gz] at h2;simp(disch:=omega)only[Gm8,h,Zy,V3,Av,simprocAttr];rw[<-h2]
end Go.X.G
/- Types of names, as sets of bits. -/
namespace Go.X
open Go
def J7 (l:List Int):PV:= .l 1 (l.map fun t=> .i .i64 t)
def iy:PV.l 1 []=J7 []:=rfl
def Aj6 (t:Int):PV.l 1 [.i .i64 t]=J7 [t]:=rfl
def Ak3 (t:Int):Kf 1 [.i .i64 t]=some (J7 [t]):=rfl
def j6 (l:List Int):G2 (J7 l)=some (.i .i64 (l.length:Int)):=by simp[J7,G2]
def kv (l:List Int) (k:IntKind) (z:Int) (h:0<=z):H6 1 (J7 l) (.i k z)=(l[z.toNat]?).map fun t=> .i .i64 t:=by simp[J7,Wz _ _ _ _ h]
def ak (l:List Int) (x:Int) (h:l.length+1<=1073741824):Jh 1 (J7 l) (J7 [x])=some (J7 (l++[x])):=by have:=Ts 1 (l.map fun t=> .i .i64 t) [.i .i64 x] (by simpa using h);simpa [J7] using this
end Go.X
namespace Go.X.G
open Go Go.X
def shO (t:Int):Int:=IntKind.u64.wrap (1*2 ^ (min t.toNat IntKind.u64.bits))
def bitO (g t:Int):Int:=IntKind.u64.wrap ((BitVec.ofInt IntKind.u64.bits g|||BitVec.ofInt IntKind.u64.bits (shO t)).toNat:Int)
def Ir6 (t:Int) (h:0<=t):X.bin .shl (.i .u64 1) (.i .i64 t)=some (.i .u64 (shO t)):=by rw[Gg2,if_neg (by omega)];rfl
def orO (g t:Int):X.bin .or (.i .u64 g) (.i .u64 (shO t))=some (.i .u64 (bitO g t)):=by rw[Fd7];rfl
def Gx4 {t:Int} (h:knw t=true):0<=t∧t<=255:=by rcases knw_cases h with rfl|rfl|rfl|rfl|rfl|rfl|rfl|rfl|rfl|rfl|rfl|rfl|rfl|rfl<;>decide
def Ej8 (l:List Int) (hk:∀t∈l,knw t=true) (hl:l.length<=1000000):S tj 1 [J7 l]=some [.i .u64 (l.foldl bitO 0),.b true]:=by
 refine Hx5 (N:=l.length+1) rfl ?_;have key:Dc3.ev S (l.length+1) [J7 l]=some (.yld 0 [.i .u64 (l.foldl bitO 0)]):=by
  refine E7 (N:=l.length+1) l (fun i (g:Int)=>[.i .u64 g,.i .i64 (i:Int)]) (fun i g r=> .yld 0 [.i .u64 (r.foldl bitO g)]) (fun _ _=>True) 0 rfl trivial (Nat.lt_succ_self _) (fun i g c r hd hi hc _=> ?_) (fun g _=> ?_)
  .left;have hil:(i:Int)<(l.length:Int):=by omega
   have hc1:=hk c (Cq hc);have k:=Ek c;rw[hc1] at k;refine⟨bitO g c,?_,trivial,rfl⟩;have e1:=Ir6 c (Gx4 hc1).1;have e2:=orO g c;generalize shO c=sc at*;generalize bitO g c=bc at*;simp(disch:=omega)only[Cj9,hc,hil,k,e1,e2,kv,j6,Av,simprocAttr]
  .simp(disch:=omega)only[Cj9,Nt,kv,j6,Av,simprocAttr];simp[Out.goes]
 simp(disch:=omega)only[Cj9,key,kv,j6,Av,simprocAttr]
def typesR (l:List Rec) (n:List UInt8):List Int:=(l.filter fun r=>decide (r.name=n) && knw r.typ).map Rec.typ
def Bx9 (l:List Rec) (n:List UInt8):∀t∈typesR l n,knw t=true:=fun t ht=>by simp only[typesR,Ev,Cg,Bp] at ht;obtain⟨r,hr,rfl⟩:=ht;exact hr.2.2
def Ej7 (l:List Rec) (n:List UInt8) (hl:l.length<=1000000):S As5 2 [B6 l,.s n]=some [.i .u64 ((typesR l n).foldl bitO 0)]:=by
 refine Hb6 (N:=l.length+1) rfl ?_;have hs:=Ej8 (typesR l n) (Bx9 l n) (by have:=D4 (fun r:Rec=>decide (r.name=n) && knw r.typ) l;simp only[typesR,E9];omega);have key:Dd1.ev S (l.length+1) [B6 l,.s n]=some (.yld 0 [J7 ([]++typesR l n)]):=by
  refine E7 (N:=l.length+1) l (fun i (g:List Int)=>[J7 g,.i .i64 (i:Int)]) (fun i g r=> .yld 0 [J7 (g++typesR r n)]) (fun i g=>g.length<=i) [] rfl (Df _) (Nat.lt_succ_self _) (fun i g c r hd hi hc hI=> ?_) (fun g hI=> ?_)
  .left;have hil:(i:Int)<(l.length:Int):=by omega
   have k:=Ek c.typ;by_cases h1:c.name=n
   .rcases Bm (knw c.typ) with h2|h2
    .rw[h2] at k;refine⟨g++[c.typ],?_,by simp;omega,by simp[typesR,h1,h2]⟩;simp(disch:=omega)only[od,hc,hil,h1,k,iy,Aj6,Ak3,ak,Av,simprocAttr]
    .rw[h2] at k;refine⟨g,?_,by omega,by simp[typesR,h2]⟩;simp(disch:=omega)only[od,hc,hil,h1,k,iy,Aj6,Ak3,ak,Av,simprocAttr]
   .refine⟨g,?_,by omega,by simp[typesR,h1]⟩;simp(disch:=omega)only[od,hc,hil,h1,iy,Aj6,Ak3,ak,Av,simprocAttr]
  .simp(disch:=omega)only[od,Nt,Av,simprocAttr];simp[Out.goes,typesR]
 rw[Dc] at key;generalize (typesR l n).foldl bitO 0=v at*;simp(disch:=omega)only[od,hs,key,Av,simprocAttr]
end Go.X.G
namespace Go.X.G
open Go Go.X
def TO.prod {α β:Type} {l1:α->α->Prop} {l2:β->β->Prop} (h1:TO l1) (h2:TO l2):TO (fun p q:α×β=>l1 p.1 q.1∨(p.1=q.1∧l2 p.2 q.2)) where
 irr:=fun p h=>by
  rcases h with h|⟨_,h⟩
  .exact h1.irr _ h
  .exact h2.irr _ h
 tr:=fun p q r a b=>by
  rcases a with a|⟨a,a'⟩<;>rcases b with b|⟨b,b'⟩
  .exact .inl (h1.tr _ _ _ a b)
  .exact .inl (b▸a)
  .exact .inl (a▸b)
  .exact .inr ⟨a.trans b,h2.tr _ _ _ a' b'⟩
 tri:=fun p q=>by
  rcases h1.tri p.1 q.1 with a|a|a
  .exact .inl (.inl a)
  .rcases h2.tri p.2 q.2 with b|b|b
   .exact .inl (.inr ⟨a,b⟩)
   .exact .inr (.inl (Prod.ext a b))
   .exact .inr (.inr (.inr ⟨a.symm,b⟩))
  .exact .inr (.inr (.inl a))
def Gt6:TO (fun a b:Int=>a<b):=⟨fun a h=>by omega,fun a b c h1 h2=>by omega,fun a b=>by omega⟩
def lr (a b:Int):Bq2 a b<0↔a<b:=by unfold Bq2;split<;>(try split)<;>omega
def Kz (a b:Int):Bq2 a b=0↔a=b:=by unfold Bq2;split<;>(try split)<;>omega
abbrev Key:=List UInt8×Int×List UInt8
abbrev ltK:Key->Key->Prop:=fun p q=>ltN p.1 q.1∨(p.1=q.1∧(p.2.1<q.2.1∨(p.2.1=q.2.1∧ltB p.2.2 q.2.2)))
def to_K:TO ltK:=to_N.prod (Gt6.prod Eq5)
def Eq8 (r:Rec):Key:=(r.name,r.typ,M3 r.typ r.data)
abbrev ltR (a b:Rec):Prop:=ltK (Eq8 a) (Eq8 b)
def R9 {r:Rec} (h:T5 r=true):Gc r.typ r.data=true:=by unfold T5 at h;simp only[Bp] at h;exact h.2
def om {r:Rec} (h:T5 r=true):vld r.name=true:=by unfold T5 at h;simp only[Bp] at h;exact h.1.1.1.1
def Fc6 {t:Int} {a b:Dat} (ha:Gc t a=true) (hb:Gc t b=true):Et9 t a b=cmpS (M3 t a) (M3 t b):=by unfold Et9;rw[ha,hb];rfl
def Bq3 {a b:Rec} (ha:T5 a=true) (hb:T5 b=true):af a b<0↔ltR a b:=by
 unfold af ltR ltK Eq8;simp only;by_cases h1:Ky a.name b.name=0
 .rw[if_neg (by simp[h1])];have e1:=Jc.1 h1;have n1:¬ltN a.name b.name:=by rw[e1];exact to_N.irr _
  by_cases h2:Bq2 a.typ b.typ=0
  .rw[if_neg (by simp[h2])];have e2:=(Kz _ _).1 h2;have ha':=R9 ha;have hb':=R9 hb;rw[e2] at ha' ⊢;rw[Fc6 ha' hb',Xw];constructor
   .intro h;exact .inr ⟨e1,.inr ⟨rfl,h⟩⟩
   .rintro (h|⟨_,h|⟨_,h⟩⟩)
    .exact absurd h n1
    .omega
    .exact h
  .rw[if_pos h2,lr];have e2:a.typ≠b.typ:=fun e=>h2 ((Kz _ _).2 e);constructor
   .intro h;exact .inr ⟨e1,.inl h⟩
   .rintro (h|⟨_,h|⟨h,_⟩⟩)
    .exact absurd h n1
    .exact h
    .exact absurd h e2
 .rw[if_pos h1,Gq];have e1:a.name≠b.name:=fun e=>h1 (Jc.2 e);constructor
  .intro h;exact .inl h
  .rintro (h|⟨h,_⟩)
   .exact h
   .exact absurd h e1
def wb {a b:Rec} (ha:T5 a=true) (hb:T5 b=true):af a b=0↔Eq8 a=Eq8 b:=by
 unfold af Eq8;by_cases h1:Ky a.name b.name=0
 .rw[if_neg (by simp[h1])];have e1:=Jc.1 h1;by_cases h2:Bq2 a.typ b.typ=0
  .rw[if_neg (by simp[h2])];have e2:=(Kz _ _).1 h2;have ha':=R9 ha;have hb':=R9 hb;rw[e2] at ha' ⊢;rw[Fc6 ha' hb',Lv];simp[e1]
  .rw[if_pos h2];have e2:a.typ≠b.typ:=fun e=>h2 ((Kz _ _).2 e);constructor
   .intro h;exact absurd h h2
   .intro h;injection h with _ h;injection h with h _;exact absurd h e2
 .rw[if_pos h1];have e1:a.name≠b.name:=fun e=>h1 (Jc.2 e);constructor
  .intro h;exact absurd h h1
  .intro h;injection h with h _;exact absurd h e1
def Zj {x:Rec} (hx:T5 x=true):∀(l:List Rec),(∀r∈l,T5 r=true)->l.Pairwise ltR->(bz x l).Pairwise ltR
 |[],_,_=>by simp[bz]
 |y::r,hv,h=>by
  obtain⟨h1,h2⟩:=Cd.1 h;have hy:=hv y (.head _);have ih:=Zj hx r (fun w hw=>hv w (.tail _ hw)) h2;simp only[bz];by_cases c:af y x<0
  .rw[if_pos c];refine Cd.2 ⟨fun w hw=> ?_,ih⟩;rcases insR_mem x r w hw with rfl|hw
   .exact(Bq3 hy hx).1 c
   .exact h1 w hw
  .rw[if_neg c];by_cases e:af y x=0
   .rw[if_pos e];split
    .have ke:=(wb hy hx).1 e;refine Cd.2 ⟨fun w hw=> ?_,h2⟩;have:=h1 w hw;show ltK (Eq8 x) (Eq8 w);rw[<-ke];exact this
    .exact h
   .rw[if_neg e];have hxy:ltR x y:=by
     rcases to_K.tri (Eq8 x) (Eq8 y) with q|q|q
     .exact q
     .exact absurd ((wb hy hx).2 q.symm) e
     .exact absurd ((Bq3 hy hx).2 q) c
    refine Cd.2 ⟨fun w hw=> ?_,h⟩;rcases Cj.1 hw with rfl|hw
    .exact hxy
    .exact to_K.tr _ _ _ hxy (h1 w hw)
def Vl (l:List Rec) (hv:∀r∈l,T5 r=true):(sortR l).Pairwise ltR∧∀r∈sortR l,r∈l:=by
 have:∀(l a:List Rec),(∀r∈l,T5 r=true)->(∀r∈a,T5 r=true)->a.Pairwise ltR->(l.foldl (fun acc x=>bz x acc) a).Pairwise ltR∧∀r∈l.foldl (fun acc x=>bz x acc) a,r∈a∨r∈l:=by
  intro l
  induction l with
  |nil=>intro a _ _ h;exact⟨h,fun r hr=> .inl hr⟩
  |cons x r ih=>
   intro a h1 h2 h3;have hx:=h1 x (.head _);obtain⟨g1,g2⟩:=ih (bz x a) (fun w hw=>h1 w (.tail _ hw)) (fun w hw=>by
    rcases insR_mem x a w hw with rfl|hw
    .exact hx
    .exact h2 w hw) (Zj hx a h2 h3)
   refine⟨g1,fun w hw=> ?_⟩;rcases g2 w hw with hw|hw
   .rcases insR_mem x a w hw with rfl|hw
    .exact .inr (.head _)
    .exact .inl hw
   .exact .inr (.tail _ hw)
 obtain⟨h1,h2⟩:=this l [] hv (fun r hr=>by cases hr) .nil;exact⟨h1,fun r hr=>(h2 r hr).resolve_left (by simp)⟩
structure ZOk (z:Zone):Prop where
 origin:vld z.origin=true
 small:z.recs.length<=2048
 valid:∀r∈z.recs,T5 r=true
 rising:z.recs.Pairwise ltR
 soa:(findR z.recs z.origin 6).length=1
 ns:vk z.recs z.origin 2=true
 recs:∀r∈z.recs,Um z r=true
def Z4 {z:Zone} (h:Jm z=0):ZOk z:=by
 unfold Jm at h;split at h
 .cases h
 .rename_i h1;split at h
  .cases h
  .rename_i h2;split at h
   .cases h
   .split at h
    .cases h
    .rename_i h4;split at h
     .cases h
     .rename_i h5;split at h
      .cases h
      .rename_i h6;split at h
       .cases h
       .rename_i h7;simp only[Hr,Cr] at h1 h4 h7;simp only[not_or,ne_eq,Hp,Hr] at h5 h6;refine⟨h1,by omega,h4,?_,h6.1,h6.2,h7⟩;rw[h5];exact(Vl z.recs h4).1
def ZOk.beside {z:Zone} (h:ZOk z) {r x:Rec} (hr:r∈z.recs) (hx:x∈z.recs):Tr r x=true:=by have:=h.recs r hr;unfold Um at this;simp only[Bp] at this;have h2:=this.1.2;unfold my at h2;exact Cr.1 h2 x hx
def ZOk.under {z:Zone} (h:ZOk z) {r:Rec} (hr:r∈z.recs):under r.name z.origin=true:=by have:=h.recs r hr;unfold Um at this;simp only[Bp] at this;exact this.1.1.1
def ZOk.single {z:Zone} (h:ZOk z) (n:List UInt8) (t:Int) (ht:t=6∨t=5∨t=39):(findR z.recs n t).length<=1:=by
 have hp:(findR z.recs n t).Pairwise ltR:=h.rising.filter _;have hm:∀x∈findR z.recs n t,x∈z.recs∧x.name=n∧x.typ=t:=fun x hx=>by obtain⟨h1,h2⟩:=Cg.1 hx;simp only[isK,Bp,decide_eq_true_eq] at h2;exact⟨h1,h2.1,h2.2⟩
 generalize findR z.recs n t=l at*
 match l,hp,hm with
 |[],_,_=>simp
 |[_],_,_=>simp
 |a::b::r,hp,hm=>
  exfalso;have hab:ltR a b:=(Cd.1 hp).1 b (.head _);obtain⟨a1,a2,a3⟩:=hm a (.head _);obtain⟨b1,b2,b3⟩:=hm b (.tail _ (.head _));have hb:=h.beside a1 b1;have e:b=a:=by
   unfold Tr at hb;rw[a2,a3,b2,b3] at hb;have ht':(decide (t=6)||decide (t=5)||decide (t=39))=true:=by rcases ht with h|h|h<;>simp[h]
   rw[ht'] at hb;simp only[decide_true,N1,I9,N2,N0,Bp,Cf,decide_eq_false_iff_not,ne_eq,Hp] at hb;exact hb.1.2
  rw[e] at hab;exact to_K.irr _ hab
def upN (o n:List UInt8):List (List UInt8):=(List.range ((lbl n).length - (lbl o).length+1)).map fun k=>jn ((lbl n).drop k)
def On {o n x:List UInt8} (h:under n o=true):x∈upN o n↔under n x=true∧under x o=true:=by
 obtain⟨hn,ho,hs⟩:=Ct.1 h;have hle:=hs.length_le;rw[Fy] at hs;unfold upN;rw[Ev];constructor
 .rintro⟨k,hk,rfl⟩;rw[Fh] at hk;obtain⟨v1,v2⟩:=Ll hn k;refine⟨Ct.2 ⟨hn,v1,by rw[v2];exact List.drop_suffix _ _⟩,Ct.2 ⟨v1,ho,?_⟩⟩;rw[v2,hs];have:(lbl n).length - (lbl o).length=k+((lbl n).length - (lbl o).length - k):=by omega
  rw[this,<-D6];exact List.drop_suffix _ _
 .rintro⟨h1,h2⟩;obtain⟨_,hx,h3⟩:=Ct.1 h1;obtain⟨_,_,h4⟩:=Ct.1 h2;have l1:=h3.length_le;have l2:=h4.length_le;rw[Fy] at h3;refine⟨(lbl n).length - (lbl x).length,?_,?_⟩
  .rw[Fh];omega
  .rw[<-h3];exact(Ol hx).symm
def ix (o n:List UInt8):(upN o n).length<=256:=by have:=Nz n;simp[upN];omega
def Q6 {o n:List UInt8} {k:Nat} (hk:k<=(lbl n).length - (lbl o).length):(upN o n)[k]? =some (jn ((lbl n).drop k)):=by unfold upN;rw[C9,Dp (by omega)];rfl
def j9 {n:List UInt8} (h:vld n=true):jn ((lbl n).drop 0)=n:=by rw[F6];exact(Ol h).symm
def c7 {o n:List UInt8} (h:under n o=true) {k:Nat} (hk:k<=(lbl n).length - (lbl o).length):jn ((lbl n).drop k)=o↔k=(lbl n).length - (lbl o).length:=by
 obtain⟨hn,ho,hs⟩:=Ct.1 h;have hle:=hs.length_le;rw[Fy] at hs;obtain⟨v1,v2⟩:=Ll hn k;constructor
 .intro e;have:=congrArg (fun x=>(lbl x).length) e;simp only[v2,Dy] at this;omega
 .rintro rfl;rw[<-hs];exact(Ol ho).symm
def Cq1 {o n:List UInt8} (h:under n o=true) {k:Nat} (hk:k<(lbl n).length - (lbl o).length):Ur (jn ((lbl n).drop k))=jn ((lbl n).drop (k+1))∧Bj7 (jn ((lbl n).drop k))=true:=by
 obtain⟨hn,ho,hs⟩:=Ct.1 h;obtain⟨v1,v2⟩:=Ll hn k;have hne:jn ((lbl n).drop k)≠[46]:=by intro e;have:=(Y6 v1).2 e;rw[v2] at this;have:=congrArg List.length this;simp at this;omega
 unfold Ur Bj7;rw[if_pos ⟨v1,hne⟩,v2,D6];exact⟨rfl,by simp[v1,hne]⟩
def km (l:List (List UInt8)) (i j:Nat) (h:i<j) (hj:j<=l.length):(flat (l.drop j)).length<(flat (l.drop i)).length:=by
 have e:l.drop i=(l.drop i).take (j - i)++l.drop j:=by have:=(C7 (j - i) (l.drop i)).symm;rw[D6,show i+(j - i)=j by omega] at this;exact this
 rw[e,Ng,Bt];have:0<(flat ((l.drop i).take (j - i))).length:=by
  cases hc:(l.drop i).take (j - i) with
  |nil=>
   have:=congrArg List.length hc;simp at this;omega
  |cons x r=>simp[flat];omega
 omega
def xw {n a b:List UInt8} (ha:under n a=true) (hb:under n b=true):a.length<b.length↔(lbl a).length<(lbl b).length:=by
 have key:∀{a b:List UInt8},under n a=true->under n b=true->(lbl a).length<(lbl b).length->a.length<b.length:=by
  intro a b ha hb hl;obtain⟨hn,va,sa⟩:=Ct.1 ha;obtain⟨_,vb,sb⟩:=Ct.1 hb;have la:=sa.length_le;have lb:=sb.length_le;rw[Fy] at sa sb;rw[Ol va,Ol vb];have hbne:lbl b≠[]:=fun e=>by rw[e] at hl;simp at hl
  have e2:jn (lbl b)=flat (lbl b):=by unfold jn;rw[if_neg hbne]
  rw[e2];by_cases ha0:lbl a=[]
  .have e1:jn (lbl a)=[46]:=by unfold jn;rw[if_pos ha0]
   rw[e1];have:=H8 (M4 vb) hbne;simp;omega
  .have e1:jn (lbl a)=flat (lbl a):=by unfold jn;rw[if_neg ha0]
   rw[e1,sa,sb];exact km _ _ _ (by omega) (by omega)
 constructor
 .intro h;rcases Nat.lt_or_ge (lbl a).length (lbl b).length with h1|h1
  .exact h1
  .rcases Nat.lt_or_eq_of_le h1 with h2|h2
   .have:=key hb ha h2;omega
   .obtain⟨_,va,sa⟩:=Ct.1 ha;obtain⟨_,vb,sb⟩:=Ct.1 hb;rw[Fy] at sa sb;have:a=b:=Nb va vb (by rw[sa,sb,h2]);subst this;omega
 .exact key ha hb
def Em (z:Zone) (r:Rec):Bool:=decide (r.typ=2) && Gz r.name z.origin
def yz (z:Zone) (n:List UInt8):List UInt8->List Rec->List UInt8
 |b,[]=>b
 |b,r::rs=>yz z n (if Em z r && under n r.name && (decide (b=[])||decide ((lbl r.name).length<(lbl b).length)) then r.name else b) rs
def cutN (z:Zone) (n:List UInt8):List UInt8:=yz z n [] z.recs
def Pb (z:Zone) (n:List UInt8):∀(l:List Rec) (b:List UInt8),(b=[]∨under n b=true)->
  (yz z n b l=[]->b=[]∧∀r∈l,Em z r=true->under n r.name=false)∧
  (yz z n b l≠[]->under n (yz z n b l)=true∧(yz z n b l=b∨∃r∈l,Em z r=true∧r.name=yz z n b l)∧(b≠[]->(lbl (yz z n b l)).length<=(lbl b).length)∧∀r∈l,Em z r=true->under n r.name=true->(lbl (yz z n b l)).length<=(lbl r.name).length)
 |[],b,hb=>by simp only[yz];refine⟨fun h=>⟨h,fun r hr=>by simp at hr⟩,fun h=>⟨hb.resolve_left h,.inl trivial,fun _=>B7 _,fun r hr=>by simp at hr⟩⟩
 |r::rs,b,hb=>by
  simp only[yz];have hne:under n r.name=true->r.name≠[]:=fun h e=>by have:=(Ct.1 h).2.1;rw[e] at this;simp[vld,nm] at this
  by_cases hc:(Em z r && under n r.name && (decide (b=[])||decide ((lbl r.name).length<(lbl b).length)))=true
  .rw[if_pos hc];simp only[Bp,Ck,decide_eq_true_eq] at hc;obtain⟨⟨c1,c2⟩,c3⟩:=hc;obtain⟨h1,h2⟩:=Pb z n rs r.name (.inr c2);refine⟨fun h=>absurd (h1 h).1 (hne c2),fun h=> ?_⟩;obtain⟨g1,g2,g3,g4⟩:=h2 h;refine⟨g1,.inr ?_,fun hb0=> ?_,fun x hx hx1 hx2=> ?_⟩
   .rcases g2 with g2|⟨x,hx,g2⟩
    .exact⟨r,.head _,c1,g2.symm⟩
    .exact⟨x,.tail _ hx,g2⟩
   .have:=g3 (hne c2);rcases c3 with c3|c3
    .exact absurd c3 hb0
    .omega
   .rcases Cj.1 hx with rfl|hx
    .exact g3 (hne c2)
    .exact g4 x hx hx1 hx2
  .rw[if_neg hc];obtain⟨h1,h2⟩:=Pb z n rs b hb;have hr:Em z r=true->under n r.name=true->b≠[]∧(lbl b).length<=(lbl r.name).length:=by intro c1 c2;simp only[c1,c2,Bool.and_self,N0,Ck,decide_eq_true_eq,not_or,Nat.not_lt] at hc;exact hc
   refine⟨fun h=> ?_,fun h=> ?_⟩
   .obtain⟨g1,g2⟩:=h1 h;refine⟨g1,fun x hx hx1=> ?_⟩;rcases Cj.1 hx with rfl|hx
    .rcases Bm (under n x.name) with h3|h3
     .exact absurd g1 (hr hx1 h3).1
     .exact h3
    .exact g2 x hx hx1
   .obtain⟨g1,g2,g3,g4⟩:=h2 h;refine⟨g1,?_,g3,fun x hx hx1 hx2=> ?_⟩
    .rcases g2 with g2|⟨x,hx,g2⟩
     .exact .inl g2
     .exact .inr ⟨x,.tail _ hx,g2⟩
    .rcases Cj.1 hx with rfl|hx
     .obtain⟨q1,q2⟩:=hr hx1 hx2;have:=g3 q1;omega
     .exact g4 x hx hx1 hx2
def Oz (z:Zone) (n:List UInt8):Bool:=z.recs.any fun r=>Em z r && decide (r.name≠n) && under n r.name
def I2 {a b:List UInt8} (h1:under a b=true) (h2:(lbl a).length<=(lbl b).length):a=b:=by obtain⟨va,vb,s⟩:=Ct.1 h1;exact Nb va vb (s.eq_of_length_le h2).symm
def Gx7 (z:Zone) (n:List UInt8):Oz z n=(decide (cutN z n≠[]) && decide (cutN z n≠n)):=by
 obtain⟨h1,h2⟩:=Pb z n z.recs [] (.inl rfl);have e:cutN z n=yz z n [] z.recs:=rfl;rw[<-e] at h1 h2;rw[D8];unfold Oz;simp only[Dj,Bp,decide_eq_true_eq];constructor
 .rintro⟨r,hr,⟨c1,c2⟩,c3⟩;have hne:cutN z n≠[]:=fun h=>by have:=(h1 h).2 r hr c1;rw[c3] at this;cases this
  refine⟨hne,fun h=> ?_⟩;obtain⟨_,_,_,g4⟩:=h2 hne;have:=g4 r hr c1 c3;rw[h] at this;exact c2 (I2 c3 this).symm
 .rintro⟨hne,hnn⟩;obtain⟨g1,g2,_,_⟩:=h2 hne;rcases g2 with g2|⟨r,hr,c1,c2⟩
  .exact absurd g2 hne
  .exact⟨r,hr,⟨c1,by rw[c2];exact hnn⟩,by rw[c2];exact g1⟩
def Fk2 (z:Zone):List (List UInt8):=(z.recs.filter fun r=>under r.name z.origin && !Oz z r.name).flatMap fun r=>upN z.origin r.name
def namesN (z:Zone):List (List UInt8):=setN (Fk2 z)
def Fb6 (z:Zone) (x:List UInt8):Prop:=∃r∈z.recs,under r.name z.origin=true∧Oz z r.name=false∧under r.name x=true∧under x z.origin=true
def Bw3 (z:Zone) (x:List UInt8):x∈Fk2 z↔Fb6 z x:=by
 unfold Fk2 Fb6;simp only[List.mem_flatMap,Cg,Bp,Cf];constructor
 .rintro⟨r,⟨hr,h1,h2⟩,h3⟩;obtain⟨h4,h5⟩:=(On h1).1 h3;exact⟨r,hr,h1,h2,h4,h5⟩
 .rintro⟨r,hr,h1,h2,h4,h5⟩;exact⟨r,⟨hr,h1,h2⟩,(On h1).2 ⟨h4,h5⟩⟩
def Eg0 (z:Zone) (l:List (List UInt8)) (h:∀x,x∈l↔Fb6 z x):setN l=namesN z:=
 Yv to_N _ _ (K8 _) (K8 _) fun x=>by rw[M9,h,namesN,M9,Bw3]
def P8 (z:Zone) (x:List UInt8):x∈namesN z↔Fb6 z x:=by unfold namesN;rw[M9,Bw3]
def Dy4 {α:Type} {lt:α->α->Prop}:∀(p q:List α),p<+:q->p≠q->lex lt p q
 |[],[],_,h=>absurd rfl h
 |[],_::_,_,_=>trivial
 |a::p,[],h,_=>by simp at h
 |a::p,b::q,h,hne=>by obtain⟨rfl,hpq⟩:=J5.1 h;exact .inr ⟨rfl,Dy4 p q hpq fun e=>hne (by rw[e])⟩
def Dy5 {α:Type} {lt:α->α->Prop} (ht:TO lt):∀(p q x:List α),p<+:q->¬lex lt x p->¬lex lt q x->p<+:x
 |[],_,_,_,_,_=>List.nil_prefix
 |a::p,[],_,h,_,_=>by simp at h
 |a::p,b::q,[],_,h,_=>absurd trivial h
 |a::p,b::q,c::x,h,h1,h2=>by
  obtain⟨rfl,hpq⟩:=J5.1 h;simp only[lex,not_or,not_and] at h1 h2;have e:a=c:=by
   rcases ht.tri a c with k|k|k
   .exact absurd k h2.1
   .exact k
   .exact absurd k h1.1
  subst e;exact J5.2 ⟨rfl,Dy5 ht p q x hpq (h1.2 rfl) (h2.2 rfl)⟩
def Gw2 {a b:List UInt8} (ha:vld a=true) (hb:vld b=true):ltN a b↔ltL (lbl a).reverse (lbl b).reverse:=by unfold ltN;rw[if_pos ha,if_pos hb]
def ot {n top:List UInt8} (h:under n top=true):(lbl top).reverse<+:(lbl n).reverse:=Ff4.2 (Ct.1 h).2.2
def Sk {n top:List UInt8} (h:under n top=true) (hne:n≠top):ltN top n:=by obtain⟨h1,h2,h3⟩:=Ct.1 h;rw[Gw2 h2 h1];refine Dy4 _ _ (ot h) fun e=>hne ?_;exact(Nb h2 h1 (List.reverse_inj.1 e)).symm
def Sj {d x n:List UInt8} (hx:vld x=true) (h:under n d=true) (h1:¬ltN x d) (h2:¬ltN n x):under x d=true:=by obtain⟨k1,k2,k3⟩:=Ct.1 h;rw[Gw2 hx k2] at h1;rw[Gw2 k1 hx] at h2;exact Ct.2 ⟨hx,k2,Ff4.1 (Dy5 Eq5 _ _ _ (ot h) h1 h2)⟩
def Bs8 {a b c:List UInt8} (h1:under a b=true) (h2:under b c=true):under a c=true:=by obtain⟨a1,a2,a3⟩:=Ct.1 h1;obtain⟨b1,b2,b3⟩:=Ct.1 h2;exact Ct.2 ⟨a1,b2,b3.trans a3⟩
def bf (p:List Rec):List Rec->List (List Rec)
 |[]=>[]
 |x::r=>if(match r with|[]=>true|y::_=> !decide (y.name=x.name))=true then(p++[x])::bf [] r else bf (p++[x]) r
def grp (l:List Rec):List (List Rec):=bf [] l
def nmG (g:List Rec):List UInt8:=match g with|[]=>[]|x::_=>x.name
def vq (n:List UInt8):∀(r p:List Rec) (x:Rec),x.name=n->(∀y∈p,y.name=n)->∃g l',x::r=g++l'∧g≠[]∧(∀y∈g,y.name=n)∧(∀y,l'.head? =some y->y.name≠n)∧bf p (x::r)=(p++g)::grp l'
 |[],p,x,hx,hp=>⟨[x],[],rfl,by simp,by simpa using hx,by simp,rfl⟩
 |y::r,p,x,hx,hp=>by
  by_cases h:y.name=x.name
  .obtain⟨g,l',h1,h2,h3,h4,h5⟩:=vq n r (p++[x]) y (by rw[h,hx]) (fun w hw=>by
    rcases Cn.1 hw with hw|hw
    .exact hp w hw
    .have:w=x:=by simpa using hw
     rw[this,hx])
   refine⟨x::g,l',by rw[h1];rfl,by simp,fun w hw=> ?_,h4,?_⟩
   .rcases Cj.1 hw with rfl|hw
    .exact hx
    .exact h3 w hw
   .rw[bf,if_neg (by simp[h]),h5];simp
  .refine⟨[x],y::r,rfl,by simp,by simpa using hx,fun w hw=> ?_,?_⟩
   .simp at hw;subst hw;rw[<-hx];exact h
   .rw[bf,if_pos (by simp[h])];rfl
def W9 (x:Rec) (r:List Rec):∃g l',x::r=g++l'∧g≠[]∧(∀y∈g,y.name=x.name)∧(∀y,l'.head? =some y->y.name≠x.name)∧grp (x::r)=g::grp l':=by obtain⟨g,l',h1,h2,h3,h4,h5⟩:=vq x.name r [] x rfl (by simp);exact⟨g,l',h1,h2,h3,h4,by rw[grp,h5];rfl⟩
def Fx0 {g:List Rec} {n:List UInt8} (h:g≠[]) (h2:∀y∈g,y.name=n):nmG g=n:=by
 cases g with
 |nil=>exact absurd rfl h
 |cons x r=>exact h2 x (.head _)
abbrev Hc7 (l:List Rec):Prop:=l.Pairwise fun a b=>¬ltN b.name a.name
def H7 (g:List Rec) (t:Int):Bool:=g.any fun r=>decide (r.typ=t)
def Lb (g:List Rec) (ts:List Int):Bool:=g.all fun r=>decide (r.typ∈ts)
def c8 (p:Rec):List Rec->Bool
 |[]=>true
 |x::r=>(!decide (x.typ=p.typ)||(!(decide (x.typ=6)||decide (x.typ=5)||decide (x.typ=39)) && (decide (x.typ=46)||decide (x.ttl=p.ttl)))) && c8 x r
def Eq3 (g:List Rec):Bool:=match g with|[]=>true|x::r=>c8 x r
def propG (o:List UInt8) (g:List Rec) (cut red:Bool):Bool:=
 under (nmG g) o && (decide (H7 g 6=decide (nmG g=o))) && Eq3 g && (!decide (nmG g=o)||H7 g 2) && (!H7 g 5||Lb g [5,46,47]) && !red && (!cut||Lb g [1,28]) &&
  (if(!decide (nmG g=o) && H7 g 2)=true then Lb g [2,43,47,46,1,28] else !H7 g 43) && (!decide ((nmG g)[0]? =some 42)||(!H7 g 2 && !H7 g 39))
def Fc (n c:List UInt8):List UInt8:=if c≠[]∧under n c=false then [] else c
def Aw9 (o:List UInt8):List (List Rec)->List UInt8->List UInt8->Bool->Bool
 |[],_,_,soa=>soa
 |g::gs,cut,red,soa=>
  if propG o g (decide (Fc (nmG g) cut≠[])) (decide (Fc (nmG g) red≠[]))=true then
   Aw9 o gs (if Fc (nmG g) cut=[]∧nmG g≠o∧H7 g 2=true then nmG g else Fc (nmG g) cut) (if H7 g 39=true then nmG g else Fc (nmG g) red) (soa||decide (nmG g=o))
  else false
def Gk2 (z:Zone) (n:List UInt8):Bool:=z.recs.any fun r=>decide (r.typ=39) && Gz n r.name
def qh (z:Zone) (g:List Rec):Bool:=propG z.origin g (Oz z (nmG g)) (Gk2 z (nmG g))
def yf {n:List UInt8} (h:vld n=true):n≠[]:=fun e=>by
 subst e;have:vld []=false:=by decide
 rw[this] at h;cases h
structure GInv (z:Zone) (done l:List Rec) (cut red:List UInt8):Prop where
 cut1:cut≠[]->∃r∈done,Em z r=true∧r.name=cut
 cut2:∀m∈l,∀r∈done,Em z r=true->under m.name r.name=true->cut≠[]∧under m.name cut=true
 red1:red≠[]->∃r∈done,r.typ=39∧r.name=red
 red2:∀m∈l,∀r∈done,r.typ=39->under m.name r.name=true->red≠[]∧under m.name red=true
def Aj0 {o:List UInt8} {g:List Rec} {c r:Bool} (h:propG o g c r=true):under (nmG g) o=true∧r=false:=by unfold propG at h;simp only[Bp,Cf] at h;exact⟨h.1.1.1.1.1.1.1.1,h.1.1.1.2⟩
def Bq5 (z:Zone) (hv:∀r∈z.recs,vld r.name=true) (hs:Hc7 z.recs):∀(n:Nat) (done l:List Rec) (cut red:List UInt8) (soa:Bool),l.length<=n->z.recs=done++l->(∀a∈done,∀b∈l,ltN a.name b.name)->GInv z done l cut red->
  (Aw9 z.origin (grp l) cut red soa=true↔(∀g∈grp l,qh z g=true)∧(soa=true∨∃r∈l,r.name=z.origin))
 |n,done,[],cut,red,soa,_,_,_,_=>by simp[grp,bf,Aw9]
 |0,done,x::r,cut,red,soa,hn,_,_,_=>by simp at hn
 |n+1,done,x::r,cut,red,soa,hn,hz,hlt,hI=>by
  obtain⟨g,l',h1,h2,h3,h4,h5⟩:=W9 x r;have hnm:nmG g=x.name:=Fx0 h2 h3;have hmem:∀y∈g,y∈x::r:=fun y hy=>by rw[h1];exact D1 _ hy
  have hmem':∀y∈l',y∈x::r:=fun y hy=>by rw[h1];exact Dq _ hy
  have hzx:∀y∈x::r,y∈z.recs:=fun y hy=>by rw[hz];exact Dq _ hy
  have hvx:vld x.name=true:=hv x (hzx x (.head _));have hgl:∀b∈l',ltN x.name b.name:=by
   have hs2:Hc7 (g++l'):=by rw[<-h1];have:=hs;rw[hz] at this;exact(G5.1 this).2.1
   have hs3:=G5.1 hs2;cases l' with
   |nil=>intro b hb;cases hb
   |cons y l''=>
    have hy:ltN x.name y.name:=by
     obtain⟨w,hw⟩:=Gb g h2;have k:=hs3.2.2 w hw y (.head _);rw[h3 w hw] at k;rcases to_N.tri x.name y.name with q|q|q
     .exact q
     .exact absurd q.symm (h4 y rfl)
     .exact absurd q k
    intro b hb;rcases Cj.1 hb with rfl|hb
    .exact hy
    .have k:=(Cd.1 hs3.2.1).1 b hb;rcases to_N.tri y.name b.name with q|q|q
     .exact to_N.tr _ _ _ hy q
     .rw[<-q];exact hy
     .exact absurd q k
  have habove:∀w∈z.recs,under x.name w.name=true->x.name≠w.name->w∈done:=fun w hw hu hne=>by
   rw[hz] at hw;rcases Cn.1 hw with hw|hw
   .exact hw
   .exfalso;have k:=Sk hu hne;rw[h1] at hw;rcases Cn.1 hw with hw|hw
    .exact hne (h3 w hw).symm
    .exact to_N.asym k (hgl w hw)
  have hcut:decide (Fc x.name cut≠[])=Oz z x.name:=by
   rw[D8,decide_eq_true_eq];unfold Oz Fc;rw[Dj];constructor
   .intro k;have c0:cut≠[]:=fun e=>by rw[e] at k;simp at k
    have c1:under x.name cut=true:=by
     rcases Bm (under x.name cut) with q|q
     .exact q
     .rw[if_pos ⟨c0,q⟩] at k;exact absurd rfl k
    obtain⟨w,w1,w2,w3⟩:=hI.cut1 c0;refine⟨w,by rw[hz];exact D1 _ w1,?_⟩;have:w.name≠x.name:=fun e=>to_N.irr _ (by have:=hlt w w1 x (.head _);rw[e] at this;exact this);rw[w2,w3];rw[w3] at this;simp[this,c1]
   .rintro⟨w,w1,w2⟩;simp only[Bp,decide_eq_true_eq] at w2;have wd:=habove w w1 w2.2 (fun e=>w2.1.2 e.symm);obtain⟨c0,c1⟩:=hI.cut2 x (.head _) w wd w2.1.1 w2.2;rw[if_neg (by simp[c1])];exact c0
  have hred:decide (Fc x.name red≠[])=Gk2 z x.name:=by
   rw[D8,decide_eq_true_eq];unfold Gk2 Fc Gz;rw[Dj];constructor
   .intro k;have c0:red≠[]:=fun e=>by rw[e] at k;simp at k
    have c1:under x.name red=true:=by
     rcases Bm (under x.name red) with q|q
     .exact q
     .rw[if_pos ⟨c0,q⟩] at k;exact absurd rfl k
    obtain⟨w,w1,w2,w3⟩:=hI.red1 c0;refine⟨w,by rw[hz];exact D1 _ w1,?_⟩;have:x.name≠w.name:=fun e=>to_N.irr _ (by have:=hlt w w1 x (.head _);rw[e] at this;exact this);rw[w3] at this ⊢;simp[this,c1,w2]
   .rintro⟨w,w1,w2⟩;simp only[Bp,decide_eq_true_eq] at w2;have wd:=habove w w1 w2.2.2 w2.2.1;obtain⟨c0,c1⟩:=hI.red2 x (.head _) w wd w2.1 w2.2.2;rw[if_neg (by simp[c1])];exact c0
  have hex:(∃w∈x::r,w.name=z.origin)↔(x.name=z.origin∨∃w∈l',w.name=z.origin):=by
   rw[h1];constructor
   .rintro⟨w,w1,w2⟩;rcases Cn.1 w1 with w1|w1
    .exact .inl (by rw[<-h3 w w1];exact w2)
    .exact .inr ⟨w,w1,w2⟩
   .rintro (k|⟨w,w1,w2⟩)
    .obtain⟨w,hw⟩:=Gb g h2;exact⟨w,D1 _ hw,by rw[h3 w hw];exact k⟩
    .exact⟨w,Dq _ w1,w2⟩
  rw[h5,hex];simp only[Aw9,hnm,Cj,forall_eq_or_imp];have hp0:qh z g=propG z.origin g (Oz z x.name) (Gk2 z x.name):=by unfold qh;rw[hnm]
  rw[hp0];rw[hcut,hred];by_cases hp:propG z.origin g (Oz z x.name) (Gk2 z x.name)=true
  .rw[if_pos hp];obtain⟨pu,pr⟩:=Aj0 hp;rw[hnm] at pu;have hlen:=congrArg List.length h1;have hg0:0<g.length:=C1.2 h2;simp only[Bt,Cy] at hlen hn;have hmid:∀m∈l',∀w∈done,under m.name w.name=true->under x.name w.name=true:=fun m hm w hw hu=>
    Sj hvx hu (fun k=>to_N.asym (hlt w hw x (.head _)) k) (fun k=>to_N.asym (hgl m hm) k)
   have hredE:Fc x.name red=[]:=by have:=hred;rw[pr] at this;simpa using this
   have ih:=Bq5 z hv hs n (done++g) l' (if Fc x.name cut=[]∧x.name≠z.origin∧H7 g 2=true then x.name else Fc x.name cut) (if H7 g 39=true then x.name else Fc x.name red) (soa||decide (x.name=z.origin)) (by omega) (by rw[hz,h1,Cv])
    (fun a ha b hb=>by
     rcases Cn.1 ha with ha|ha
     .exact hlt a ha b (hmem' b hb)
     .rw[h3 a ha];exact hgl b hb)
    ⟨?_,?_,?_,?_⟩
   .rw[ih];simp only[Ck,decide_eq_true_eq,hp,true_and];constructor
    .rintro⟨k1,(k2|k2)|k2⟩
     .exact⟨k1,.inl k2⟩
     .exact⟨k1,.inr (.inl k2)⟩
     .exact⟨k1,.inr (.inr k2)⟩
    .rintro⟨k1,k2|k2|k2⟩
     .exact⟨k1,.inl (.inl k2)⟩
     .exact⟨k1,.inl (.inr k2)⟩
     .exact⟨k1,.inr k2⟩
   ·-- the cut is one
    intro k;by_cases c:Fc x.name cut=[]∧x.name≠z.origin∧H7 g 2=true
    .rw[if_pos c];obtain⟨w,w1,w2⟩:=Dj.1 c.2.2;simp only[decide_eq_true_eq] at w2;refine⟨w,Dq _ w1,?_,h3 w w1⟩;unfold Em Gz;rw[h3 w w1];simp[w2,pu,c.2.1]
    .rw[if_neg c] at k ⊢;have c0:cut≠[]:=fun e=>by rw[e] at k;simp[Fc] at k
     have c1:Fc x.name cut=cut:=by
      unfold Fc at k ⊢;by_cases q:cut≠[]∧under x.name cut=false
      .rw[if_pos q] at k;exact absurd rfl k
      .rw[if_neg q]
     rw[c1];obtain⟨w,w1,w2⟩:=hI.cut1 c0;exact⟨w,D1 _ w1,w2⟩
   .intro m hm w hw hc hu;rcases Cn.1 hw with hw|hw
    .have hxu:=hmid m hm w hw hu;obtain⟨c0,c1⟩:=hI.cut2 x (.head _) w hw hc hxu;obtain⟨_,c2⟩:=hI.cut2 m (hmem' m hm) w hw hc hu;have c3:Fc x.name cut=cut:=by unfold Fc;rw[if_neg (by simp[c1])]
     rw[c3,if_neg (by simp[c0])];exact⟨c0,c2⟩
    .rw[h3 w hw] at hu;have hc':=hc;unfold Em Gz at hc';rw[h3 w hw] at hc';simp only[Bp,decide_eq_true_eq] at hc';have hns:H7 g 2=true:=Dj.2 ⟨w,hw,by simp[hc'.1]⟩;by_cases c:Fc x.name cut=[]
     .rw[if_pos ⟨c,hc'.2.1,hns⟩];exact⟨yf hvx,hu⟩
     .rw[if_neg (by simp[c])];have q:¬(cut≠[]∧under x.name cut=false):=fun q=>c (by unfold Fc;rw[if_pos q]);have c1:Fc x.name cut=cut:=by unfold Fc;rw[if_neg q]
      rw[c1] at c ⊢;have c2:under x.name cut=true:=by
       rcases Bm (under x.name cut) with k|k
       .exact k
       .exact absurd ⟨c,k⟩ q
      exact⟨c,Bs8 hu c2⟩
   .intro k;rw[hredE] at k ⊢;by_cases c:H7 g 39=true
    .rw[if_pos c];obtain⟨w,w1,w2⟩:=Dj.1 c;simp only[decide_eq_true_eq] at w2;exact⟨w,Dq _ w1,w2,h3 w w1⟩
    .rw[if_neg c] at k;exact absurd rfl k
   .intro m hm w hw hc hu;rcases Cn.1 hw with hw|hw
    .exfalso;have hxu:=hmid m hm w hw hu;obtain⟨c0,c1⟩:=hI.red2 x (.head _) w hw hc hxu;have:Fc x.name red=red:=by unfold Fc;rw[if_neg (by simp[c1])]
     rw[this] at hredE;exact c0 hredE
    .rw[h3 w hw] at hu;have hd:H7 g 39=true:=Dj.2 ⟨w,hw,by simp[hc]⟩;rw[if_pos hd];exact⟨yf hvx,hu⟩
  .rw[if_neg hp];simp[hp]
def Ch4 {l:List Rec} (h:l.Pairwise ltR):Hc7 l:=h.imp fun {a b} k=>by
 rcases k with k|⟨k,_⟩
 .exact to_N.asym k
 .have k':a.name=b.name:=k;rw[k'];exact to_N.irr _
def Dg1:∀(n:Nat) (l:List Rec),l.length<=n->Hc7 l->(∀g∈grp l,g≠[]∧g=l.filter fun r=>decide (r.name=nmG g))∧∀r∈l,∃g∈grp l,nmG g=r.name∧r∈g
 |_,[],_,_=>by simp[grp,bf]
 |0,x::r,hn,_=>by simp at hn
 |n+1,x::r,hn,hs=>by
  obtain⟨g,l',h1,h2,h3,h4,h5⟩:=W9 x r;have hnm:nmG g=x.name:=Fx0 h2 h3;have hs2:Hc7 (g++l'):=by rw[<-h1];exact hs
  have hs3:=G5.1 hs2;have hgl:∀b∈l',ltN x.name b.name:=by
   cases l' with
   |nil=>intro b hb;cases hb
   |cons y l''=>
    have hy:ltN x.name y.name:=by
     obtain⟨w,hw⟩:=Gb g h2;have k:=hs3.2.2 w hw y (.head _);rw[h3 w hw] at k;rcases to_N.tri x.name y.name with q|q|q
     .exact q
     .exact absurd q.symm (h4 y rfl)
     .exact absurd q k
    intro b hb;rcases Cj.1 hb with rfl|hb
    .exact hy
    .have k:=(Cd.1 hs3.2.1).1 b hb;rcases to_N.tri y.name b.name with q|q|q
     .exact to_N.tr _ _ _ hy q
     .rw[<-q];exact hy
     .exact absurd q k
  have hlen:=congrArg List.length h1;have hg0:0<g.length:=C1.2 h2;simp only[Bt,Cy] at hlen hn;obtain⟨i1,i2⟩:=Dg1 n l' (by omega) hs3.2.1;rw[h5];refine⟨fun g' hg'=> ?_,fun w hw=> ?_⟩
  .rcases Cj.1 hg' with rfl|hg'
   .refine⟨h2,?_⟩;rw[hnm,h1,Fp];have e1:(g'.filter fun r=>decide (r.name=x.name))=g':=List.filter_eq_self.2 fun y hy=>by simp[h3 y hy]
    have e2:(l'.filter fun r=>decide (r.name=x.name))=[]:=Hb.2 fun y hy=>by have:=hgl y hy;intro k;simp only[decide_eq_true_eq] at k;rw[k] at this;exact to_N.irr _ this
    rw[e1,e2,Fj]
   .obtain⟨j1,j2⟩:=i1 g' hg';refine⟨j1,?_⟩;rw[h1,Fp];have e1:(g.filter fun r=>decide (r.name=nmG g'))=[]:=Hb.2 fun y hy=>by intro k;simp only[decide_eq_true_eq] at k;obtain⟨w,hw⟩:=Gb g' j1;have hw2:=hw;rw[j2] at hw2;obtain⟨q1,q2⟩:=Cg.1 hw2;simp only[decide_eq_true_eq] at q2;have:=hgl w q1;rw[q2,<-k,h3 y hy] at this;exact to_N.irr _ this
    rw[e1,Dc];exact j2
  .rw[h1] at hw;rcases Cn.1 hw with hw|hw
   .exact⟨g,.head _,by rw[hnm,h3 w hw],hw⟩
   .obtain⟨g',q1,q2⟩:=i2 w hw;exact⟨g',.tail _ q1,q2⟩
def Hl5 (l:List Rec) (n:List UInt8) (t:Int):H7 (l.filter fun r=>decide (r.name=n)) t=vk l n t:=by
 rw[D8];unfold H7 vk findR;rw[Dj,decide_eq_true_eq,List.length_pos_iff_exists_mem];constructor
 .rintro⟨x,h1,h2⟩;obtain⟨h3,h4⟩:=Cg.1 h1;exact⟨x,Cg.2 ⟨h3,by unfold isK;rw[h4,h2];rfl⟩⟩
 .rintro⟨x,h1⟩;obtain⟨h3,h4⟩:=Cg.1 h1;unfold isK at h4;rw[Bp] at h4;exact⟨x,Cg.2 ⟨h3,h4.1⟩,h4.2⟩
def Ep4 (l:List Rec) (n:List UInt8) (t:Int):vk l n t=true↔∃r∈l,r.name=n∧r.typ=t:=by
 unfold vk findR;rw[decide_eq_true_eq,List.length_pos_iff_exists_mem];constructor
 .rintro⟨x,h1⟩;obtain⟨h3,h4⟩:=Cg.1 h1;unfold isK at h4;simp only[Bp,decide_eq_true_eq] at h4;exact⟨x,h3,h4⟩
 .rintro⟨x,h1,h2,h3⟩;exact⟨x,Cg.2 ⟨h1,by unfold isK;simp[h2,h3]⟩⟩
abbrev sng (t:Int):Prop:=t=6∨t=5∨t=39
def two (x y:Rec):Prop:=x.typ=y.typ->(x≠y->¬sng x.typ)∧(x.typ≠46->x.ttl=y.ttl)
def Ex2 {x y:Rec} (h:two x y):two y x:=fun e=>by obtain⟨h1,h2⟩:=h e.symm;exact⟨fun k=>by rw[e];exact h1 k.symm,fun k=>(h2 (by rw[<-e];exact k)).symm⟩
def Ex3 (x:Rec):two x x:=fun _=>⟨fun k=>absurd rfl k,fun _=>rfl⟩
def Dx5 {a b:Rec} (h:ltR a b) (e:a.name=b.name):a.typ<=b.typ:=by
 rcases h with h|⟨_,h|⟨h,_⟩⟩
 .have h':ltN a.name b.name:=h;rw[e] at h';exact absurd h' (to_N.irr _)
 .have h':a.typ<b.typ:=h;omega
 .have h':a.typ=b.typ:=h;omega
def Dx6 {a b:Rec} (h:ltR a b):a≠b:=fun e=>by rw[e] at h;exact to_K.irr _ h
def Ag6:∀(r:List Rec) (p:Rec),(p::r).Pairwise ltR->(∀x∈r,x.name=p.name)->(c8 p r=true↔(p::r).Pairwise two)
 |[],p,_,_=>by simp[c8]
 |x::r,p,hs,hn=>by
  obtain⟨h1,h2⟩:=Cd.1 hs;obtain⟨h3,h4⟩:=Cd.1 h2;have hx:=hn x (.head _);have ih:=Ag6 r x h2 (fun y hy=>by rw[hn y (.tail _ hy),hx]);have hpx:(!decide (x.typ=p.typ)||(!(decide (x.typ=6)||decide (x.typ=5)||decide (x.typ=39)) && (decide (x.typ=46)||decide (x.ttl=p.ttl))))=true↔two p x:=by
   have hne:p≠x:=Dx6 (h1 x (.head _));unfold two sng;simp only[Ck,Bp,Cf,decide_eq_false_iff_not,decide_eq_true_eq,K6];constructor
   .rintro (k|⟨k1,k2⟩) e
    .exact absurd e.symm k
    .refine⟨fun _=>by rw[e];omega,fun k=> ?_⟩;rcases k2 with k2|k2
     .exact absurd (e.trans k2) k
     .exact k2.symm
   .intro h;by_cases e:x.typ=p.typ
    .obtain⟨a,b⟩:=h e.symm;have a':=a hne;refine .inr ⟨by rw[e];omega,?_⟩;by_cases k:x.typ=46
     .exact .inl k
     .exact .inr (b (by rw[<-e];exact k)).symm
    .exact .inl e
  have step:c8 p (x::r)=true↔two p x∧c8 x r=true:=by simp only[c8];rw[Bp,hpx]
  rw[step,ih,Cd (a:=p)];constructor
  .rintro⟨k1,k2⟩;refine⟨fun y hy=> ?_,k2⟩;rcases Cj.1 hy with rfl|hy
   .exact k1
   .intro e;have t1:=Dx5 (h1 x (.head _)) hx.symm;have t2:=Dx5 (h3 y hy) (by rw[hx,hn y (.tail _ hy)]);have e1:p.typ=x.typ:=by omega
    obtain⟨a1,a2⟩:=k1 e1;obtain⟨b1,b2⟩:=(Cd.1 k2).1 y hy (by omega);exact⟨fun _=>a1 (Dx6 (h1 x (.head _))),fun k=>by rw[a2 k];exact b2 (by omega)⟩
  .rintro⟨k1,k2⟩;exact⟨k1 x (.head _),k2⟩
def Ex1 {g:List Rec} {n:List UInt8} (hs:g.Pairwise ltR) (hn:∀x∈g,x.name=n):Eq3 g=true↔∀x∈g,∀y∈g,two x y:=by
 have:Eq3 g=true↔g.Pairwise two:=by
  cases g with
  |nil=>simp[Eq3]
  |cons p r=>exact Ag6 r p hs fun x hx=>by rw[hn x (.tail _ hx),hn p (.head _)]
 rw[this];constructor
 .intro h x hx y hy;obtain⟨i,hi⟩:=Ep hx;obtain⟨j,hj⟩:=Ep hy;obtain⟨i1,i2⟩:=Br.1 hi;obtain⟨j1,j2⟩:=Br.1 hj;rcases Nat.lt_trichotomy i j with k|k|k
  .have:=E1.1 h i j i1 j1 k;rw[i2,j2] at this;exact this
  .subst k;rw[<-i2,<-j2];exact Ex3 _
  .have:=E1.1 h j i j1 i1 k;rw[i2,j2] at this;exact Ex2 this
 .intro h;rw[E1];intro i j hi hj _;exact h _ (Er hi) _ (Er hj)
def Wk (r x:Rec):Tr r x=true↔(x.name=r.name->two r x∧(r.typ=5->x.typ=5∨x.typ=46∨x.typ=47)):=by
 unfold Tr two sng;by_cases h:x.name=r.name
 .simp only[h,decide_true,N1,I9,true_implies,Bp,Cf,H2,decide_eq_false_iff_not,K6,ne_eq,Hp];by_cases e:x.typ=r.typ
  .have e':r.typ=x.typ:=e.symm;simp only[e,not_true_eq_false,false_or,true_implies];constructor
   .rintro⟨⟨h1,h2⟩,h3⟩;refine⟨⟨fun k q=> ?_,fun k=> ?_⟩,fun k=>by omega⟩
    .rcases h2 with h2|h2
     .omega
     .exact k h2.symm
    .rcases h1 with h1|h1
     .exact absurd h1 k
     .exact h1.symm
   .rintro⟨⟨h1,h2⟩,h3⟩;refine⟨⟨?_,?_⟩,by omega⟩
    .by_cases k:r.typ=46
     .exact .inl k
     .exact .inr (h2 k).symm
    .by_cases k:r=x
     .exact .inr k.symm
     .have:=h1 k;left;omega
  .have e':¬r.typ=x.typ:=fun q=>e q.symm;simp only[e,e',not_false_eq_true,true_or,true_and,false_implies];omega
 .simp[h]
set_option maxHeartbeats 1000000 in
def Cm2 (z:Zone) (hv:∀r∈z.recs,T5 r=true) (hr:z.recs.Pairwise ltR):
  ((∀g∈grp z.recs,qh z g=true)∧∃r∈z.recs,r.name=z.origin)↔((findR z.recs z.origin 6).length=1∧vk z.recs z.origin 2=true∧∀r∈z.recs,Um z r=true):=by
 obtain⟨ga,gb⟩:=Dg1 z.recs.length z.recs (B7 _) (Ch4 hr);have gm:∀g∈grp z.recs,∀x,x∈g↔x∈z.recs∧x.name=nmG g:=fun g hg x=>by
  have:=(ga g hg).2;constructor
  .intro h;rw[this] at h;obtain⟨a,b⟩:=Cg.1 h;exact⟨a,by simpa using b⟩
  .rintro⟨a,b⟩;rw[this];exact Cg.2 ⟨a,by simpa using b⟩
 have gh:∀g∈grp z.recs,∀t,H7 g t=vk z.recs (nmG g) t:=fun g hg t=>by have:=Hl5 z.recs (nmG g) t;rwa[<-(ga g hg).2] at this
 have gu:∀g∈grp z.recs,(Eq3 g=true↔∀x∈g,∀y∈g,two x y):=fun g hg=>by refine Ex1 (n:=nmG g) ?_ fun x hx=>((gm g hg x).1 hx).2;rw[(ga g hg).2];exact hr.filter _
 have hstar:∀r∈z.recs,(r.name[0]? =some 42↔(lbl r.name)[0]? =some [42]):=fun r h=>Uc (om (hv r h));constructor
 .rintro⟨hp,r0,hr0,hr0n⟩;have hpg:∀r∈z.recs,∃g∈grp z.recs,nmG g=r.name∧r∈g∧qh z g=true:=fun r h=>by obtain⟨g,h1,h2,h3⟩:=gb r h;exact⟨g,h1,h2,h3,hp g h1⟩
  obtain⟨g0,k1,k2,k3,k4⟩:=hpg r0 hr0;rw[hr0n] at k2;have k5:=k4;unfold qh propG at k5;simp only[k2,Bp,decide_eq_true_eq,decide_true,N1,I9] at k5;have s6:vk z.recs z.origin 6=true:=by rw[<-k2,<-gh g0 k1,k5.1.1.1.1.1.1.1.2]
  have s2:vk z.recs z.origin 2=true:=by rw[<-k2,<-gh g0 k1,k5.1.1.1.1.1.2]
  refine⟨?_,s2,fun r h=> ?_⟩
  ·-- one SOA record
   have hpos:0<(findR z.recs z.origin 6).length:=by unfold vk at s6;simpa using s6
   have hpw:(findR z.recs z.origin 6).Pairwise ltR:=hr.filter _;have hmm:∀x∈findR z.recs z.origin 6,x∈g0∧x.typ=6:=fun x hx=>by obtain⟨a,b⟩:=Cg.1 hx;unfold isK at b;simp only[Bp,decide_eq_true_eq] at b;exact⟨(gm g0 k1 x).2 ⟨a,by rw[b.1,k2]⟩,b.2⟩
   have hu:=(gu g0 k1).1 k5.1.1.1.1.1.1.2;generalize findR z.recs z.origin 6=l at*
   match l,hpos,hpw,hmm with
   |[a],_,_,_=>rfl
   |a::b::r,_,hpw,hmm=>
    exfalso;have hab:=(Cd.1 hpw).1 b (.head _);obtain⟨a1,a2⟩:=hmm a (.head _);obtain⟨b1,b2⟩:=hmm b (.tail _ (.head _));exact((hu a a1 b b1 (by rw[a2,b2])).1 (Dx6 hab)) (.inl a2)
  .obtain⟨g,h1,h2,h3,h4⟩:=hpg r h;unfold qh propG at h4;rw[h2] at h4;simp only[Bp,decide_eq_true_eq,Ck,Cf,decide_eq_false_iff_not,H2] at h4;obtain⟨⟨⟨⟨⟨⟨⟨⟨p1,p2⟩,p3⟩,p4⟩,p5⟩,p6⟩,p7⟩,p8⟩,p9⟩:=h4;have hu:=(gu g h1).1 p3;have hon:∀ts,Lb g ts=true->r.typ∈ts:=fun ts k=>by have:=Cr.1 k r h3;simpa using this
   have has:∀t,r.typ=t->H7 g t=true:=fun t e=>Dj.2 ⟨r,h3,by simp[e]⟩;unfold Um;simp only[Bp,Cf,H2,decide_eq_false_iff_not,ne_eq,Hp];refine⟨⟨⟨p1,?_⟩,?_⟩,?_⟩
   .by_cases e:r.typ=6
    .right;rw[has 6 e] at p2;simpa using p2.symm
    .exact .inl e
   .unfold my;rw[Cr];intro x hx;rw[Wk];intro e;have hxg:x∈g:=(gm g h1 x).2 ⟨hx,by rw[h2,e]⟩;refine⟨hu r h3 x hxg,fun e5=> ?_⟩;rcases p5 with p5|p5
    .rw[has 5 e5] at p5;cases p5
    .have:=Cr.1 p5 x hxg;simpa using this
   .unfold Up;have h9:¬((lbl r.name)[0]? =some [42]∧(r.typ=2∨r.typ=39)):=by
     rintro⟨e1,e2⟩;rcases p9 with p9|⟨q1,q2⟩
     .exact p9 ((hstar r h).2 e1)
     .rcases e2 with e2|e2
      .rw[has 2 e2] at q1;cases q1
      .rw[has 39 e2] at q2;cases q2
    rw[if_neg h9,Bp];refine⟨Cr.2 fun x hx=> ?_,?_⟩
    .unfold Sg;simp only[Bp,Cf,H2,decide_eq_false_iff_not,ne_eq,Hp];constructor
     .by_cases e:x.typ=39
      .right;rcases Bm (Gz r.name x.name) with q|q
       .have:Gk2 z r.name=true:=Dj.2 ⟨x,hx,by simp[e,q]⟩;rw[this] at p6;cases p6
       .exact q
      .exact .inl e
     .by_cases e:x.typ=2∧Gz x.name z.origin=true∧Gz r.name x.name=true
      .have q:=e.2.2;unfold Gz at q;simp only[Bp,decide_eq_true_eq] at q;have:Oz z r.name=true:=Dj.2 ⟨x,hx,by unfold Em;simp[e.1,e.2.1,q.2];exact fun k=>q.1 k.symm⟩;rcases p7 with p7|p7
       .rw[this] at p7;cases p7
       .have:=hon _ p7;simp at this;rcases this with this|this
        .exact .inl (.inr this)
        .exact .inr this
      .by_cases e1:x.typ=2
       .by_cases e2:Gz x.name z.origin=true
        .have e3:Gz r.name x.name=false:=by
          rcases Bm (Gz r.name x.name) with q|q
          .exact absurd ⟨e1,e2,q⟩ e
          .exact q
         exact .inl (.inl (.inr e3))
        .exact .inl (.inl (.inl (.inr (by simpa using e2))))
       .exact .inl (.inl (.inl (.inl e1)))
    .have hb:Gz r.name z.origin= !decide (r.name=z.origin):=by unfold Gz;rw[p1];simp
     rw[hb,<-h2,<-gh g h1 2,h2];by_cases c:¬r.name=z.origin∧H7 g 2=true
     .have cb:(!decide (r.name=z.origin) && H7 g 2)=true:=by simp[c]
      rw[if_pos c] at p8;rw[if_pos cb];have:=hon _ p8;unfold jx;simp at this ⊢;omega
     .have cb:¬(!decide (r.name=z.origin) && H7 g 2)=true:=by simpa using c
      rw[if_neg c] at p8;rw[if_neg cb];simp only[Cf] at p8;rw[decide_eq_true_eq];intro e;rw[has 43 e] at p8;cases p8
 .rintro⟨h1,h2,h3⟩;have hrr:∃r∈z.recs,r.name=z.origin:=by obtain⟨r,k1,k2,_⟩:=(Ep4 _ _ _).1 h2;exact⟨r,k1,k2⟩
  refine⟨fun g hg=> ?_,hrr⟩;obtain⟨r,hrg⟩:=Gb g (ga g hg).1;obtain⟨hrz,hrn⟩:=(gm g hg r).1 hrg;have hrec:∀x∈g,under x.name z.origin=true∧(x.typ=6->x.name=z.origin)∧(∀y∈g,two x y∧(x.typ=5->y.typ=5∨y.typ=46∨y.typ=47))∧Up z x=true:=fun x hx=>by
   obtain⟨a,b⟩:=(gm g hg x).1 hx;have k:=h3 x a;unfold Um at k;simp only[Bp,Cf,H2,decide_eq_false_iff_not,ne_eq,Hp] at k;refine⟨k.1.1.1,fun e=> ?_,fun y hy=> ?_,k.2⟩
   .rcases k.1.1.2 with q|q
    .exact absurd e q
    .exact q
   .obtain⟨c,d⟩:=(gm g hg y).1 hy;have q:=k.1.2;unfold my at q;exact(Wk x y).1 (Cr.1 q y c) (by rw[d,b])
  have hpl:∀x∈g,¬((lbl x.name)[0]? =some [42]∧(x.typ=2∨x.typ=39))∧z.recs.all (Sg z x)=true∧(if Gz x.name z.origin && vk z.recs x.name 2 then jx x.typ else decide (x.typ≠43))=true:=fun x hx=>by
   have k:=(hrec x hx).2.2.2;unfold Up at k;by_cases q:(lbl x.name)[0]? =some [42]∧(x.typ=2∨x.typ=39)
   .rw[if_pos q] at k;cases k
   .rw[if_neg q,Bp] at k;exact⟨q,k⟩
  have hnx:∀x∈g,x.name=nmG g:=fun x hx=>((gm g hg x).1 hx).2;unfold qh propG;simp only[Bp,decide_eq_true_eq,Ck,Cf,decide_eq_false_iff_not,H2];refine⟨⟨⟨⟨⟨⟨⟨⟨?_,?_⟩,?_⟩,?_⟩,?_⟩,?_⟩,?_⟩,?_⟩,?_⟩
  .rw[<-hrn];exact(hrec r hrg).1
  .rw[D8,decide_eq_true_eq];constructor
   .intro k;obtain⟨x,x1,x2⟩:=Dj.1 k;rw[<-hnx x x1];exact(hrec x x1).2.1 (by simpa using x2)
   .intro k;rw[gh g hg,k];unfold vk;simp[h1]
  .exact(gu g hg).2 fun x hx y hy=>((hrec x hx).2.2.1 y hy).1
  .by_cases e:nmG g=z.origin
   .right;rw[gh g hg,e];exact h2
   .exact .inl e
  .by_cases e:H7 g 5=true
   .right;obtain⟨x,x1,x2⟩:=Dj.1 e;refine Cr.2 fun y hy=> ?_;have:=((hrec x x1).2.2.1 y hy).2 (by simpa using x2);simpa using this
   .exact .inl (by simpa using e)
  .rcases Bm (Gk2 z (nmG g)) with q|q
   .exfalso;obtain⟨w,w1,w2⟩:=Dj.1 q;have k:=Cr.1 (hpl r hrg).2.1 w w1;unfold Sg at k;rw[hrn] at k;rw[w2] at k;simp at k
   .exact q
  .rcases Bm (Oz z (nmG g)) with q|q
   .right;obtain⟨w,w1,w2⟩:=Dj.1 q;unfold Em at w2;simp only[Bp,decide_eq_true_eq] at w2;refine Cr.2 fun x hx=> ?_;have k:=Cr.1 (hpl x hx).2.1 w w1;unfold Sg at k;have hb:Gz x.name w.name=true:=by unfold Gz;rw[hnx x hx];have:nmG g≠w.name:=fun e=>w2.1.2 e.symm;simp[this,w2.2]
    rw[hb,w2.1.1.2] at k;simp[w2.1.1.1] at k;have k':x.typ=1∨x.typ=28:=by omega
    simpa using k'
   .exact .inl q
  .have hbn:Gz (nmG g) z.origin= !decide (nmG g=z.origin):=by unfold Gz;rw[<-hrn,(hrec r hrg).1];simp
   by_cases c0:¬nmG g=z.origin∧H7 g 2=true
   .have c:(!decide (nmG g=z.origin) && H7 g 2)=true:=by simp[c0]
    rw[if_pos c0];refine Cr.2 fun x hx=> ?_;have k:=(hpl x hx).2.2;rw[hnx x hx,hbn,<-gh g hg,if_pos c] at k;unfold jx at k;simp at k ⊢;omega
   .have c:¬(!decide (nmG g=z.origin) && H7 g 2)=true:=by simpa using c0
    rw[if_neg c0];simp only[Cf];rcases Bm (H7 g 43) with q|q
    .exfalso;obtain⟨x,x1,x2⟩:=Dj.1 q;have k:=(hpl x x1).2.2;rw[hnx x x1,hbn,<-gh g hg,if_neg c] at k;simp at x2 k;exact k x2
    .exact q
  .by_cases e:(nmG g)[0]? =some 42
   .right;rw[<-hrn] at e;have e2:=(hstar r hrz).1 e;constructor
    .rcases Bm (H7 g 2) with q|q
     .exfalso;obtain⟨x,x1,x2⟩:=Dj.1 q;refine(hpl x x1).1 ⟨by rw[hnx x x1,<-hrn];exact e2,.inl (by simpa using x2)⟩
     .exact q
    .rcases Bm (H7 g 39) with q|q
     .exfalso;obtain⟨x,x1,x2⟩:=Dj.1 q;refine(hpl x x1).1 ⟨by rw[hnx x x1,<-hrn];exact e2,.inr (by simpa using x2)⟩
     .exact q
   .exact .inl e
def xl (s t:List UInt8) (hs:s.length<=9223372036854775807):S Ap7 2 [.s s,.s t]=some [.b (t.isPrefixOf s)]:=by
 refine Hw0 (N:=1) rfl ?_;have h:S Ap1 2 [.s s,.s t]=some [.b (t.isPrefixOf s)]:=by
  refine Hv0 (N:=1) rfl ?_;by_cases hl:(t.length:Int)<=(s.length:Int)
  .simp(disch:=omega)only[Fq5,hl,Aq,simprocAttr];congr 4;rw[D8,List.isPrefixOf_iff_prefix,List.prefix_iff_eq_take];simp;exact⟨fun h=>h.symm,fun h=>h.symm⟩
  .simp(disch:=omega)only[Fq5,hl,Aq,simprocAttr];congr 4;rw[eq_comm,Ef];intro h;have:=(List.isPrefixOf_iff_prefix.1 h).length_le;omega
 simp(disch:=omega)only[Gn9,h,Aq,simprocAttr]
def E3 (n:List UInt8) (hn:n.length<=9223372036854775807):S Sr 1 [.s n]=some [.b (Kj n)]:=by
 refine Hy7 (N:=1) rfl ?_;have h1:=Dx n hn;have h2:=xl n [42] hn;unfold Kj;rcases Bm (vld n) with h|h
 .rw[h] at h1;have e:([42]:List UInt8).isPrefixOf n=decide (n[0]? =some 42):=by
   cases n with
   |nil=>rfl
   |cons c r=>rw[D8];simp[List.isPrefixOf];exact⟨fun h=>h.symm,fun h=>h.symm⟩
  rw[e] at h2;simp(disch:=omega)only[Fv1,h1,h2,h,Aq,simprocAttr];by_cases h3:n[0]? =some 42<;>simp[h3]
 .rw[h] at h1;simp(disch:=omega)only[Fv1,h1,h,Aq,simprocAttr];rfl
def Ec (n m:Int):S I5 2 [.i .i64 n,.i .i64 m]=some [.b (inB n m)]:=by refine Hy5 (N:=1) rfl ?_;unfold inB;by_cases h:0<=n<;>simp(disch:=omega)only[Gr0,h,Aq,simprocAttr]<;>simp
def Fs (s:List UInt8) (hs:s.length<=9223372036854775807):S d5 1 [.s s]=some [.b (Ly s)]:=by
 refine Hy4 (N:=1) rfl ?_;unfold Ly;by_cases h:(1:Int)<=(s.length:Int)
 .have h':1<=s.length:=by omega
  simp(disch:=omega)only[Fq9,h,Aq,simprocAttr];by_cases h2:s.length<=255
  .have h3:(s.length:Int)<=255:=by omega
   simp[h',h2,h3]
  .have h3:¬(s.length:Int)<=255:=by omega
   simp[h2,h3]
 .have h':¬1<=s.length:=by omega
  simp(disch:=omega)only[Fq9,h,Aq,simprocAttr];simp[h']
def Ez (d:Dat):S tw 1 [Mn d]=some [.b (Gv d)]:=by
 refine Hy8 (N:=1) rfl ?_;unfold Gv;rcases Bm d.v6 with h|h
 .simp(disch:=omega)only[Ck2,h,Aq,simprocAttr];simp
 .by_cases h2:d.hi=0
  .simp(disch:=omega)only[Ck2,h,h2,Aq,simprocAttr];by_cases h3:d.lo<=4294967295
   .have:d.lo<4294967296:=by omega
    simp[h3,this]
   .have:¬d.lo<4294967296:=by omega
    simp[h3,this]
  .simp(disch:=omega)only[Ck2,h,h2,Aq,simprocAttr];simp
def Ed (n:Int):S Ar7 1 [.i .i64 n]=some [.b (inB n 4294967295)]:=by
 refine Hy6 (N:=1) rfl ?_;unfold inB;by_cases h:0<=n
 .simp(disch:=omega)only[Fv0,h,Aq,simprocAttr];by_cases h3:n<=4294967295
  .have:n<4294967296:=by omega
   simp[h3,this]
  .have:¬n<4294967296:=by omega
   simp[h3,this]
 .simp(disch:=omega)only[Fv0,h,Aq,simprocAttr];simp
def Fq2:Int:=501935916552294
def F0:S Ar6 0 []=some [.i .u64 Fq2]:=by
 refine Hy3 (N:=20) rfl ?_;have key:Dc5.ev S 20 [Aq4 kds]=some (.yld 0 [.i .u64 Fq2]):=by kernel_rfl
 simp(disch:=omega)only[Gp9,At9,key,U2,Aq,simprocAttr]
def Bw5 (x:Int):∀(k i:Nat),Gh6 x i k=true↔∀j,i<=j->j<i+k->bit x j=1->knw (j:Int)=true
 |0,i=>by simp only[Gh6,true_iff];intro j h1 h2;omega
 |k+1,i=>by
  simp only[Gh6,Bp,Ck,Cf,decide_eq_false_iff_not];rw[Bw5 x k (i+1)];constructor
  .rintro⟨h1,h2⟩ j h3 h4 h5;rcases Nat.lt_or_eq_of_le h3 with h|h
   .exact h2 j (by omega) (by omega) h5
   .subst h;rcases h1 with h1|h1
    .exact absurd h5 h1
    .exact h1
  .intro h;refine⟨?_,fun j h1 h2 h3=>h j (by omega) (by omega) h3⟩;by_cases hb:bit x i=1
   .exact .inr (h i (B7 _) (by omega) hb)
   .exact .inl hb
def Bw2:∀i:Nat,i<64->(BitVec.ofInt 64 Fq2).getLsbD i=knw (i:Int):=by decide
def Ds9 (x:Int) (h0:0<=x) (h1:x<=18446744073709551615) (i:Nat) (hi:i<64):bit x i=1↔(BitVec.ofInt 64 x).getLsbD i=true:=by
 obtain⟨n,rfl⟩:∃n:Nat,x=n:=⟨x.toNat,by omega⟩;have e:BitVec.ofInt 64 (n:Int)=BitVec.ofNat 64 n:=by simp
 rw[e,BitVec.getLsbD_ofNat];simp only[hi,decide_true,N0,Nat.testBit_eq_decide_div_mod_eq,decide_eq_true_eq];unfold bit;constructor
 .intro h;have:(((n / 2 ^ i % 2:Nat)):Int)=1:=by push_cast;exact h
  omega
 .intro h;have:(((n / 2 ^ i % 2:Nat)):Int)=1:=by omega
  push_cast at this;exact this
def Gk (x:Int) (h0:0<=x) (h1:x<=18446744073709551615):decide (IntKind.u64.wrap ((BitVec.ofInt IntKind.u64.bits x &&& ~~~ BitVec.ofInt IntKind.u64.bits Fq2).toNat:Int)=0)=Gh6 x 0 64:=by
 have hb:IntKind.u64.bits=64:=rfl;have hw:IntKind.u64.wrap ((BitVec.ofInt 64 x &&& ~~~ BitVec.ofInt 64 Fq2).toNat:Int)=((BitVec.ofInt 64 x &&& ~~~ BitVec.ofInt 64 Fq2).toNat:Int):=by have:=(BitVec.ofInt 64 x &&& ~~~ BitVec.ofInt 64 Fq2).isLt;rw[Gl6]<;>omega
 rw[hb,hw,D8,decide_eq_true_eq,Bw5];constructor
 .intro h j _ hj hb1;have hz:(BitVec.ofInt 64 x &&& ~~~ BitVec.ofInt 64 Fq2)=0#64:=BitVec.eq_of_toNat_eq (by simp only[BitVec.toNat_ofNat];omega);have:=congrArg (fun v=>v.getLsbD j) hz;simp only[Of,Ik8,BitVec.getLsbD_zero] at this;rw[(Ds9 x h0 h1 j (by omega)).1 hb1,Bw2 j (by omega)] at this;have hj':j<64:=by omega
  simpa [hj'] using this
 .intro h;have hz:(BitVec.ofInt 64 x &&& ~~~ BitVec.ofInt 64 Fq2)=0#64:=by
   apply BitVec.eq_of_getLsbD_eq;intro i hi;simp only[Of,Ik8,BitVec.getLsbD_zero];rw[Bw2 i hi];rcases Bm ((BitVec.ofInt 64 x).getLsbD i) with q|q
   .rw[h i (Df _) (by omega) ((Ds9 x h0 h1 i hi).2 q)];simp
   .rw[q];rfl
  rw[hz];rfl
def Zw {L:List UInt8} {i:Nat} {c:UInt8} (h:L[i]? =some c):(D3 L)[i]? =some (.i .u8 (c.toNat:Int)):=by unfold D3;rw[C9,h];rfl
def qj (L:List UInt8) (k:IntKind) (z v:Int) (h0:0<=z) (h1:z<(L.length:Int)) (h2:0<=v) (h3:v<256):M8 1 0 [.i .u8 v] (.l 1 (D3 L)) (.i k z)=some (.l 1 (D3 (L.set z.toNat (UInt8.ofNat v.toNat)))):=by
 have h4:z.toNat<L.length:=by omega
 have h5:=Zw (B0 h4);simp only[M8,h0,h5,and_self,if_true,B3];have h6:O2 (.i .u8 (((L[z.toNat]'h4).toNat:Nat):Int)) 0 [.i .u8 v]=some (.i .u8 v):=rfl;rw[h6];have h7:((UInt8.ofNat v.toNat).toNat:Int)=v:=Dq9 v h2 h3;simp only[Cc,D3,List.map_set,h7]
def qc (n:Int) (h0:0<=n) (h1:n<=1000000):Ov 1 (.i .i64 n) (.i .u8 0)=some (.l 1 (D3 (List.replicate n.toNat 0))):=by
 have h2:n<=(LIM:Int):=by simp only[LIM];omega
 have h3:(PV.i .u8 0).cells.length=1:=rfl;simp only[Ov,h0,h2,h3,and_self,if_true];simp[D3]
def Uj (x:Int):IntKind.u8.wrap x=x % 256:=rfl
def Gk1 (n k:Nat) (hk:k<n) (B:List UInt8) (c:UInt8):(List.replicate (n - k) 0++B).set (n - 1 - k) c=List.replicate (n - (k+1)) 0++c::B:=by obtain⟨m,hm⟩:∃m,n - k=m+1:=⟨n - k - 1,by omega⟩;rw[hm,show n - 1 - k=m by omega,show n - (k+1)=m by omega,List.replicate_succ',Cv,P1 _ _ (by simp)];simp
def F7 (v:Int) (n:Nat) (hn:n<=1000) (h0:0<=v) (h1:v<=9223372036854775807):S Ip 2 [.i .i64 v,.i .i64 (n:Int)]=some [.s (be v n)]:=by
 refine Hq5 (N:=n+2) rfl ?_;have key:Db4.ev S (n+2) [.i .i64 v,.i .i64 (n:Int)]=some (.yld 0 [.l 1 (D3 (be v n))]):=by
  refine Iq n (fun k=>[.i .i64 (v / 256 ^ k),.l 1 (D3 (List.replicate (n - k) 0++be v k)),.i .i64 ((n:Int) - 1 - k)]) (fun _=> .yld 0 [.l 1 (D3 (be v n))]) ?_ (by omega) (fun k hk=> ?_) ?_
  .simp(disch:=omega)only[qc,Aq,simprocAttr];simp[be]
  .left;refine⟨?_,rfl⟩;have h2:=Hr1 v k h0;have h3:=Hr2 v k h0;have h4:=Gd1 v k;have hl:(List.replicate (n - k) (0:UInt8)++be v k).length=n:=by rw[Bt,yb,Gm];omega
   obtain⟨c0,hg⟩:∃c0,(D3 (List.replicate (n - k) (0:UInt8)++be v k))[n - 1 - k]? =some c0:=⟨_,Zw (B0 (by omega))⟩;have hs:=Gk1 n k hk (be v k) (UInt8.ofNat (v / 256 ^ k % 256).toNat);have e1:((n:Int) - 1 - k).toNat=n - 1 - k:=by omega
   have e2:(n:Int) - 1 - ((k+1:Nat):Int)=(n:Int) - 1 - k - 1:=by omega
   have hge:(0:Int)<=(n:Int) - 1 - k:=by omega
   have hsh:bin .shr (.i .i64 (v / 256 ^ k)) (.i .u64 8)=some (.i .i64 (v / 256 ^ (k+1))):=by have:=Cf6 .i64 .u64 (v / 256 ^ k) 8 (by decide);rw[<-h4];exact this
   have hbe:be v (k+1)=UInt8.ofNat (v / 256 ^ k % 256).toNat::be v k:=rfl;rw[e2,hbe,<-hs];generalize List.replicate (n - k) (0:UInt8)++be v k=L at*;generalize v / 256 ^ (k+1)=w' at*;generalize v / 256 ^ k=w at*;have hset:=qj L .i64 ((n:Int) - 1 - k) (w % 256) (by omega) (by omega) (by omega) (by omega);rw[e1] at hset;simp(disch:=omega)only[Cj3,hge,hsh,Uj,e1,hg,hset,Aq,simprocAttr]
  .refine⟨?_,rfl⟩;have hge:¬(0:Int)<=(n:Int) - 1 - n:=by omega
   have e:List.replicate (n - n) (0:UInt8)++be v n=be v n:=by simp
   rw[e];simp(disch:=omega)only[Cj3,hge,Aq,simprocAttr]
 simp(disch:=omega)only[Cj3,key,Aq,simprocAttr]
def Bv3 (v:Int) (h0:0<=v) (h1:v<=18446744073709551615):S dr 1 [.i .u64 v]=some [.l 1 (D3 (be v 8))]:=by
 refine Hq1 (N:=10) rfl ?_;have hb:∀i,i<8->(be v 8)[i]? =some (UInt8.ofNat (v / 256 ^ (7 - i) % 256).toNat):=by
  intro i hi;have:i=0∨i=1∨i=2∨i=3∨i=4∨i=5∨i=6∨i=7:=by omega
  rcases this with rfl|rfl|rfl|rfl|rfl|rfl|rfl|rfl<;>rfl
 obtain⟨Z,hZ,hr⟩:∃Z:List UInt8,Z=List.replicate 8 0∧Ov 1 (.i .i64 8) (.i .u8 0)=some (.l 1 (D3 Z)):=⟨_,rfl,qc 8 (by decide) (by decide)⟩;have h8:(D3 Z).length=8:=by rw[hZ];rfl
 have key:Db2.ev S 10 [.i .u64 v]=some (.yld 0 [.l 1 (D3 (be v 8))]):=by
  refine Iq 8 (fun i=>[.l 1 (D3 ((be v 8).take i++List.replicate (8 - i) 0)),.i .i64 (i:Int)]) (fun _=> .yld 0 [.l 1 (D3 (be v 8))]) ?_ (by omega) (fun i hi=> ?_) ?_
  .simp(disch:=omega)only[hr,Aq,simprocAttr];rw[hZ];rfl
  .left;refine⟨?_,rfl⟩;have hl:((be v 8).take i++List.replicate (8 - i) (0:UInt8)).length=8:=by rw[Bt,yb,Cw,Gm];omega
   obtain⟨c0,hg⟩:∃c0,(D3 ((be v 8).take i++List.replicate (8 - i) (0:UInt8)))[i]? =some c0:=⟨_,Zw (B0 (by omega))⟩;have hs:((be v 8).take i++List.replicate (8 - i) (0:UInt8)).set i (UInt8.ofNat (v / 256 ^ (7 - i) % 256).toNat)=(be v 8).take (i+1)++List.replicate (8 - (i+1)) 0:=by rw[Dr,hb i hi,P1 _ _ (by rw[Cw,Gm];omega),Cw,Gm,show i - min i 8=0 by omega];obtain⟨m,hm⟩:∃m,8 - i=m+1:=⟨7 - i,by omega⟩;rw[hm,show 8 - (i+1)=m by omega];simp[List.replicate_succ]
   have hsh:bin .shr (.i .u64 v) (.i .i64 (56 - 8*(i:Int)))=some (.i .u64 (v / 256 ^ (7 - i))):=by
    have:=Cf6 .u64 .i64 v (56 - 8*i) (show 56 - 8*i<64 by omega);have e:((56 - 8*i:Nat):Int)=56 - 8*(i:Int):=by omega
    rw[e] at this;rw[this];have:i=0∨i=1∨i=2∨i=3∨i=4∨i=5∨i=6∨i=7:=by omega
    rcases this with rfl|rfl|rfl|rfl|rfl|rfl|rfl|rfl<;>rfl
   have hlt:(i:Int)<8:=by omega
   have ei:(i:Int).toNat=i:=by omega
   generalize v / 256 ^ (7 - i)=w at*;have hset:=qj ((be v 8).take i++List.replicate (8 - i) (0:UInt8)) .i64 (i:Int) (w % 256) (by omega) (by omega) (by omega) (by omega);rw[ei,hs] at hset;generalize (be v 8).take (i+1)++List.replicate (8 - (i+1)) 0=L' at*;generalize (be v 8).take i++List.replicate (8 - i) (0:UInt8)=L at*;have hlt':(i:Int)<((D3 Z).length:Int):=by rw[h8];omega
   simp(disch:=omega)only[Cj1,hr,hlt',hsh,Uj,ei,hg,hset,Aq,simprocAttr]
  .refine⟨?_,rfl⟩;have hlt:¬((8:Nat):Int)<((D3 Z).length:Int):=by rw[h8];omega
   have e:(be v 8).take 8++List.replicate (8 - 8) (0:UInt8)=be v 8:=by rw[E5 (by rw[Gm];omega)];simp
   rw[e];simp(disch:=omega)only[Cj1,hr,hlt,Aq,simprocAttr]
 simp(disch:=omega)only[Cj1,hr,key,Aq,simprocAttr]
def Bw9 (d:Dat) (h:d.wf):S An9 1 [Mn d]=some (if Gv d=true then [.s (Ww d),.i .i64 0] else [.s [],.i .i64 3]):=by
 refine Hq7 (N:=1) rfl ?_;have h1:=Ez d;have h2:=Bv3 d.hi h.hi.1 h.hi.2;have h3:=Bv3 d.lo h.lo.1 h.lo.2;have l3:(D3 (be d.lo 8)).length=8:=by rw[Ds2,Gm]
 have ls:Jx 1 (.l 1 (D3 (be d.lo 8))) (.i .i64 4) (.i .i64 ((D3 (be d.lo 8)).length:Int))=some (.l 1 (D3 (be d.lo 4))):=by rw[Dx7 _ _ _ _ _ _ (by decide) (by rw[l3];decide) (Ip8 _)];have:(D3 (be d.lo 8)).take (D3 (be d.lo 8)).length=D3 (be d.lo 8):=Eh;simp only[Fq,this];rfl
 have b1:=Gm d.hi 8;have b2:=Gm d.lo 8;unfold Ww;rcases Bm (Gv d) with h4|h4
 .rcases Bm d.v6 with h5|h5
  .simp(disch:=omega)only[Cj4,h1,h2,h3,h4,h5,Aq,simprocAttr]
  .simp(disch:=omega)only[Cj4,h1,h2,h3,h4,h5,ls,Aq,simprocAttr]
 .simp(disch:=omega)only[Cj4,h1,h4,Aq,simprocAttr]
def An3 (n:List UInt8) (hn:n.length<=9223372036854775807):S rm 1 [.s n]=some [.s (K7 n)]:=by
 refine Hq8 (N:=256) rfl ?_;have h0:=Vb n hn;have hlen:=Nz n;have hw:∀i,(wireL ((lbl n).take i)).length<=64*254:=fun i=>by have h1:=Xp ((lbl n).take i) (fun x hx=>j7 n x (Ih hx));rw[Cw] at h1;omega
 have key:Db6.ev S 256 [.s n,C8 (lbl n)]=some (.yld 0 [.s (wireL (lbl n))]):=by
  refine Gx (lbl n) (fun i=>[.s (wireL ((lbl n).take i)),.i .i64 (i:Int)]) (fun i r=> .yld 0 [.s (wireL (lbl n))]) rfl (by omega) (fun i c r hd hi hc=> ?_) ?_
  .left;have hl:=u6 (j7 n c (Cq hc));have h1:=hw i;have h2:=hw (i+1);have e:wireL ((lbl n).take (i+1))=wireL ((lbl n).take i)++(be (c.length:Int) 1++c):=by rw[Dr,hc];simp[wireL]
   have e0:((c.length:Int) / 256 ^ 0 % 256).toNat=c.length:=by rw[Int.pow_zero,Int.ediv_one];omega
   have e2:be (c.length:Int) 1=[UInt8.ofNat c.length]:=by show [UInt8.ofNat ((c.length:Int) / 256 ^ 0 % 256).toNat]=_;rw[e0]
   have e3:D3 [UInt8.ofNat c.length]=[.i .u8 (c.length:Int)]:=by simp[D3];omega
   have e4:=Pn [UInt8.ofNat c.length];rw[e3] at e4;have e5:(c.length:Int) % 256=(c.length:Int):=by omega
   refine⟨?_,rfl⟩;rw[e,e2];generalize wireL ((lbl n).take i)=a at*;have hl2:([UInt8.ofNat c.length]++c).length<=64:=by simp;omega
   have hl3:([UInt8.ofNat c.length]:List UInt8).length=1:=rfl;generalize ([UInt8.ofNat c.length]:List UInt8)=b at*;simp(disch:=omega)only[Cj5,hc,Uj,e5,e4,Aq,simprocAttr]
  .have e:(lbl n).take (lbl n).length=lbl n:=Eh;simp(disch:=omega)only[Cj5,e,Aq,simprocAttr];simp[Out.goes]
 have h3:=hw (lbl n).length;rw[Eh] at h3;have e:K7 n=wireL (lbl n)++[0]:=rfl;rw[e];generalize wireL (lbl n)=a at*;simp(disch:=first|omega|(simp only[Cy,C3];omega))only[Cj5,h0,key,Aq,simprocAttr]
end Go.X.G
