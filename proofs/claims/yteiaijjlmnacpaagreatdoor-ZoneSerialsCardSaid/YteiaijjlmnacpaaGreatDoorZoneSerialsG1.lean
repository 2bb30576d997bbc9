/- Operations, first part: what the machine does is what the executor says. -/
import Derived.Test.YteiaijjlmnacpaaGreatDoorZoneSerialsG0
import Derived.Laws.CopyRow
import Derived.Laws.StructEq
import Derived.Lib.Strings
import Derived.IntWalk
import Derived.Laws.IdiomStrings
import Derived.Laws.BytesArg
import Derived.Great.BuildSlice
import Derived.Laws.OwnMore
open Array renaming getElem?_toList→Ad,getD_eq_getD_getElem?→A9,length_toList→Bn,getElem?_append_left→Cv,toArray_toList→Cd,getElem?_eq_getElem→C9,toList_extract→Ml,size_append→Mm,toList_append→Pl
open Bool renaming and_eq_true→Aq,false_eq_true→Ab,or_eq_true→Am,not_eq_true'→A3,not_eq_false→Dm,and_true→J6
open Int renaming toNat_natCast→Gf,le_refl→Ib1
open List renaming getElem?_eq_some_iff→Ak,getElem?_eq_getElem→Ay,length_append→Az,mem_cons→Ah,length_take→Al,append_assoc→Ar,length_cons→As,getElem?_drop→A4,getElem?_append_right→A5,mem_of_getElem?→A6,getElem?_append_left→A8,all_eq_true→Bj,eq_nil_of_length_eq_zero→Bv,length_pos_iff→Bw,getElem?_map→By,getElem?_take→Bb,length_nil→Bc,getD_eq_getElem?_getD→Bf,mem_append_right→Bh,mem_append→Br,length_drop→Bs,cons_append→Bt,mem_singleton→B4,drop_eq_getElem_cons→B9,getElem?_range→Cj,mem_append_left→Cb,mem_map→Cs,getElem?_set→C0,take_of_length_le→C3,drop_drop→C5,getElem?_cons_succ→C7,getElem?_of_mem→Dv,getElem_mem→Dh,drop_zero→D3,map_cons→Ec,mem_range→E5,mem_of_mem_take→E6,flatMap_cons→Gd,extract_eq_take_drop→G7,mem_of_mem_drop→H7,mapM_cons→H8,size_toArray→If,length_set→I6,length_range→lj,take_take→Av9,drop_set_of_lt→Et1
open Nat renaming le_refl→Ac,mul_le_mul_right→Bz,add_mul→B7,zero_le→C4,le_trans→Dy,add_zero→Dl,mod_eq_of_lt→D2,zero_add→Ek,add_assoc→Eb,mul_comm→Em,lt_of_lt_of_le→E3,one_mul→Fz,mul_le_mul→Gc,min_eq_left→Md,mul_add_mod→Xh,mul_one→Av8,add_comm→Cl3
open Option renaming bind_eq_some_iff→Aj,map_eq_some_iff→Aw,bind_some→Ax,map_some→A0,isNone_iff_eq_none→B8,isSome_iff_exists→Cq,getD_some→Cn,bind_eq_bind→Ph,pure_def→Xg
set_option maxHeartbeats 1000000
set_option linter.unusedVariables false
set_option linter.unusedSimpArgs false
namespace Go.X
open Go Go.RowKit
def Dx (fn:Fns) (η:List PV):List W→Option (List PV)
 |[]=>some η
 |x::r=>(x.ev fn η).bind fun η'=>Dx fn η' r
theorem Ft (fn:Fns):∀(xs ys:List W) (η:List PV),Dx fn η (xs++ys)=(Dx fn η xs).bind fun η'=>Dx fn η' ys
 |[],ys,η=>by simp [Dx]
 |x::xs,ys,η=>by
  simp only [Bt,Dx,Option.bind_assoc]
  congr 1;funext η';exact Ft fn xs ys η'
theorem lg (fn:Fns) (N:Nat) (k:T):∀(ws:List W) (η:List PV),(Cm2 ws k).ev fn N η=(Dx fn η ws).bind fun η'=>k.ev fn N η'
 |[],η=>by simp [Cm2,Dx]
 |x::ws,η=>by
  have:=lg fn N k ws
  simp only [Cm2,List.foldr_cons] at this ⊢
  simp only [T.ev,Dx,Option.bind_assoc]
  congr 1;funext η';exact this η'
theorem W.ev_pre {fn:Fns} {η η':List PV}:∀{x:W},x.ev fn η=some η'→∃ζ,η'=η++ζ:=by
 have res:∀{flat:Bool} {m:Nat} {r:Option (List PV)},results flat m η r=some η'→∃ζ,η'=η++ζ:=by
  intro flat m r h
  simp only [results,Aj] at h
  obtain ⟨vs,_,h⟩:=h
  split at h
  ·injection h with h;exact ⟨vs,h.symm⟩
  ·cases h
 have gd:∀{m:Nat} {g:Option E} {r:Option (List PV)},E1 η m g r=some η'→(r=some η'→∃ζ,η'=η++ζ)→∃ζ,η'=η++ζ:=by
  intro m g r h hr
  unfold E1 at h
  split at h
  ·exact hr h
  ·simp only [Aj] at h
   obtain ⟨v,_,h⟩:=h
   split at h
   ·exact hr h
   ·injection h with h;exact ⟨_,h.symm⟩
   ·cases h
 intro x h
 cases x with
 |chk x=>
  simp only [W.ev,Aw] at h
  obtain ⟨_,_,rfl⟩:=h
  exact ⟨[],by simp⟩
 |call g flat f ar m=>
  simp only [W.ev] at h
  refine gd h fun h=> ?_
  simp only [Aj] at h
  obtain ⟨vs,_,h⟩:=h
  exact res h
 |clo g flat c ar m=>
  simp only [W.ev] at h
  refine gd h fun h=> ?_
  simp only [Aj] at h
  obtain ⟨q,_,vs,_,h⟩:=h
  split at h
  ·exact res h
  ·cases h
 |mcall f ar=>
  simp only [W.ev,Aj] at h
  obtain ⟨vs,_,h⟩:=h
  exact res h
theorem H4 {fn:Fns}:∀{ws:List W} {η η':List PV},Dx fn η ws=some η'→∃ζ,η'=η++ζ
 |[],η,η',h=>by simp only [Dx,Option.some.injEq] at h;exact ⟨[],by simp [h]⟩
 |x::r,η,η',h=>by
  simp only [Dx,Aj] at h
  obtain ⟨η1,h1,h2⟩:=h
  obtain ⟨ζ,rfl⟩:=W.ev_pre h1
  obtain ⟨ζ',rfl⟩:=H4 h2
  exact ⟨ζ++ζ',by simp⟩
theorem Bc1 {fn:Fns} {η:List PV}:∀{ws:List W} {η1 η2:List PV},Dx fn η1 ws=some η2→(∃ζ,η=η2++ζ)→∀x,W.chk x∈ws→∃p,x.ev η=some p
 |[],η1,η2,h,hη,x,hx=>by simp at hx
 |y::r,η1,η2,h,hη,x,hx=>by
  simp only [Dx,Aj] at h
  obtain ⟨η3,h1,h2⟩:=h
  rcases Ah.1 hx with rfl|hx
  ·simp only [W.ev,Aw] at h1
   obtain ⟨p,hp,rfl⟩:=h1
   obtain ⟨ζ1,rfl⟩:=H4 h2
   obtain ⟨ζ2,rfl⟩:=hη
   exact ⟨p,by rw [Ar];exact E.ev_mono _ _ _ _ hp⟩
  ·exact Bc1 h2 hη x hx
def Db (P:Program) (o:Oper) (a:Act) (w:World) (R:Value→World→Prop):Prop:=
 (∃v w',(execOp a.eval o).run P w= .ok (.value v) w'∧R v w')∨(∃w',(execOp a.eval o).run P w= .ok .skip w'∧R undef w')∨
 (∃f args w',(execOp a.eval o).run P w= .ok (.enter f args) w'∧Calls P f args w' fun e w''=>∃v,e= .returned v∧R v w'')
theorem Db.mono {P:Program} {o:Oper} {a:Act} {w:World} {R R':Value→World→Prop} (h:Db P o a w R) (hr:∀v w',R v w'→R' v w'):Db P o a w R':=by
 rcases h with ⟨v,w',h1,h2⟩|⟨w',h1,h2⟩|⟨f,args,w',h1,h2⟩
 ·exact .inl ⟨v,w',h1,hr _ _ h2⟩
 ·exact .inr (.inl ⟨w',h1,hr _ _ h2⟩)
 ·exact .inr (.inr ⟨f,args,w',h1,h2.mono fun e w'' ⟨v,he,hv⟩=>⟨v,he,hr _ _ hv⟩⟩)
theorem Db.wp {P:Program} {o:Oper} {a:Act} {w:World} {R:Value→World→Prop} {next:Act→World→Prop} {Q:Exit→Act→World→Prop} (h:Db P o a w R)
  (hn:∀v w',R v w'→next (a.put o.dst v) w'):o.wp P a w next Q:=by
 unfold Oper.wp
 rcases h with ⟨v,w',h1,h2⟩|⟨w',h1,h2⟩|⟨f,args,w',h1,h2⟩
 ·rw [h1];exact hn _ _ h2
 ·rw [h1];exact hn _ _ h2
 ·rw [h1,Oper.upon_enter]
  refine h2.mono fun e w'' ⟨v,he,hv⟩=> ?_
  subst he
  exact hn _ _ hv
def Fs (w0:Fr) (Oe:Nat→Option Nat) (η:List PV) (σ:St) (tm:Array Value) (ε:Eff) (sv:SV) (v:Value) (w':World):Prop:=
 ∃β' hv' O',Rel w0 Oe η (σ.eff ε) tm w' β' hv' O'∧Ap ⟨η,Bg w' O',β',hv',ε.m⟩ sv v
section
variable {P:Program} {w0:Fr} {Oe:Nat→Option Nat} {η:List PV} {σ:St} {a:Act} {w:World} {β:Nat→Nat} {hv:Nat→Value} {O:Nat→Option Nat}
theorem Fs.keep (h:Rel w0 Oe η σ a.tmps w β hv O) {sv:SV} {v:Value} (hr:Ap ⟨η,Bg w O,β,hv,σ.m⟩ sv v):Fs w0 Oe η σ a.tmps (Fb σ) sv v w:=⟨β,hv,O,h,hr⟩
theorem Db.value {o:Oper} {R:Value→World→Prop} {v:Value} {w':World} (h:(execOp a.eval o).run P w= .ok (.value v) w') (hr:R v w'):Db P o a w R:= .inl ⟨v,w',h,hr⟩
theorem Rep.int {M:Vw} {k:IntKind} {n:Int} {v:Value} (h:Rep M (.i k n) v):v= .int k n:=by cases h;rfl
theorem Rep.bool {M:Vw} {b:Bool} {v:Value} (h:Rep M (.b b) v):v= .bool b:=by cases h;rfl
theorem Rep.str {M:Vw} {x:List UInt8} {v:Value} (h:Rep M (.s x) v):∃y:ByteArray,v= .string y∧y.data.toList=x:=by cases h with|s _ y h=>exact ⟨y,rfl,h⟩
end
end Go.X
/- Operators, conversions, comparisons of structs. -/
namespace Go.X
open Go Go.RowKit
section
variable {P:Program} {M:Vw} (w:World)
def PV.val:PV→Value
 | .i k n=> .int k n
 | .b x=> .bool x
 |_=>undef
theorem iw (op:BinOp) (t:TypeId) (xo yo:Operand) (k k':IntKind) (m n:Int):(eqGuard op t xo yo (.int k m) (.int k' n)).run P w= .ok () w:=by cases op<;>simp [eqGuard]
theorem iq (op:BinOp) (t:TypeId) (xo yo:Operand) (x y:ByteArray):(eqGuard op t xo yo (.string x) (.string y)).run P w= .ok () w:=by cases op<;>simp [eqGuard]
theorem Cc4 {op:BinOp} {k:IntKind} {m n:Int} {r:PV} (t:TypeId) (h:Fc op k m n=some r):(binOp op t (.int k m) (.int k n)).run P w= .ok r.val w∧Rep M r r.val:=by
 unfold Fc at h
 split at h
 case h_4=>
  split at h
  ·cases h
  ·rename_i hz
   simp only [Option.some.injEq] at h;subst h;exact ⟨by simp [binOp,Op.intDiv,hz,PV.val], .i _ _⟩
 case h_5=>
  split at h
  ·cases h
  ·rename_i hz
   simp only [Option.some.injEq] at h;subst h;exact ⟨by simp [binOp,Op.intDiv,hz,PV.val], .i _ _⟩
 all_goals first
  |(cases h;done)
  |(simp only [Option.some.injEq] at h;subst h;exact ⟨by simp [binOp,Op.intArith,Op.intBits,Op.intCmp,PV.val],by constructor⟩)
theorem Hy1 {op:BinOp} {p q r:PV} {x y:Value} (t:TypeId) (xo yo:Operand) (h:X.bin op p q=some r) (hx:Rep M p x) (hy:Rep M q y):
  ∃v,(do eqGuard op t xo yo x y;binOp op t x y:Sem Value).run P w= .ok v w∧Rep M r v:=by
 unfold X.bin at h
 split at h
 ·rename_i k m k' n
  rw [hx.int,hy.int,Sem.run_bind,iw,Result.andThen_ok]
  split at h
  ·unfold Ng at h
   split at h
   ·cases h
   ·rename_i hn
    simp only [Option.some.injEq] at h;subst h
    exact ⟨.int k _,by simp [binOp,Op.shift,hn], .i _ _⟩
  ·unfold Ng at h
   split at h
   ·cases h
   ·rename_i hn
    simp only [Option.some.injEq] at h;subst h
    exact ⟨.int k _,by simp [binOp,Op.shift,hn], .i _ _⟩
  ·split at h
   ·rename_i hk
    subst hk
    exact ⟨_,Cc4 w t h⟩
   ·cases h
 ·rename_i m n
  obtain ⟨x',rfl,rfl⟩:=hx.str
  obtain ⟨y',rfl,rfl⟩:=hy.str
  rw [Sem.run_bind,iq,Result.andThen_ok]
  unfold Uz at h
  split at h
  case h_1=>
   split at h
   ·cases h
   ·rename_i hz
    simp only [Option.some.injEq] at h;subst h
    have hz':¬(((x'.size+y'.size:Nat):Int)>IntKind.i64.max):=hz
    refine ⟨.string (x'++y'),?_, .s _ _ (by simp)⟩
    simp only [binOp,Op.stringOp]
    rw [if_neg hz']
    rfl
  all_goals first
   |(cases h;done)
   |(simp only [Option.some.injEq] at h;subst h
     refine ⟨.bool _,?_, .b _⟩
     simp only [binOp,Op.stringOp,ByteArray.toList_eq]
     rfl)
 ·cases h
theorem Hg0 {op:UnOp} {p r:PV} {x:Value} (h:X.un op p=some r) (hx:Rep M p x):∃v,(Op.unary op x).run P w= .ok v w∧Rep M r v:=by
 unfold X.un at h
 split at h
 ·simp only [Option.some.injEq] at h;subst h
  rw [hx.bool]
  exact ⟨_,by simp [Op.unary], .b _⟩
 ·simp only [Option.some.injEq] at h;subst h
  rw [hx.int]
  exact ⟨_,by simp [Op.unary,Op.intArith], .i _ _⟩
 ·cases h
set_option linter.constructorNameAsVariable false
theorem Fd1 {t:TypeId} {s:Sc} {p q:PV} {r:Bool} {x y:Value} (d:Nat)
  (ht:match s with| .b=>P.underlying t=some .bool| .i k=>P.underlying t=some (.int k)| .s=>P.underlying t=some .string)
  (h:Ch8 s p q=some r) (hx:Rep M p x) (hy:Rep M q y):(Op.equalIn (d+1) t x y).run P w= .ok r w:=by
 unfold Ch8 at h
 split at h
 ·simp only [Option.some.injEq] at h;subst h
  rw [hx.bool,hy.bool];exact run_equalIn_bool' w d t _ _ ht
 ·split at h
  ·split at h
   ·simp only [Option.some.injEq] at h;subst h
    rw [hx.int,hy.int]
    subst_vars
    exact run_equalIn_int w d t _ _ _ _ ht
   ·cases h
  ·cases h
 ·simp only [Option.some.injEq] at h;subst h
  obtain ⟨x',rfl,rfl⟩:=hx.str
  obtain ⟨y',rfl,rfl⟩:=hy.str
  rw [run_equalIn_string w d t x' y' ht,ByteArray.toList_eq,ByteArray.toList_eq]
 ·cases h
theorem I1:∀{ts:List Sc} {cs ds:List PV} {r:Bool},F6 ts cs ds=some r→cs.length=ts.length∧ds.length=ts.length
 |[],[],[],_,_=>⟨rfl,rfl⟩
 |[],_::_,_,_,h=>by simp [F6] at h
 |[],[],_::_,_,h=>by simp [F6] at h
 |_::_,[],_,_,h=>by simp [F6] at h
 |_::_,_::_,[],_,h=>by simp [F6] at h
 |t::ts,c::cs,d::ds,r,h=>by
  simp only [F6] at h
  split at h
  ·rename_i h1 h2
   have:=I1 h2
   simp [this.1,this.2]
  ·cases h
theorem O9:∀{ts us:List Sc} {cs ds:List PV} {r:Bool},F6 (ts++us) cs ds=some r→
  ∃r1 r2,F6 ts (cs.take ts.length) (ds.take ts.length)=some r1∧F6 us (cs.drop ts.length) (ds.drop ts.length)=some r2∧r=(r1 && r2)
 |[],us,cs,ds,r,h=>⟨true,r,by simp [F6],by simpa using h,by simp⟩
 |t::ts,us,cs,ds,r,h=>by
  cases cs with
  |nil=>simp [F6] at h
  |cons c cs=>
   cases ds with
   |nil=>simp [F6] at h
   |cons d ds=>
    simp only [Bt,F6] at h
    split at h
    ·rename_i a b h1 h2
     simp only [Option.some.injEq] at h;subst h
     obtain ⟨r1,r2,g1,g2,rfl⟩:=O9 h2
     exact ⟨a && r1,r2,by simp [F6,h1,g1],by simpa using g2,by rw [Bool.and_assoc]⟩
    ·cases h
theorem Vp {t:TypeId} {xs:Array Value} {off n:Nat} (ha:J7 P t=true) (hn:Ag P t=n) (hi:(P.info? t).isSome):(part t xs off).run P w= .ok (.agg (xs.extract off (off+n))) w:=by
 unfold J7 at ha
 obtain ⟨i,hi⟩:=Cq.1 hi
 have hs:i.size=n:=by simpa [Ag,hi] using hn
 split at ha
 ·rename_i h;simp [part,isAgg,run_underlying h,sizeOf,typeInfo,hi,hs]
 ·rename_i h;simp [part,isAgg,run_underlying h,sizeOf,typeInfo,hi,hs]
 ·cases ha
theorem Vn {t:TypeId} {xs:Array Value} {off:Nat} {v:Value} (ha:J7 P t=false) (hu:(P.underlying t).isSome) (hv:xs[off]? =some v):(part t xs off).run P w= .ok v w:=by
 obtain ⟨d,hd⟩:=Cq.1 hu
 unfold J7 at ha
 cases d<;>simp_all [part,isAgg,run_underlying hd]
theorem Nt {t:TypeId} {d:TypeDesc} (h:P.underlying t=some d):(P.info? t).isSome:=by
 unfold Program.underlying at h
 cases hh:P.info? t with
 |none=>simp [hh] at h
 |some i=>rfl
def dj (M:Vw) (cs:List PV) (vs:List Value):Prop:=∀(j:Nat) (c:PV) (v:Value),cs[j]? =some c→vs[j]? =some v→Rep M c v
theorem Rr (d:Nat) (ih:∀t ts,d5 P d t=some ts→∀(cs ds:List PV) (X Y:List Value) (r:Bool),X.length=ts.length→Y.length=ts.length→dj M cs X→dj M ds Y→F6 ts cs ds=some r→
   ∀(x y:Value),(if J7 P t then x= .agg X.toArray else X=[x])→(if J7 P t then y= .agg Y.toArray else Y=[y])→∀D,d<D→(Op.equalIn D t x y).run P w= .ok r w)
  (xs ys:Array Value) (cs ds:List PV) (hcx:dj M cs xs.toList) (hcy:dj M ds ys.toList):∀(fs:List Field) (off:Nat) (ts:List Sc) (r:Bool),M1 P (d5 P d) fs off=some ts→
   off+ts.length≤xs.size→off+ts.length≤ys.size→F6 ts ((cs.drop off).take ts.length) ((ds.drop off).take ts.length)=some r→∀D,d<D→(Op.eqFields D xs ys fs).run P w= .ok r w
 |[],off,ts,r,h,_,_,he,D,hD=>by
  simp only [M1,Option.some.injEq] at h;subst h
  simp only [Bc,List.take_zero,F6,Option.some.injEq] at he;subst he
  simp [Op.eqFields]
 |f::fs,off,ts,r,h,hx,hy,he,D,hD=>by
  simp only [M1] at h
  split at h
  ·cases h
  ·rename_i hnm
   simp only [Am,beq_iff_eq,bne_iff_ne,ne_eq,not_or,Decidable.not_not] at hnm
   split at h
   ·rename_i us hus
    split at h
    ·rename_i hsz
     obtain ⟨vs,hvs,rfl⟩:=Aw.1 h
     simp only [Az] at hx hy he
     obtain ⟨r1,r2,e1,e2,rfl⟩:=O9 he
     rw [Av9,Md (by omega)] at e1
     rw [Av9,Md (by omega)] at e1
     have hdrop:∀(l:List PV),List.drop us.length (List.take (us.length+vs.length) (List.drop off l))=List.take vs.length (List.drop (off+us.length) l):=by
      intro l;rw [List.drop_take,C5];congr 1;omega
     rw [hdrop,hdrop] at e2
     have hrest:=Rr d ih xs ys cs ds hcx hcy fs (off+us.length) vs r2 hvs (by omega) (by omega) e2 D hD
     have hu:∃dd,P.underlying f.type=some dd:=by
      cases d with
      |zero=>simp [d5] at hus
      |succ d=>unfold d5 at hus;split at hus<;>first|exact ⟨_,by assumption⟩|cases hus
     obtain ⟨dd,hdd⟩:=hu
     have cx:dj M ((cs.drop off).take us.length) ((xs.toList.drop off).take us.length):=by
      intro j c v hc hv
      rw [Bb] at hc hv
      split at hc
      ·rename_i hj;rw [if_pos hj] at hv
       rw [A4] at hc hv
       exact hcx _ c v hc hv
      ·cases hc
     have cy:dj M ((ds.drop off).take us.length) ((ys.toList.drop off).take us.length):=by
      intro j c v hc hv
      rw [Bb] at hc hv
      split at hc
      ·rename_i hj;rw [if_pos hj] at hv
       rw [A4] at hc hv
       exact hcy _ c v hc hv
      ·cases hc
     have lx:((xs.toList.drop off).take us.length).length=us.length:=by simp;omega
     have ly:((ys.toList.drop off).take us.length).length=us.length:=by simp;omega
     have pick:∀(zs:Array Value),off+us.length≤zs.size→∃v,(part f.type zs f.offset).run P w= .ok v w∧(if J7 P f.type then v= .agg ((zs.toList.drop off).take us.length).toArray else (zs.toList.drop off).take us.length=[v]):=by
      intro zs hz
      rw [hnm.2]
      by_cases ha:J7 P f.type=true
      ·refine ⟨_,Vp w ha hsz (Nt hdd),?_⟩
       rw [if_pos ha]
       congr 1
       apply Array.ext'
       simp [Ml,G7]
      ·have ha':J7 P f.type=false:=by simpa using ha
       have hone:us.length=1:=by
        cases d with
        |zero=>simp [d5] at hus
        |succ d=>
         unfold d5 at hus
         split at hus
         ·simp at hus;subst hus;rfl
         ·simp at hus;subst hus;rfl
         ·simp at hus;subst hus;rfl
         ·rename_i hst;simp [J7,hst] at ha'
         ·cases hus
       have hlt:off<zs.toList.length:=by simp;omega
       refine ⟨zs.toList[off],Vn w ha' (by rw [hdd];rfl) (by rw [←Ad];exact Ay hlt),?_⟩
       rw [if_neg ha,hone,B9 hlt]
       rfl
     obtain ⟨vx,px,qx⟩:=pick xs (by omega)
     obtain ⟨vy,py,qy⟩:=pick ys (by omega)
     have heq:=ih f.type us hus _ _ _ _ r1 lx ly cx cy e1 vx vy qx qy D hD
     simp only [Op.eqFields,Sem.run_ite,Sem.run_bind,px,py,heq,Result.andThen_ok]
     rw [if_pos hnm.1]
     cases r1 with
     |false=>simp
     |true=>simpa using hrest
    ·cases h
   ·cases h
theorem Uv:∀(d:Nat) (t:TypeId) (ts:List Sc),d5 P d t=some ts→∀(cs ds:List PV) (X Y:List Value) (r:Bool),X.length=ts.length→Y.length=ts.length→dj M cs X→dj M ds Y→F6 ts cs ds=some r→
   ∀(x y:Value),(if J7 P t then x= .agg X.toArray else X=[x])→(if J7 P t then y= .agg Y.toArray else Y=[y])→∀D,d<D→(Op.equalIn D t x y).run P w= .ok r w
 |0,t,ts,h,_,_,_,_,_,_,_,_,_,_,_,_,_,_,_,_=>by simp [d5] at h
 |d+1,t,ts,h,cs,ds,X,Y,r,hX,hY,hcx,hcy,he,x,y,hx,hy,D,hD=>by
  obtain ⟨D,rfl⟩:∃m,D=m+1:=⟨D - 1,by omega⟩
  have one:∀(s:Sc),ts=[s]→J7 P t=false→(match s with| .b=>P.underlying t=some .bool| .i k=>P.underlying t=some (.int k)| .s=>P.underlying t=some .string)→
    (Op.equalIn (D+1) t x y).run P w= .ok r w:=by
   intro s hs ha ht
   subst hs
   rw [ha] at hx hy
   simp only [Ab,if_false] at hx hy
   subst hx;subst hy
   obtain ⟨l1,l2⟩:=I1 he
   match cs,ds,l1,l2 with
   |[c],[e],_,_=>
    simp only [F6] at he
    split at he
    ·rename_i a b h1 h2
     simp only [Option.some.injEq] at h2 he
     subst h2;subst he
     rw [J6]
     exact Fd1 w D ht h1 (hcx 0 c x rfl rfl) (hcy 0 e y rfl rfl)
    ·cases he
  unfold d5 at h
  split at h
  ·rename_i hu;simp only [Option.some.injEq] at h;exact one .b h.symm (by simp [J7,hu]) hu
  ·rename_i k hu;simp only [Option.some.injEq] at h;exact one (.i k) h.symm (by simp [J7,hu]) hu
  ·rename_i hu;simp only [Option.some.injEq] at h;exact one .s h.symm (by simp [J7,hu]) hu
  ·rename_i fs hu
   split at h
   ·cases h
   ·rename_i hs
    have ha:J7 P t=true:=by simp [J7,hu]
    rw [ha] at hx hy
    simp only [if_true] at hx hy
    subst hx;subst hy
    have hf:P.fieldsOf t=fs:=by simp [Program.fieldsOf,hu]
    rw [run_equalIn_struct w D t _ _ (by rw [hf];exact hu) (by simpa using hs),hf]
    obtain ⟨l1,l2⟩:=I1 he
    refine Rr w d (Uv d) X.toArray Y.toArray cs ds (by simpa using hcx) (by simpa using hcy) fs.toList 0 ts r h (by simp [hX]) (by simp [hY]) ?_ D (by omega)
    simp only [D3]
    rw [C3 (by omega),C3 (by omega)]
    exact he
  ·cases h
theorem Hq8 {op:BinOp} {neg ag:Bool} {ts:List Sc} {p q r:PV} {x y:Value} {t:TypeId} (xo yo:Operand) (hop:op=if neg then .neq else .eql) (ha:J7 P t=ag) (ht:d5 P 20 t=some ts) (hsz:True)
  (hg:P.eqGuardType P.depth t=false) (hb:ag=false→P.underlying t=some .bool) (h:Kv neg ag ts p q=some r) (hx:Rep M p x) (hy:Rep M q y):
  ∃v,(do eqGuard op t xo yo x y;binOp op t x y:Sem Value).run P w= .ok v w∧Rep M r v:=by
 subst hop
 have agg:∀(X Y:Array Value) (r:Bool),(Op.equalIn 10000 t (.agg X) (.agg Y)).run P w= .ok r w→
   (do eqGuard (if neg then BinOp.neq else .eql) t xo yo (.agg X) (.agg Y);binOp (if neg then BinOp.neq else .eql) t (.agg X) (.agg Y):Sem Value).run P w= .ok (.bool (if neg then !r else r)) w:=by
  intro X Y r hr
  rw [Sem.run_bind,run_eqGuard_agg w _ t xo yo X Y hg,Result.andThen_ok]
  cases neg with
  |true=>simp only [if_true];rw [run_neq_struct,hr];rfl
  |false=>simp only [Ab,if_false];rw [run_eql_struct,hr];rfl
 unfold Kv at h
 split at h
 ·rename_i cs ds
  obtain ⟨r',hr',rfl⟩:=Aw.1 h
  cases hx with
  |a _ X hlx hx1 hx=>
   cases hy with
   |a _ Y hly hy1 hy=>
    obtain ⟨l1,l2⟩:=I1 hr'
    refine ⟨_,agg X Y r' ?_, .b _⟩
    refine Uv w 20 t ts ht cs ds X.toList Y.toList r' (by simp [hlx,l1]) (by simp [hly,l2]) (fun j c v hc hv=>hx j c v hc (by rw [←Ad];exact hv)) (fun j c v hc hv=>hy j c v hc (by rw [←Ad];exact hv)) hr' _ _ ?_ ?_ 10000 (by omega)
    ·rw [if_pos ha]
    ·rw [if_pos ha]
 ·rename_i p q
  split at h
  ·rename_i hs
   simp only [Aq] at hs
   obtain ⟨r',hr',rfl⟩:=Aw.1 h
   have hu:=hb rfl
   have hts:ts=[.b]:=by simp [d5,hu] at ht;exact ht.symm
   subst hts
   simp only [F6] at hr'
   split at hr'
   ·rename_i a b h1 h2
    simp only [Option.some.injEq] at h2 hr'
    subst h2;subst hr'
    rw [J6]
    unfold Ch8 at h1
    split at h1
    ·simp only [Option.some.injEq] at h1;subst h1
     rw [hx.bool,hy.bool]
     cases neg with
     |true=>
      simp only [if_true]
      exact ⟨_,by simp [eqGuard,binOp,Op.equal,Op.maxDepth,run_equalIn_bool' w _ t _ _ hu], .b _⟩
     |false=>
      simp only [Ab,if_false]
      exact ⟨_,by simp [eqGuard,binOp,Op.equal,Op.maxDepth,run_equalIn_bool' w _ t _ _ hu], .b _⟩
    ·rename_i hh;cases hh
    ·rename_i hh;cases hh
    ·cases h1
   ·cases hr'
  ·cases h
 ·cases h
end
end Go.X
/- Values into memory and out of it. -/
namespace Go.X
open Go Go.RowKit
theorem add_lit (g off j:Nat):(⟨g,off,none⟩:Addr).add j=⟨g,off+j,none⟩:=by unfold Go.Addr.add;split<;>simp_all
theorem Vk {α:Type}:∀(l:List α) (a y:α),(l++[a]).set l.length y=l++[y]
 |[],a,y=>rfl
 |x::l,a,y=>by simp only [Bt,As,List.set_cons_succ,Vk l a y]
theorem U4:∀{cs:List SV} {k:Nat} {r:Option E} {x:E},L6 cs k r=some x→(∀y,r=some y→y=x)∧∀j,j<cs.length→cs[j]? =some (.e (.proj (k+j) x))
 |[],k,r,x,h=>by
  simp only [L6] at h;subst h
  exact ⟨fun y hy=>by injection hy with hy;exact hy.symm,fun j hj=>by simp at hj⟩
 |c::cs,k,r,x,h=>by
  cases c with
  |e z=>
   cases z with
   |proj j y=>
    cases r with
    |none=>
     simp only [L6] at h
     split at h
     ·rename_i hjk
      subst hjk
      obtain ⟨g1,g2⟩:=U4 h
      refine ⟨fun y hy=>(by cases hy),fun i hi=> ?_⟩
      have hxy:=g1 y rfl
      subst hxy
      cases i with
      |zero=>rfl
      |succ i=>
       have:=g2 i (by simpa using hi)
       rw [C7,this]
       simp only [Option.some.injEq,SV.e.injEq,E.proj.injEq,and_true];omega
     ·cases h
    |some z=>
     simp only [L6] at h
     split at h
     ·rename_i hjk
      simp only [Aq,decide_eq_true_eq] at hjk
      obtain ⟨hjk,hs⟩:=hjk
      subst hjk
      have hs:=E.same_eq _ _ hs
      subst hs
      obtain ⟨g1,g2⟩:=U4 h
      have hxy:=g1 y rfl
      subst hxy
      refine ⟨fun y hy=>(by injection hy with hy;exact hy.symm),fun i hi=> ?_⟩
      cases i with
      |zero=>rfl
      |succ i=>
       have:=g2 i (by simpa using hi)
       rw [C7,this]
       simp only [Option.some.injEq,SV.e.injEq,E.proj.injEq,and_true];omega
     ·cases h
   |_=>simp [L6] at h
  |_=>simp [L6] at h
theorem P0 {C:Cx} {cs:List SV} {vs:Array Value} (h:A7 C cs vs.toList) (h1:∀u,u∈vs.toList→One u):Ap C (gq cs) (.agg vs):=by
 unfold gq
 split
 ·rename_i x hx
  obtain ⟨_,g⟩:=U4 hx
  have hlen:=h.length
  cases hcs:cs with
  |nil=>subst hcs;simp [L6] at hx
  |cons c0 r0=>
   have hpos:0<cs.length:=by rw [hcs];simp
   rw [←hcs]
   have each:∀j,j<cs.length→∃p c v,x.ev C.η=some p∧p.cells[j]? =some c∧vs.toList[j]? =some v∧Rep C.M c v:=by
    intro j hj
    obtain ⟨v,hv,hr⟩:=h.get j _ (g j hj)
    simp only [Ap,E.ev,Aj,Ek] at hr
    obtain ⟨c,⟨p,hp,hc⟩,hr⟩:=hr
    exact ⟨p,c,v,hp,hc,hv,hr⟩
   obtain ⟨p,_,_,hp,_⟩:=each 0 hpos
   have each':∀j,j<cs.length→∃c v,p.cells[j]? =some c∧vs.toList[j]? =some v∧Rep C.M c v:=by
    intro j hj
    obtain ⟨p',c,v,h1,h2,h3,h4⟩:=each j hj
    rw [hp] at h1;injection h1 with h1;subst h1
    exact ⟨c,v,h2,h3,h4⟩
   have hle:cs.length≤p.cells.length:=by
    obtain ⟨c,_,hc,_⟩:=each' (cs.length - 1) (by omega)
    have:=(Ak.1 hc).1
    omega
   simp only [Ap,E.ev,hp,Ax,Ek,if_pos hle,D3]
   refine ⟨_,rfl,Rep.agg_mk (by simp [Md hle];simpa using hlen) h1 fun j q u hq hu=> ?_⟩
   rw [Bb] at hq
   split at hq
   ·rename_i hj
    obtain ⟨c,v,k1,k2,k3⟩:=each' j hj
    rw [hq] at k1;rw [hu] at k2
    injection k1 with k1;injection k2 with k2
    subst k1;subst k2;exact k3
   ·cases hq
 ·split
  ·simp only [Ap];exact ⟨vs,rfl,h1,h⟩
  split
  ·rename_i es hes
   obtain ⟨ps,g1,g2,g3⟩:=kw hes h
   simp only [Ap,E.ev,g1,A0]
   exact ⟨_,rfl,Rep.agg_mk g2 h1 g3⟩
  ·simp only [Ap];exact ⟨vs,rfl,h1,h⟩
theorem Dk3 {C:Cx} {x:E} {cs:List PV} {vs:Array Value} (hx:x.ev C.η=some (.a cs)) (hl:vs.size=cs.length) (h:∀(j:Nat) (c:PV) (v:Value),cs[j]? =some c→vs[j]? =some v→Rep C.M c v):
  A7 C (Yz cs.length x) vs.toList:=by
 refine A7.mk (by simp [Yz,hl]) fun j y v hy hv=> ?_
 simp only [Yz,By,Aw] at hy
 obtain ⟨k,hk,rfl⟩:=hy
 rw [Cj (by have:=(Ak.1 hv).1;simp at this;omega)] at hk
 injection hk with hk;subst hk
 have hj:j<cs.length:=by have:=(Ak.1 hv).1;simp at this;omega
 simp only [Ap,E.ev,hx,Ax,PV.cells]
 exact ⟨cs[j],Ay hj,h j _ v (Ay hj) (by rw [←Ad];exact hv)⟩
section
variable {P:Program} {C:Cx}
theorem Y9 {v:Value} (h:One v):v.cells= #[v]:=by cases v<;>first|rfl|simp [One,Value.oneCell'] at h
theorem Jy {m:List (Nat×Blk)} {t:TypeId} {sv:SV} {v:Value} {ws:List W} {vs:List SV} (hm:C.m=m) (h:cellsOf P m t sv=some (ws,vs)) (hws:∀x,W.chk x∈ws→∃p,x.ev C.η=some p)
  (harr:∀s e sz x ro,mget m s=some (.arr e sz x ro)→One (C.hv s)) (hr:Ap C sv v):
  v.cells.size=Ag P t∧vs.length=Ag P t∧(∀u,u∈v.cells.toList→One u)∧A7 C vs v.cells.toList:=by
 have single:∀{sv':SV},One v→Ag P t=1→Ap C sv' v→v.cells.size=Ag P t∧[sv'].length=Ag P t∧(∀u,u∈v.cells.toList→One u)∧A7 C [sv'] v.cells.toList:=by
  intro sv' h1 ht hr
  rw [Y9 h1,ht]
  refine ⟨rfl,rfl,fun u hu=>by simp at hu;subst hu;exact h1,?_⟩
  simp only [A7]
  exact ⟨v,[],rfl,hr,rfl⟩
 unfold cellsOf at h
 split at h
 ·split at h
  ·rename_i es
   split at h
   ·rename_i hl
    simp only [Option.some.injEq,Prod.mk.injEq] at h
    obtain ⟨rfl,rfl⟩:=h
    simp only [Ap,E.ev,Aw] at hr
    obtain ⟨p,⟨ps,hps,rfl⟩,hr⟩:=hr
    obtain ⟨l1,l2⟩:=Oc hps
    cases hr with
    |a _ us hls h1 hh=>
     refine ⟨by show us.size=_;rw [hls,l1,hl],by simp [hl],h1,A7.mk (by show (es.map SV.e).length=us.toList.length;simp [hls,l1]) fun j y u hy hu=> ?_⟩
     simp only [By,Aw] at hy
     obtain ⟨x,hx,rfl⟩:=hy
     obtain ⟨p,hp,hev⟩:=l2 j x hx
     simp only [Ap]
     exact ⟨p,hev,hh j p u hp (by rw [←Ad];exact hu)⟩
   ·cases h
  ·rename_i x _
   simp only [Option.some.injEq,Prod.mk.injEq] at h
   obtain ⟨rfl,rfl⟩:=h
   obtain ⟨q,hq⟩:=hws _ (B4.2 rfl)
   simp only [Ap] at hr
   obtain ⟨p,hp,hr⟩:=hr
   simp only [E.ev,hp,Ax] at hq
   split at hq
   ·rename_i cs
    split at hq
    ·rename_i hl
     cases hr with
     |a _ us hls h1 hh=>
      refine ⟨by show us.size=_;rw [hls,hl],by simp [Yz],h1,?_⟩
      rw [←hl]
      exact Dk3 hp hls hh
    ·cases hq
   ·cases hq
  ·rename_i xs
   split at h
   ·rename_i hl
    simp only [Option.some.injEq,Prod.mk.injEq] at h
    obtain ⟨rfl,rfl⟩:=h
    simp only [Ap] at hr
    obtain ⟨us,rfl,h1,h2⟩:=hr
    have:=h2.length
    exact ⟨by show us.size=_;rw [←hl,this];simp,hl,h1,h2⟩
   ·cases h
  ·cases h
 ·split at h
  ·rename_i ht
   have scal:∀(x:E),W.chk (.scal x)∈ws→(∃p,x.ev C.η=some p∧Rep C.M p v)→One v:=by
    intro x hx hr
    obtain ⟨q,hq⟩:=hws _ hx
    obtain ⟨p,hp,hr⟩:=hr
    simp only [E.ev,hp,Ax] at hq
    split at hq
    ·rename_i hs;exact hr.one hs
    ·cases hq
   split at h
   ·rename_i x
    simp only [Option.some.injEq,Prod.mk.injEq] at h
    obtain ⟨rfl,rfl⟩:=h
    exact single (scal x (B4.2 rfl) (by simpa only [Ap] using hr)) ht hr
   ·rename_i x
    simp only [Option.some.injEq,Prod.mk.injEq] at h
    obtain ⟨rfl,rfl⟩:=h
    simp only [Ap] at hr
    obtain ⟨xs,a,h1,h2,h3⟩:=hr
    exact single (scal x (B4.2 rfl) ⟨_,h1,h3⟩) ht (by simp only [Ap];exact ⟨_,h1,h3⟩)
   ·rename_i s
    split at h
    ·rename_i hb
     simp only [Option.some.injEq,Prod.mk.injEq] at h
     obtain ⟨rfl,rfl⟩:=h
     refine single ?_ ht hr
     simp only [Ap] at hr
     subst hr
     exact harr s _ _ _ _ hb
    ·cases h
   ·simp only [Option.some.injEq,Prod.mk.injEq] at h
    obtain ⟨rfl,rfl⟩:=h
    refine single ?_ ht hr
    simp only [Ap] at hr;subst hr;rfl
   ·simp only [Option.some.injEq,Prod.mk.injEq] at h
    obtain ⟨rfl,rfl⟩:=h
    refine single ?_ ht hr
    simp only [Ap] at hr;subst hr;rfl
   ·simp only [Option.some.injEq,Prod.mk.injEq] at h
    obtain ⟨rfl,rfl⟩:=h
    refine single ?_ ht hr
    simp only [Ap] at hr
    obtain ⟨p,_,ad,el,rfl,_⟩:=hr;rfl
   ·simp only [Option.some.injEq,Prod.mk.injEq] at h
    obtain ⟨rfl,rfl⟩:=h
    refine single ?_ ht hr
    simp only [Ap] at hr
    obtain ⟨e,sz,x,ro,xs,k,iv,_,_,_,_,_,rfl⟩:=hr;rfl
   ·simp only [Option.some.injEq,Prod.mk.injEq] at h
    obtain ⟨rfl,rfl⟩:=h
    refine single ?_ ht hr
    simp only [Ap] at hr;subst hr;rfl
   ·simp only [Option.some.injEq,Prod.mk.injEq] at h
    obtain ⟨rfl,rfl⟩:=h
    refine single ?_ ht hr
    simp only [Ap] at hr
    obtain ⟨cv,rfl,_⟩:=hr;rfl
   ·cases h
  ·cases h
theorem F9 {t:TypeId} {cs:List SV} (h:G9 P t=some cs):∃i z,P.info? t=some i∧i.zero=some z∧z.cells.size=i.size∧(∀u,u∈z.cells.toList→One u)∧A7 C cs z.cells.toList:=by
 unfold G9 at h
 split at h
 ·rename_i i hi
  split at h
  ·rename_i z hz
   split at h
   ·cases h
   ·rename_i hc
    simp only [Am,A3,bne_iff_ne,ne_eq,not_or,Dm,Decidable.not_not,Bj] at hc
    simp only [Option.some.injEq] at h;subst h
    refine ⟨i,z,hi,hz,hc.2,fun u hu=>hc.1 u hu,A7.mk (by simp) fun j y u hy hu=> ?_⟩
    simp only [By,Aw] at hy
    obtain ⟨q,hq,rfl⟩:=hy
    rw [List.getElem?_zip_eq_some] at hq
    rw [hu] at hq
    obtain ⟨h1,_⟩:=hq
    injection h1 with h1
    rw [←h1]
    exact N3 _ _ _
  ·cases h
 ·cases h
theorem A7.setCells:∀{vs:List SV} {cs:List SV} {us ys:List Value} {off:Nat},A7 C cs us→A7 C vs ys→off+vs.length≤cs.length→A7 C (E9 cs off vs) (us.take off++ys++us.drop (off+ys.length))
 |[],cs,us,ys,off,h,hv,_=>by
  simp only [A7] at hv;subst hv
  simpa [E9] using h
 |v::vs,cs,us,ys,off,h,hv,hl=>by
  simp only [A7] at hv
  obtain ⟨y,r,rfl,h1,h2⟩:=hv
  have hlen:=h.length
  have ih:=A7.setCells (off:=off+1) (h.set off h1) h2 (by simp at hl ⊢;omega)
  simp only [E9]
  have e:(us.set off y).take (off+1)++r++(us.set off y).drop (off+1+r.length)=us.take off++(y::r)++us.drop (off+(y::r).length):=by
   have hoff:off<us.length:=by simp at hl;omega
   rw [List.take_set,List.take_succ_eq_append_getElem hoff,Et1 (by omega)]
   have:(us.take off++[us[off]]).set off y=us.take off++[y]:=by
    have hl2:(us.take off).length=off:=by rw [Al];omega
    have:=Vk (us.take off) us[off] y
    rw [hl2] at this;exact this
   rw [this]
   simp [Eb,Cl3 1]
  rw [e] at ih
  exact ih
variable (w:World)
theorem Js {t:TypeId} {a:Addr} {us:List Value} (ha:J7 P t=true) (hn:us.length=Ag P t) (h:∀j u,us[j]? =some u→w.cell? (a.add j)=some u):(loadVar t a).run P w= .ok (.agg us.toArray) w:=by
 have hl:=run_loadCells_list (P:=P) w a us h
 unfold J7 at ha
 have hi:∀d,P.underlying t=some d→(sizeOf t).run P w= .ok us.length w:=by
  intro d hd
  obtain ⟨i,hi⟩:=Cq.1 (Nt hd)
  simp [sizeOf,typeInfo,hi,hn,Ag]
 split at ha
 ·rename_i h;simp [loadVar,isAgg,run_underlying h,hi _ h,hl]
 ·rename_i h;simp [loadVar,isAgg,run_underlying h,hi _ h,hl]
 ·cases ha
theorem Mx {t:TypeId} {a:Addr} {v:Value} (ha:J7 P t=false) (hu:(P.underlying t).isSome) (h:w.cell? a=some v):(loadVar t a).run P w= .ok v w:=by
 obtain ⟨d,hd⟩:=Cq.1 hu
 unfold J7 at ha
 cases d<;>simp_all [loadVar,isAgg,run_underlying hd]
end
end Go.X
/- Operations that turn nothing. -/
namespace Go.X
open Go Go.RowKit
section
variable {P:Program} {w0:Fr} {Oe:Nat→Option Nat} {η:List PV} {σ:St} {a:Act} {w:World} {β:Nat→Nat} {hv:Nat→Value} {O:Nat→Option Nat} {G:Option E} {o:Oper} {ws:List W}
def Chk (η:List PV) (ws:List W):Prop:=∀x,W.chk x∈ws→∃p,x.ev η=some p
theorem Chk.g (hc:Chk η ws) (hG:GOk η G) {x:E} (hx:F0 G x∈ws):∃p,x.ev η=some p:=by
 unfold F0 at hx
 obtain ⟨p,hp⟩:=hc _ hx
 cases G with
 |none=>exact ⟨p,hp⟩
 |some g=>
  simp only [E.ev,hG g rfl,Ax] at hp
  exact ⟨p,hp⟩
theorem Chk.g1 {x:E} (hc:Chk η [F0 G x]) (hG:GOk η G):∃p,x.ev η=some p:=hc.g hG (B4.2 rfl)
theorem GOk.conj (hG:GOk η G) {x:E} {b:Bool} (hx:x.ev η=some (.b b)) (hb:b=true):GOk η (some (Ak3 G x)):=by
 subst hb
 intro g hg
 injection hg with hg;subst hg
 cases G with
 |none=>exact hx
 |some g=>simp only [Ak3,E.ev,hG g rfl,Ax,hx]
theorem Ar2 {x:Operand} {sv:SV} (ho:o.op= .move x∨o.op= .assign x) (h:Rel w0 Oe η σ a.tmps w β hv O) (hG:GOk η G) (hx:opd P σ G o.type x=some sv):
  Db P o a w (Fs w0 Oe η σ a.tmps (Fb σ) sv):=by
 refine Db.value (v:=a.eval x) (w':=w) ?_ (.keep h (D8 (ds:=a.defers) hG rfl hx h.tmps))
 rcases ho with ho|ho<;>simp [execOp,ho]
theorem Fv5 {c x y:Operand} {ec ea eb:E} (ho:o.op= .pick c x y) (h:Rel w0 Oe η σ a.tmps w β hv O) (hG:GOk η G) (hc:Fv P σ G 0 c=some ec)
  (ha:Fv P σ (some (Ak3 G ec)) o.type x=some ea) (hb:Fv P σ (some (Ak3 G (.un .not ec))) o.type y=some eb) (hk:Chk η [F0 G (.ite ec ea eb)]):
  Db P o a w (Fs w0 Oe η σ a.tmps (Fb σ) (.e (.ite ec ea eb))):=by
 obtain ⟨r,hr⟩:=hk.g1 hG
 obtain ⟨p,hp,hpr⟩:=Dq (ds:=a.defers) (C:=⟨η,Bg w O,β,hv,σ.m⟩) hG rfl hc h.tmps
 have hr':=hr
 simp only [E.ev,hp,Ax] at hr'
 split at hr'
 ·have hb':a.eval c= .bool true:=hpr.bool
  obtain ⟨q,hq,hqr⟩:=Dq (ds:=a.defers) (C:=⟨η,Bg w O,β,hv,σ.m⟩) (hG.conj hp rfl) rfl ha h.tmps
  refine Db.value (v:=a.eval x) (w':=w) (by simp [execOp,ho,hb',asBool]) (.keep h ?_)
  simp only [Ap]
  rw [hq] at hr';injection hr' with hr';subst hr'
  exact ⟨q,hr,hqr⟩
 ·have hb':a.eval c= .bool false:=hpr.bool
  obtain ⟨q,hq,hqr⟩:=Dq (ds:=a.defers) (C:=⟨η,Bg w O,β,hv,σ.m⟩) (hG.conj (x:= .un .not ec) (b:=true) (by simp [E.ev,hp,X.un]) rfl) rfl hb h.tmps
  refine Db.value (v:=a.eval y) (w':=w) (by simp [execOp,ho,hb',asBool]) (.keep h ?_)
  simp only [Ap]
  rw [hq] at hr';injection hr' with hr';subst hr'
  exact ⟨q,hr,hqr⟩
 ·cases hr'
theorem Gh6 {op:BinOp} {xt yt:TypeId} {x y:Operand} {ex ey:E} (ho:o.op= .binOp op xt x y yt) (h:Rel w0 Oe η σ a.tmps w β hv O) (hG:GOk η G) (hx:Fv P σ G xt x=some ex) (hy:Fv P σ G yt y=some ey)
  (hk:Chk η [F0 G (.bin op ex ey)]):Db P o a w (Fs w0 Oe η σ a.tmps (Fb σ) (.e (.bin op ex ey))):=by
 obtain ⟨r,hr⟩:=hk.g1 hG
 obtain ⟨p,hp,hpr⟩:=Dq (ds:=a.defers) (C:=⟨η,Bg w O,β,hv,σ.m⟩) hG rfl hx h.tmps
 obtain ⟨q,hq,hqr⟩:=Dq (ds:=a.defers) (C:=⟨η,Bg w O,β,hv,σ.m⟩) hG rfl hy h.tmps
 have hr':=hr
 simp only [E.ev,hp,hq,Ax] at hr'
 obtain ⟨v,hv1,hv2⟩:=Hy1 (P:=P) w xt x y hr' hpr hqr
 refine Db.value (v:=v) (w':=w) ?_ (.keep h ?_)
 ·simp only [execOp,ho]
  rw [Sem.run_bind]
  have e:a.eval=(Act.mk a.tmps a.defers).eval:=rfl
  rw [e,hv1];rfl
 ·simp only [Ap];exact ⟨r,hr,hv2⟩
theorem Dm9 {op:BinOp} {neg ag:Bool} {ts:List Sc} {xt yt:TypeId} {x y:Operand} {ex ey:E} (ho:o.op= .binOp op xt x y yt) (hop:op=if neg then .neq else .eql) (hag:J7 P xt=ag) (hts:d5 P 20 xt=some ts)
  (hgt:P.eqGuardType P.depth xt=false) (hbt:ag=false→P.underlying xt=some .bool)
  (h:Rel w0 Oe η σ a.tmps w β hv O) (hG:GOk η G) (hx:Fv P σ G xt x=some ex) (hy:Fv P σ G yt y=some ey)
  (hk:Chk η [F0 G (.eqs neg ag ts ex ey)]):Db P o a w (Fs w0 Oe η σ a.tmps (Fb σ) (.e (.eqs neg ag ts ex ey))):=by
 obtain ⟨r,hr⟩:=hk.g1 hG
 obtain ⟨p,hp,hpr⟩:=Dq (ds:=a.defers) (C:=⟨η,Bg w O,β,hv,σ.m⟩) hG rfl hx h.tmps
 obtain ⟨q,hq,hqr⟩:=Dq (ds:=a.defers) (C:=⟨η,Bg w O,β,hv,σ.m⟩) hG rfl hy h.tmps
 have hr':=hr
 simp only [E.ev,hp,hq,Ax] at hr'
 obtain ⟨v,hv1,hv2⟩:=Hq8 (P:=P) w x y hop hag hts trivial hgt hbt hr' hpr hqr
 refine Db.value (v:=v) (w':=w) ?_ (.keep h ?_)
 ·simp only [execOp,ho]
  rw [Sem.run_bind]
  have e:a.eval=(Act.mk a.tmps a.defers).eval:=rfl
  rw [e,hv1];rfl
 ·simp only [Ap];exact ⟨r,hr,hv2⟩
theorem Hs8 {op:UnOp} {xt:TypeId} {x:Operand} {ex:E} (ho:o.op= .unOp op xt x) (h:Rel w0 Oe η σ a.tmps w β hv O) (hG:GOk η G) (hx:Fv P σ G 0 x=some ex) (hk:Chk η [F0 G (.un op ex)]):
  Db P o a w (Fs w0 Oe η σ a.tmps (Fb σ) (.e (.un op ex))):=by
 obtain ⟨r,hr⟩:=hk.g1 hG
 obtain ⟨p,hp,hpr⟩:=Dq (ds:=a.defers) (C:=⟨η,Bg w O,β,hv,σ.m⟩) hG rfl hx h.tmps
 have hr':=hr
 simp only [E.ev,hp,Ax] at hr'
 obtain ⟨v,hv1,hv2⟩:=Hg0 (P:=P) w hr' hpr
 refine Db.value (v:=v) (w':=w) ?_ (.keep h ?_)
 ·have e:a.eval=(Act.mk a.tmps a.defers).eval:=rfl
  simp only [execOp,ho,Sem.run_bind]
  rw [e,hv1];rfl
 ·simp only [Ap];exact ⟨r,hr,hv2⟩
theorem Fv8 {src dst:TypeId} {k k':IntKind} {x:Operand} {ex:E} (ho:o.op= .convert src dst x) (hs:P.underlying src=some (.int k')) (hd:P.underlying dst=some (.int k)) (h:Rel w0 Oe η σ a.tmps w β hv O) (hG:GOk η G)
  (hx:Fv P σ G 0 x=some ex) (hk:Chk η [F0 G (.conv k ex)]):Db P o a w (Fs w0 Oe η σ a.tmps (Fb σ) (.e (.conv k ex))):=by
 obtain ⟨r,hr⟩:=hk.g1 hG
 obtain ⟨p,hp,hpr⟩:=Dq (ds:=a.defers) (C:=⟨η,Bg w O,β,hv,σ.m⟩) hG rfl hx h.tmps
 have hr':=hr
 simp only [E.ev,hp,Ax] at hr'
 unfold qm at hr'
 split at hr'
 ·rename_i kk n
  injection hr' with hr'
  have hv1:a.eval x= .int kk n:=hpr.int
  refine Db.value (v:= .int k (k.wrap n)) (w':=w) ?_ (.keep h ?_)
  ·simp [execOp,ho,convert,run_underlying hs,run_underlying hd,hv1,Conv.intToInt]
  ·simp only [Ap];exact ⟨r,hr,by rw [←hr'];exact .i _ _⟩
 ·cases hr'
theorem Dx2 {src dst:TypeId} {x:Operand} {ex:E} (ho:o.op= .convert src dst x) (hs:P.underlying src=some .string) (hd:P.underlying dst=some .string) (h:Rel w0 Oe η σ a.tmps w β hv O) (hG:GOk η G)
  (hx:Fv P σ G 0 x=some ex) (hk:Chk η [F0 G (.bin .eql ex (.c (.s [])))]):Db P o a w (Fs w0 Oe η σ a.tmps (Fb σ) (.e ex)):=by
 obtain ⟨r,hr⟩:=hk.g1 hG
 obtain ⟨p,hp,hpr⟩:=Dq (ds:=a.defers) (C:=⟨η,Bg w O,β,hv,σ.m⟩) hG rfl hx h.tmps
 simp only [E.ev,hp,Ax] at hr
 have hstr:∃s,p= .s s:=by
  cases p<;>simp [X.bin] at hr
  exact ⟨_,rfl⟩
 obtain ⟨s,rfl⟩:=hstr
 obtain ⟨y,hy,_⟩:=hpr.str
 have hv1:a.eval x= .string y:=hy
 refine Db.value (v:= .string y) (w':=w) (by simp [execOp,ho,convert,run_underlying hs,run_underlying hd,hv1]) (.keep h ?_)
 simp only [Ap]
 exact ⟨_,hp,by rw [←hy];exact hpr⟩
theorem L0 {t:TypeId} {x:Operand} {f off:Nat} {ft:TypeId} {p q:SV} (ho:o.op= .fieldAddr t x f) (hf:On P t f=some (off,ft)) (hz:Ag P ft≠0) (h:Rel w0 Oe η σ a.tmps w β hv O) (hr:Ap ⟨η,Bg w O,β,hv,σ.m⟩ p (a.eval x))
  (hq:(∃s k,p= .bp s k∧q= .bp s (k+off))∨(∃y k,p= .ip y k∧q= .ip y (k+off))∨(∃s i k,p= .ap s i k∧q= .ap s i (k+off))):
  Db P o a w (Fs w0 Oe η σ a.tmps (Fb σ) q):=by
 have run:∀ad,a.eval x= .pointer (some ad)→(execOp a.eval o).run P w= .ok (.value (.pointer (some (ad.add off)))) w:=by
  intro ad had
  unfold On at hf
  split at hf
  ·rename_i fs hu
   obtain ⟨fl,hfl,he⟩:=Aw.1 hf
   simp only [Prod.mk.injEq] at he
   obtain ⟨rfl,rfl⟩:=he
   have hsz:(sizeOf fl.type).run P w= .ok (Ag P fl.type) w:=by
    cases hi:P.info? fl.type with
    |none=>exact absurd (by simp [Ag,hi]) hz
    |some i=>simp [sizeOf,typeInfo,hi,Ag]
   simp [execOp,ho,Instr.fieldAt,run_underlying hu,hfl,Instr.sureAddr,had,fieldPlace,hsz,hz]
  ·cases hf
 rcases hq with ⟨s,k,rfl,rfl⟩|⟨y,k,rfl,rfl⟩|⟨s,i,k,rfl,rfl⟩
 ·simp only [Ap] at hr
  refine Db.value (run _ hr) (.keep h ?_)
  simp only [Ap,add_lit]
 ·simp only [Ap] at hr
  obtain ⟨pv,hp,ad,el,had,h1,h2,h3⟩:=hr
  refine Db.value (run _ had) (.keep h ?_)
  simp only [Ap]
  refine ⟨pv,hp,ad.add off,fun j=>el (off+j),rfl,fun j c hc=> ?_,fun j c hc=> ?_,fun j c hc=> ?_⟩
  ·rw [Addr.add_add];exact h1 _ c (by rw [A4] at hc ⊢;rw [←Eb];exact hc)
  ·exact h2 _ c (by rw [A4] at hc ⊢;rw [←Eb];exact hc)
  ·exact h3 _ c (by rw [A4] at hc ⊢;rw [←Eb];exact hc)
 ·simp only [Ap] at hr
  obtain ⟨ee,sz,xx,ro,xs,kk,iv,g1,g2,g3,g4,g5,had⟩:=hr
  refine Db.value (run _ had) (.keep h ?_)
  simp only [Ap]
  exact ⟨ee,sz,xx,ro,xs,kk,iv,g1,g2,g3,g4,g5,by rw [add_lit,Eb]⟩
theorem Kg {t:TypeId} {x:Operand} {f off:Nat} {ft:TypeId} {p q:SV} (ho:o.op= .fieldAddr t x f) (hf:On P t f=some (off,ft)) (hz:Ag P ft≠0) (h:Rel w0 Oe η σ a.tmps w β hv O) (hG:GOk η G) (hx:opd P σ G 0 x=some p)
  (hq:(∃s k,p= .bp s k∧q= .bp s (k+off))∨(∃y k,p= .ip y k∧q= .ip y (k+off))∨(∃s i k,p= .ap s i k∧q= .ap s i (k+off))):
  Db P o a w (Fs w0 Oe η σ a.tmps (Fb σ) q):=by
 have hr:=D8 (ds:=a.defers) (C:=⟨η,Bg w O,β,hv,σ.m⟩) hG rfl hx h.tmps
 exact L0 ho hf hz h hr hq
theorem Dm7 {C:Cx} {y:E} {v:Value} {q:PV} (hr:Ap C (.e y) v) (hd:(E.der y).ev C.η=some q):Ap C (.ip (.der y) 0) v:=by
 simp only [Ap] at hr ⊢
 obtain ⟨p,hp,hpr⟩:=hr
 refine ⟨q,hd,?_⟩
 simp only [E.ev,hp,Ax] at hd
 cases p<;>simp only [Aj9,Option.some.injEq,reduceCtorEq] at hd
 subst hd
 exact hpr.ptr
theorem Sl {t:TypeId} {x:Operand} {f off:Nat} {ft:TypeId} {y:E} (ho:o.op= .fieldAddr t x f) (hf:On P t f=some (off,ft)) (hz:Ag P ft≠0) (h:Rel w0 Oe η σ a.tmps w β hv O) (hG:GOk η G) (hx:opd P σ G 0 x=some (.e y)) (hk:Chk η [F0 G (.der y)]):
  Db P o a w (Fs w0 Oe η σ a.tmps (Fb σ) (.ip (.der y) off)):=by
 have hr:=D8 (ds:=a.defers) (C:=⟨η,Bg w O,β,hv,σ.m⟩) hG rfl hx h.tmps
 obtain ⟨q,hq⟩:=hk.g1 hG
 exact L0 ho hf hz h (Dm7 hr hq) (.inr (.inl ⟨_,0,rfl,by rw [Ek]⟩))
theorem yp {x:Operand} {i:Nat} {xs:List SV} {v:SV} (ho:o.op= .extract x i) (h:Rel w0 Oe η σ a.tmps w β hv O) (hG:GOk η G) (hx:opd P σ G 0 x=some (.tup xs)) (hi:xs[i]? =some v):
  Db P o a w (Fs w0 Oe η σ a.tmps (Fb σ) v):=by
 have hr:=D8 (ds:=a.defers) (C:=⟨η,Bg w O,β,hv,σ.m⟩) hG rfl hx h.tmps
 simp only [Ap] at hr
 obtain ⟨vs,hvs,hr⟩:=hr
 have hvs':a.eval x= .tuple vs:=hvs
 obtain ⟨u,hu,hru⟩:=hr.get i v hi
 have hu':vs[i]? =some u:=by rw [←Ad];exact hu
 exact Db.value (v:=u) (w':=w) (by simp [execOp,ho,Instr.extract,hvs',hu']) (.keep h hru)
theorem ff {f:FuncId} {first captured:Array Operand} {cs:List SV} (ho:o.op= .makeFunc (.func f) first captured) (hf:first.isEmpty=true) (h:Rel w0 Oe η σ a.tmps w β hv O) (hG:GOk η G) (hx:args P σ G captured.toList []=some cs):
  Db P o a w (Fs w0 Oe η σ a.tmps (Fb σ) (.clo f cs)):=by
 have hr:=Od (ds:=a.defers) (C:=⟨η,Bg w O,β,hv,σ.m⟩) hG rfl h.tmps hx
 have hf':first= #[]:=by simpa using hf
 refine Db.value (v:= .func (.func f) #[] (captured.map a.eval)) (w':=w) (by simp [execOp,ho,Instr.makeFunc,hf']) (.keep h ?_)
 simp only [Ap]
 exact ⟨_,rfl,by simpa using hr⟩
theorem Iq {x:Operand} {p:SV} (ho:o.op= .nilCheck x) (h:Rel w0 Oe η σ a.tmps w β hv O) (hG:GOk η G) (hx:opd P σ G 0 x=some p)
  (hp:(∃y,p= .e y∧Chk η [F0 G (.scal y)])∨(∃s k,p= .bp s k)∨(∃y k,p= .ip y k)∨(∃s i k,p= .ap s i k)∨∃g cs,p= .clo g cs):Db P o a w (Fs w0 Oe η σ a.tmps (Fb σ) p):=by
 have hr:=D8 (ds:=a.defers) (C:=⟨η,Bg w O,β,hv,σ.m⟩) hG rfl hx h.tmps
 have e:a.eval=(Act.mk a.tmps a.defers).eval:=rfl
 rw [←e] at hr
 refine Db.value (v:=a.eval x) (w':=w) ?_ (.keep h hr)
 rcases hp with ⟨y,rfl,hk⟩|⟨s,k,rfl⟩|⟨y,k,rfl⟩|⟨s,i,k,rfl⟩|⟨g,cs,rfl⟩
 ·obtain ⟨r,hr1⟩:=hk.g1 hG
  simp only [Ap] at hr
  obtain ⟨q,hq,hqr⟩:=hr
  simp only [E.ev,hq,Ax] at hr1
  split at hr1
  ·rename_i hs
   have hv1:a.eval x=(Act.mk a.tmps a.defers).eval x:=rfl
   generalize hu:a.eval x=u at hqr
   cases hqr<;>first|(simp [PV.scal] at hs;done)|simp [execOp,ho,hu]
  ·cases hr1
 ·simp only [Ap] at hr;simp [execOp,ho,hr]
 ·simp only [Ap] at hr
  obtain ⟨q,_,ad,el,had,_⟩:=hr
  simp [execOp,ho,had]
 ·simp only [Ap] at hr
  obtain ⟨_,_,_,_,_,_,_,_,_,_,_,_,had⟩:=hr
  simp [execOp,ho,had]
 ·simp only [Ap] at hr
  obtain ⟨cv,had,_⟩:=hr
  simp [execOp,ho,had]
theorem pw {t:TypeId} {p sv:SV} {v0:Value} {tm:Array Value} (h:Rel w0 Oe η σ tm w β hv O) (hG:GOk η G) (hr:Ap ⟨η,Bg w O,β,hv,σ.m⟩ p v0) (hne:∀y,p≠ .e y) (hl:M9 P σ G t p=some (ws,sv)) (hk:Chk η ws):
  ∃ad v,v0= .pointer (some ad)∧(loadVar t ad).run P w= .ok v w∧Ap ⟨η,Bg w O,β,hv,σ.m⟩ sv v:=by
 have fin:∀ad v,v0= .pointer (some ad)→(loadVar t ad).run P w= .ok v w→Ap ⟨η,Bg w O,β,hv,σ.m⟩ sv v→∃ad v,v0= .pointer (some ad)∧(loadVar t ad).run P w= .ok v w∧Ap ⟨η,Bg w O,β,hv,σ.m⟩ sv v:=fun ad v a b c=>⟨ad,v,a,b,c⟩
 unfold M9 at hl
 split at hl
 ·cases hl
 ·rename_i hun
  have hun':(P.underlying t).isSome=true:=by cases hh:P.underlying t<;>simp_all
  split at hl
  ·rename_i s off
   simp only [Ap] at hr
   split at hl
   ·rename_i cs ro hb
    obtain ⟨_,_,vs,T,g3,g4,g5,_⟩:=h.mem s _ hb
    split at hl
    ·rename_i hag
     dsimp only at hl
     split at hl
     ·rename_i hle
      simp only [Option.some.injEq,Prod.mk.injEq] at hl
      obtain ⟨rfl,rfl⟩:=hl
      have hlen:=g5.length
      have hsub:A7 ⟨η,Bg w O,β,hv,σ.m⟩ ((cs.drop off).take (Ag P t)) ((vs.toList.drop off).take (Ag P t)):=by
       refine A7.mk (by simp [hlen]) fun j y u hy hu=> ?_
       rw [Bb] at hy hu
       split at hy
       ·rename_i hj;rw [if_pos hj] at hu
        rw [A4] at hy hu
        obtain ⟨u',hu',hr'⟩:=g5.get _ y hy
        rw [hu] at hu';injection hu' with hu';subst hu';exact hr'
       ·cases hy
      refine fin _ _ hr (Js w (us:=(vs.toList.drop off).take (Ag P t)) hag (by simp at hlen ⊢;omega) fun j u hu=> ?_) (P0 (by simpa using hsub) fun u hu=> ?_)
      ·rw [Bb] at hu
       split at hu
       ·rw [A4,Ad] at hu
        rw [add_lit,cell_of_row w (β s) (off+j) vs T (0,0) g3];exact hu
       ·cases hu
      ·exact g4 u (H7 (E6 (by simpa using hu)))
     ·cases hl
    ·rename_i hag
     obtain ⟨c,hc,he⟩:=Aw.1 hl
     simp only [Prod.mk.injEq] at he
     obtain ⟨rfl,rfl⟩:=he
     obtain ⟨u,hu,hru⟩:=g5.get off c hc
     refine fin _ u hr (Mx w (by simpa using hag) hun' ?_) hru
     rw [cell_of_row w (β s) off vs T (0,0) g3,←Ad];exact hu
   ·cases hl
  ·rename_i y off
   simp only [Ap] at hr
   obtain ⟨p,hp,ad,el,had,h1,h2,h3⟩:=hr
   have hp':y.ev η=some p:=hp
   have cell:∀j c,(p.cells.drop off)[j]? =some c→w.cell? (ad.add j)=some (el j):=fun j c hc=>(Ky (h1 j c hc)).1
   split at hl
   ·rename_i hag
    simp only [Option.some.injEq,Prod.mk.injEq] at hl
    obtain ⟨rfl,rfl⟩:=hl
    obtain ⟨r,hr⟩:=hk.g1 hG
    have hr':=hr
    simp only [E.ev,hp',Ax] at hr'
    split at hr'
    ·rename_i hle
     injection hr' with hr'
     have each:∀j,j<Ag P t→∃c,(p.cells.drop off)[j]? =some c:=fun j hj=>⟨_,Ay (by simp;omega)⟩
     refine fin ad _ had (Js w (us:=(List.range (Ag P t)).map el) hag (by simp) fun j u hu=> ?_) ?_
     ·simp only [By,Aw] at hu
      obtain ⟨k,hk',rfl⟩:=hu
      have hj:j<Ag P t:=by have:=(Ak.1 hk').1;simpa using this
      rw [Cj hj] at hk';injection hk' with hk';subst hk'
      obtain ⟨c,hc⟩:=each j hj
      exact cell j c hc
     ·simp only [Ap]
      refine ⟨r,hr,?_⟩
      rw [←hr']
      refine Rep.agg_mk (by simp;omega) (fun u hu=> ?_) fun j c u hc hu=> ?_
      ·simp only [Cs,E5] at hu
       obtain ⟨k,hk',rfl⟩:=hu
       obtain ⟨c,hc⟩:=each k hk'
       exact h2 k c hc
      ·rw [Bb] at hc
       split at hc
       ·rename_i hj
        simp only [By,Aw,Cj hj] at hu
        obtain ⟨k,hk',rfl⟩:=hu
        injection hk' with hk';subst hk'
        exact h3 j c hc
       ·cases hc
    ·cases hr'
   ·rename_i hag
    simp only [Option.some.injEq,Prod.mk.injEq] at hl
    obtain ⟨rfl,rfl⟩:=hl
    obtain ⟨r,hr⟩:=hk.g1 hG
    have hr':=hr
    simp only [E.ev,hp',Ax] at hr'
    have hd:(p.cells.drop off)[0]? =some r:=by rw [A4];exact hr'
    refine fin ad (el 0) had (Mx w (by simpa using hag) hun' ?_) ?_
    ·have:=cell 0 r hd;simpa [Go.Addr.add] using this
    ·simp only [Ap];exact ⟨r,hr,h3 0 r hd⟩
  ·rename_i s i off
   simp only [Ap] at hr
   obtain ⟨ee,sz,y,ro,xs,kk,iv,g1,g2,g3,g4,g5,had⟩:=hr
   split at hl
   ·rename_i e' sz' y' ro' hb
    have g1':mget σ.m s=some (.arr ee sz y ro):=g1
    rw [hb] at g1'
    injection g1' with g1'
    injection g1' with q1 q2 q3 q4
    subst q1;subst q2;subst q3;subst q4
    have g2':y'.ev η=some (.l sz' xs):=g2
    have g3':i.ev η=some (.i kk iv):=g3
    obtain ⟨_,xs',vs,k1,k2,k3,k4⟩:=h.mem s _ hb
    have k1':y'.ev η=some (.l sz' xs'):=k1
    rw [g2'] at k1'
    injection k1' with k1'
    injection k1' with _ k1'
    subst k1'
    have hxi:xs[iv.toNat]? =some (xs[iv.toNat]'g5):=Ay g5
    obtain ⟨m1,m2⟩:=k3 _ _ hxi
    have hidx:(E.idx sz' y' i).ev η=some (xs[iv.toNat]'g5):=by
     simp only [E.ev,g2',g3',Ax,Hh,if_true,if_pos g4];exact hxi
    have hblk:∃cap,0<cap∧hv s= .slice (some ⟨β s,0,none⟩) xs.length cap:=by
     rcases k2.2 with ⟨_,_,hn⟩|⟨g,cap,cur,e1,e1c,_⟩
     ·omega
     ·have e1':hv s= .slice (some ⟨g,0,none⟩) xs.length cap:=e1
      have:=(k4 g (by show B5 (hv s)=_;rw [e1'];simp only [B5,if_neg (show¬cap=0 by omega)])).1
      have this':g=β s:=this
      exact ⟨cap,by omega,by rw [e1',this']⟩
    obtain ⟨cap,hcp,hcap⟩:=hblk
    have cell:∀j u,vs[j]? =some u→w.cell? ⟨β s,j,none⟩=some u:=by
     intro j u hu
     have:=k2.cells (g:=β s) (by have:hv s=_:=hcap;show B5 (hv s)=_;rw [this];simp only [B5,if_neg (show¬cap=0 by omega)]) j u hu
     rwa [add_lit,Ek] at this
    split at hl
    ·rename_i hag
     simp only [Option.some.injEq,Prod.mk.injEq] at hl
     obtain ⟨rfl,rfl⟩:=hl
     obtain ⟨r,hr⟩:=hk.g1 hG
     have hr':=hr
     rw [E.ev,hidx] at hr'
     simp only [Ax] at hr'
     split at hr'
     ·rename_i hle
      injection hr' with hr'
      have each:∀j,j<Ag P t→∃c u,((xs[iv.toNat]'g5).cells.drop off)[j]? =some c∧vs[iv.toNat*sz'+(off+j)]? =some u∧One u∧Rep (Bg w O) c u:=by
       intro j hj
       have hc:((xs[iv.toNat]'g5).cells)[off+j]? =some _:=Ay (by omega)
       obtain ⟨u,u1,u2,u3⟩:=m2 _ _ hc
       exact ⟨_,u,by rw [A4];exact hc,u1,u2,u3⟩
      have hvl:∀j,j<Ag P t→vs[iv.toNat*sz'+(off+j)]? =some (vs.getD (iv.toNat*sz'+(off+j)) undef):=by
       intro j hj
       obtain ⟨c,u,_,hu,_⟩:=each j hj
       simp [Bf,hu]
      refine fin _ _ had (Js w (us:=(List.range (Ag P t)).map fun j=>vs.getD (iv.toNat*sz'+(off+j)) undef) hag (by simp) fun j u hu=> ?_) ?_
      ·simp only [By,Aw] at hu
       obtain ⟨k,hk',rfl⟩:=hu
       have hj:j<Ag P t:=by have:=(Ak.1 hk').1;simpa using this
       rw [Cj hj] at hk';injection hk' with hk';subst hk'
       rw [add_lit,Eb]
       exact cell _ _ (hvl j hj)
      ·simp only [Ap]
       refine ⟨r,hr,?_⟩
       rw [←hr']
       refine Rep.agg_mk (by simp;omega) (fun u hu=> ?_) fun j c u hc hu=> ?_
       ·simp only [Cs,E5] at hu
        obtain ⟨k,hk',rfl⟩:=hu
        obtain ⟨c,u,_,hu,h1,_⟩:=each k hk'
        simp only [Bf,hu,Cn];exact h1
       ·rw [Bb] at hc
        split at hc
        ·rename_i hj
         simp only [By,Aw,Cj hj] at hu
         obtain ⟨k,hk',rfl⟩:=hu
         injection hk' with hk';subst hk'
         obtain ⟨c',u,hc',hu,_,h3⟩:=each j hj
         rw [hc] at hc';injection hc' with hc';subst hc'
         simp only [Bf,hu,Cn];exact h3
        ·cases hc
     ·cases hr'
    ·rename_i hag
     simp only [Option.some.injEq,Prod.mk.injEq] at hl
     obtain ⟨rfl,rfl⟩:=hl
     obtain ⟨r,hr⟩:=hk.g1 hG
     have hr':=hr
     rw [E.ev,hidx] at hr'
     simp only [Ax] at hr'
     obtain ⟨u,u1,u2,u3⟩:=m2 _ _ hr'
     refine fin _ u had (Mx w (by simpa using hag) hun' (cell _ _ u1)) ?_
     simp only [Ap];exact ⟨r,hr,u3⟩
   ·cases hl
  ·exact absurd rfl (hne _)
  ·cases hl
theorem Bk1 {t:TypeId} {p sv:SV} {v0:Value} {tm:Array Value} (h:Rel w0 Oe η σ tm w β hv O) (hG:GOk η G) (hr:Ap ⟨η,Bg w O,β,hv,σ.m⟩ p v0) (hl:M9 P σ G t p=some (ws,sv)) (hk:Chk η ws):
  ∃ad v,v0= .pointer (some ad)∧(loadVar t ad).run P w= .ok v w∧Ap ⟨η,Bg w O,β,hv,σ.m⟩ sv v:=by
 by_cases hp:∃y,p= .e y
 ·obtain ⟨y,rfl⟩:=hp
  have hl':M9 P σ G t (.ip (.der y) 0)=some (ws,sv):=hl
  refine pw h hG (Dm7 (q:=((E.der y).ev η).getD .u) hr ?_) (fun y e=>by cases e) hl' hk
  have key:∀z:E,(∀r,z.ev η=some r→((E.der y).ev η).isSome=true)→Chk η [F0 G z]→(E.der y).ev η=some (((E.der y).ev η).getD .u):=by
   intro z hz hk
   obtain ⟨r,hr⟩:=hk.g1 hG
   have:=hz r hr
   obtain ⟨q,hq⟩:=Cq.1 this
   rw [hq];rfl
  unfold M9 at hl
  split at hl
  ·cases hl
  ·dsimp only at hl
   split at hl
   ·simp only [Option.some.injEq,Prod.mk.injEq] at hl
    obtain ⟨rfl,_⟩:=hl
    refine key _ (fun r hr=> ?_) hk
    simp only [E.ev] at hr ⊢
    obtain ⟨q,hq,_⟩:=Aj.1 hr
    rw [hq];rfl
   ·simp only [Option.some.injEq,Prod.mk.injEq] at hl
    obtain ⟨rfl,_⟩:=hl
    refine key _ (fun r hr=> ?_) hk
    simp only [E.ev] at hr ⊢
    obtain ⟨q,hq,_⟩:=Aj.1 hr
    rw [hq];rfl
 ·exact pw h hG hr (fun y e=>hp ⟨y,e⟩) hl hk
theorem Fv7 {t:TypeId} {x:Operand} {p sv:SV} (ho:o.op= .load t x) (h:Rel w0 Oe η σ a.tmps w β hv O) (hG:GOk η G) (hx:opd P σ G 0 x=some p) (hl:M9 P σ G t p=some (ws,sv)) (hk:Chk η ws):
  Db P o a w (Fs w0 Oe η σ a.tmps (Fb σ) sv):=by
 have hr:=D8 (ds:=a.defers) (C:=⟨η,Bg w O,β,hv,σ.m⟩) hG rfl hx h.tmps
 obtain ⟨ad,v,had,hlv,hrv⟩:=Bk1 h hG hr hl hk
 have had':a.eval x= .pointer (some ad):=had
 exact Db.value (v:=v) (w':=w) (by simp [execOp,ho,Instr.loadAt,Instr.sureAddr,had',hlv]) (.keep h hrv)
end
end Go.X
/- Operations that make memory or write to it. -/
namespace Go.X
open Go Go.RowKit
section
variable {P:Program} {w0:Fr} {Oe:Nat→Option Nat} {η:List PV} {σ:St} {a:Act} {w:World} {β:Nat→Nat} {hv:Nat→Value} {O:Nat→Option Nat} {G:Option E} {o:Oper} {ws:List W}
theorem Rel.oneH (h:Rel w0 Oe η σ a.tmps w β hv O):∀s e sz x ro,mget σ.m s=some (.arr e sz x ro)→One (hv s):=by
 intro s e sz x ro hb
 obtain ⟨_,xs,vs,_,k2,_⟩:=h.mem s _ hb
 rcases k2.2 with ⟨_,hn,_⟩|⟨g,cap,cur,e1,_⟩
 ·have:hv s=_:=hn;rw [this];rfl
 ·have:hv s=_:=e1;rw [this];rfl
theorem V3 {cs:List SV} (h:Sm cs=true) {j:Nat} {x:SV} (hx:cs[j]? =some x) (s T:Nat):x≠ .slf s T:=by
 intro e
 subst e
 simp only [Sm,Bj] at h
 have:=h _ (A6 hx)
 simp [SV.isSlf] at this
theorem Ab4 {s T:Nat}:∀(vs:List SV) (cs:List SV) (off:Nat),Sm vs=true→(E9 cs off vs)[0]? =some (.slf s T)→cs[0]? =some (.slf s T)
 |[],cs,off,_,h=>h
 |v::vs,cs,off,hn,h=>by
  have hn':Sm vs=true:=by simp only [Sm,List.all_cons,Aq] at hn ⊢;exact hn.2
  have h1:=Ab4 vs (cs.set off v) (off+1) hn' h
  rw [C0] at h1
  split at h1
  ·split at h1
   ·exact absurd (Option.some.inj h1) (V3 hn (j:=0) rfl s T)
   ·cases h1
  ·exact h1
theorem Dx5 {t:TypeId} {cs:List SV} {s:Nat} (ho:o.op= .alloc t) (h:Rel w0 Oe η σ a.tmps w β hv O) (hz:G9 P t=some cs) (hns:Sm cs=true):
  Db P o a w (Fs w0 Oe η σ a.tmps (Gb σ.m σ.n s (.box (if Dz7 P t then cs.set 0 (.slf s t) else cs) false)) (.bp s 0)):=by
 generalize hcs':(if Dz7 P t then cs.set 0 (.slf s t) else cs)=cs'
 obtain ⟨i,z,hi,hzz,hsz,h1,_⟩:=F9 (C:=⟨η,Bg w O,β,hv,σ.m⟩) hz
 obtain ⟨β',O',hβ,hrel⟩:=h.alloc (s:=s) (b:= .box cs' false) (n:=σ.n) (.cells z.cells t) fun β' O' hb _ hO _=>by
  obtain ⟨i',z',hi',hzz',_,_,hr⟩:=F9 (C:=⟨η,Bg (w.alloc (.cells z.cells t)) O',β',hv,(Gb σ.m σ.n s (.box cs' false)).m⟩) hz
  rw [hi] at hi';injection hi' with hi';subst hi'
  rw [hzz] at hzz';injection hzz' with hzz';subst hzz'
  refine ⟨by show w0.ok (β' s);rw [hb];exact .inl h.bel.size,fun _=>by show O' (β' s)=_;rw [hb];exact hO,z.cells,t,?_,h1,?_,?_⟩
  ·show (w.alloc _).heap[β' s]? =_
   rw [hb];exact heap_alloc_new w _
  ·generalize (Cx.mk η (Bg (w.alloc (.cells z.cells t)) O') β' hv (Gb σ.m σ.n s (.box cs' false)).m)=C' at hr
   rw [←hcs']
   split
   ·rename_i hbl
    refine A7.mk (by simp [hr.length]) fun j y u hy hu=> ?_
    rw [C0] at hy
    by_cases h0:0=j
    ·subst h0
     simp only [if_true] at hy
     split at hy
     ·injection hy with hy;subst hy
      simp only [Dz7,hi,hzz,Aq] at hbl
      have hbl2:=hbl.2
      split at hbl2
      ·rename_i hz0
       rw [Ad,hz0] at hu
       injection hu with hu;subst hu
       simp only [Ap];exact .inl trivial
      ·cases hbl2
     ·cases hy
    ·rw [if_neg h0] at hy
     obtain ⟨v,hv1,hv2⟩:=hr.get j y hy
     rw [hu] at hv1;injection hv1 with hv1;subst hv1
     exact hv2
   ·exact hr
  ·rw [←hcs']
   intro s' T' hc
   split at hc
   ·rw [C0] at hc
    simp only [if_true] at hc
    split at hc
    ·injection hc with hc;injection hc
    ·cases hc
   ·exact absurd rfl (V3 hns hc s' T')
 refine Db.value (v:= .pointer (some ⟨w.heap.size,0,none⟩)) (w':=w.alloc (.cells z.cells t)) ?_ ⟨β',hv,O',hrel,?_⟩
 ·simp [execOp,ho,Instr.alloc,zeroValue,typeInfo,hi,hzz,newVar,newRow]
 ·simp only [Ap,hβ]
theorem Dg8 {M':Vw} {β':Nat→Nat} {hv':Nat→Value} {m:List (Nat×Blk)} {M:Vw} {s n:Nat} {b:Blk} (hβ:∀s',s'≠s→β' s'=β s') (hhv:∀s',s'≠s→hv' s'=hv s'):
  ∀s',s'≠s→(Cx.mk η M β hv m).At ⟨η,M',β',hv',(Gb m n s b).m⟩ s':=fun s' hs=>
 ⟨hβ s' hs,hhv s' hs,fun e sz x ro xs h1 h2=>⟨e,x,ro,xs,by
  have:mget (Gb m n s b).m s'=(mget m s').map (Blk.kill s):=Jr ⟨[],m,n⟩ hs b
  show mget (Gb m n s b).m s'=_
  have h1':mget m s'=some (.arr e sz x ro):=h1
  rw [this,h1'];rfl,h2,Ac _⟩⟩
theorem Gh4 {t:TypeId} {x:Operand} {sv:SV} {cs:List SV} {s:Nat} {ro:Bool} (ho:o.op= .box t x) (h:Rel w0 Oe η σ a.tmps w β hv O) (hG:GOk η G) (hx:opd P σ G t x=some sv) (hc:cellsOf P σ.m t sv=some (ws,cs)) (hns:Sm cs=true) (hk:Chk η ws):
  Db P o a w (Fs w0 Oe η σ a.tmps (Gb σ.m σ.n s (.box (SV.kills s cs) ro)) (.bp s 0)):=by
 have hr:=D8 (ds:=a.defers) (C:=⟨η,Bg w O,β,hv,σ.m⟩) hG rfl hx h.tmps
 have e:a.eval=(Act.mk a.tmps a.defers).eval:=rfl
 rw [←e] at hr
 obtain ⟨_,_,h1,h2⟩:=Jy (C:=⟨η,Bg w O,β,hv,σ.m⟩) rfl hc hk h.oneH hr
 obtain ⟨β',O',hβ,hrel⟩:=h.alloc (s:=s) (b:= .box (SV.kills s cs) ro) (n:=σ.n) (.cells (a.eval x).cells t) fun β' O' hb hbn hO hM=>by
  refine ⟨by show w0.ok (β' s);rw [hb];exact .inl h.bel.size,fun _=>by show O' (β' s)=_;rw [hb];exact hO,(a.eval x).cells,t,?_,h1,?_,fun s' T' hh=>absurd rfl (V3 hns (Yf hh) s' T')⟩
  ·show (w.alloc _).heap[β' s]? =_
   rw [hb];exact heap_alloc_new w _
  ·exact A7.kill (C:=⟨η,Bg w O,β,hv,σ.m⟩) (C':=⟨η,Bg (w.alloc (.cells (a.eval x).cells t)) O',β',hv,(Gb σ.m σ.n s (.box (SV.kills s cs) ro)).m⟩) ⟨fun _ _ h=>h,hM⟩ (Dg8 hbn fun _ _=>rfl) _ _ h2
 refine Db.value (v:= .pointer (some ⟨w.heap.size,0,none⟩)) (w':=w.alloc (.cells (a.eval x).cells t)) ?_ ⟨β',hv,O',hrel,?_⟩
 ·simp [execOp,ho,Instr.box,newVar,newRow]
 ·simp only [Ap,hβ]
theorem Eg {t:TypeId} {n:Nat} (hn:Ag P t=n) (h0:n≠0):(sizeOf t).run P w= .ok n w:=by
 cases hi:P.info? t with
 |none=>exact absurd (by simp [←hn,Ag,hi]) h0
 |some i=>simp [sizeOf,typeInfo,hi,←hn,Ag]
theorem Yv {t:TypeId} {x y:Operand} {g off:Nat} {cur:Array Value} {T:TypeId} {v:Value} (ho:o.op= .store t x y) (hx:a.eval x= .pointer (some ⟨g,off,none⟩)) (hy:a.eval y=v) (hg:w.heap[g]? =some (.cells cur T (0,0)))
  (hsz:v.cells.size=Ag P t) (h0:Ag P t≠0) (h1:∀u,u∈v.cells.toList→One u) (hle:off+v.cells.size≤cur.size):
  (execOp a.eval o).run P w= .ok .skip (w.setRow g (cur.toList.take off++v.cells.toList++cur.toList.drop (off+v.cells.size)).toArray):=by
 have hst:=run_storeCells_at P g off T v.cells.toList 0 cur w hg (by simpa using hle) h1
 simp only [Dl,Bn] at hst
 simp only [execOp,ho,Instr.storeAt,Instr.sureAddr,hx,hy,storeVar,Sem.run_bind,Eg rfl h0,Result.andThen_ok,hsz,ne_eq,not_true_eq_false,if_false,Sem.run_pure]
 rw [hsz] at hst
 rw [hst]
 rfl
theorem Kc {g:Nat} {w0:Fr} {w:World} (hb:Bel w0 w) (hBg:w0.ok g) (cs:Array Value):Bel w0 (w.setRow g cs):=
 hb.turn hBg rfl rfl rfl (Ac _) (by simp) fun k _ hk=>setRow_other w g k cs hk
theorem M7 {ss:List Nat} {m:List (Nat×Blk)} {s:Nat} (h:ss.contains s=false):mget (Ks ss m) s=mget m s:=by
 rw [Rv]
 cases mget m s<;>simp_all
theorem Dw9 {t:TypeId} {x y:Operand} {p v:SV} {ε:Eff} (ho:o.op= .store t x y) (h:Rel w0 Oe η σ a.tmps w β hv O) (hG:GOk η G) (hx:opd P σ G 0 x=some p) (hy:opd P σ G t y=some v) (hs:d9 P σ t p v=some (ws,ε)) (hk:Chk η ws):
  Db P o a w (Fs w0 Oe η σ a.tmps ε .und):=by
 have e:a.eval=(Act.mk a.tmps a.defers).eval:=rfl
 have hr:=D8 (ds:=a.defers) (C:=⟨η,Bg w O,β,hv,σ.m⟩) hG rfl hx h.tmps
 have hrv:=D8 (ds:=a.defers) (C:=⟨η,Bg w O,β,hv,σ.m⟩) hG rfl hy h.tmps
 rw [←e] at hr hrv
 unfold d9 at hs
 split at hs
 ·cases hs
 ·rename_i ws1 vs hc
  split at hs
  ·rename_i s off
   split at hs
   ·rename_i cs hb
    split at hs
    ·rename_i hle0
     obtain ⟨hle,hnsl⟩:=hle0
     simp only [Option.some.injEq,Prod.mk.injEq] at hs
     obtain ⟨rfl,rfl⟩:=hs
     obtain ⟨c1,c2,c3,c4⟩:=Jy (C:=⟨η,Bg w O,β,hv,σ.m⟩) rfl hc hk h.oneH hrv
     obtain ⟨g1,g2,us,T,g3,g4,g5,g6⟩:=h.mem s _ hb
     simp only [Ap] at hr
     have hlen:=g5.length
     have hlen':=c4.length
     by_cases h0:Ag P t=0
     ·-- nothing is stored
      have hvs:vs=[]:=Bv (by omega)
      have hvc:(a.eval y).cells= #[]:=Array.eq_empty_of_size_eq_zero (by omega)
      have hti:∃i,P.info? t=some i:=by
       cases hi:P.info? t with
       |some i=>exact ⟨i,rfl⟩
       |none=>
        exfalso
        unfold cellsOf at hc
        have hu:P.underlying t=none:=by simp [Program.underlying,hi]
        simp [J7,hu,h0] at hc
      obtain ⟨i,hi⟩:=hti
      have hs0:i.size=0:=by simpa [Ag,hi] using h0
      refine .inr (.inl ⟨w,by simp [execOp,ho,Instr.storeAt,Instr.sureAddr,hr,storeVar,sizeOf,typeInfo,hi,hs0,hvc,storeCells],β,hv,O,?_,by simp only [Ap]⟩)
      subst hvs
      exact h.put hb trivial (g2 rfl) h.bel rfl (fun _ _=>rfl) (fun e sz x ro xs hh=>by cases hh) ⟨g1,g2,us,T,g3,g4,(by
       refine A7.le (C:=⟨η,Bg w O,β,hv,σ.m⟩) (C':=⟨η,Bg w O,β,hv,H5 σ.m s (.box (E9 cs off []) false)⟩) ⟨fun _ _ h=>h,Vw.Le.refl _⟩ (fun s'=>⟨rfl,rfl,fun e sz x ro xs h1 h2=> ?_⟩) _ _ g5
       by_cases hss:s'=s
       ·subst hss
        have h1':mget σ.m s'=some (.arr e sz x ro):=h1
        rw [hb] at h1';cases h1'
       ·exact ⟨e,x,ro,xs,by show mget (H5 σ.m s _) s'=_;rw [show mget (H5 σ.m s (.box (E9 cs off []) false)) s'=mget σ.m s' from G5 σ hss _];exact h1,h2,Ac _⟩),g6⟩
     ·have hsz':us.size=us.toList.length:=by simp
      refine .inr (.inl ⟨_,Yv (v:=a.eval y) ho hr rfl g3 c1 h0 c3 (by omega),β,hv,O,?_,by simp only [Ap]⟩)
      refine h.put hb trivial (g2 rfl) (Kc h.bel g1 _) (by simp) (fun c hc=>setRow_other w (β s) c _ hc) (fun e sz x ro xs hh=>by cases hh) ⟨g1,g2,_,T,setRow_heap w (β s) us _ T (0,0) g3,?_,?_,fun s' T' hh=>g6 s' T' (Ab4 _ _ _ hnsl hh)⟩
      ·intro u hu
       simp only [Br] at hu
       rcases hu with (hu|hu)|hu
       ·exact g4 u (E6 hu)
       ·exact c3 u hu
       ·exact g4 u (H7 hu)
      ·have hset:=A7.setCells (off:=off) g5 c4 hle
       have hM:(Bg w O).Le (Bg (w.setRow (β s) (us.toList.take off++(a.eval y).cells.toList++us.toList.drop (off+(a.eval y).cells.size)).toArray) O):=
        Gy (fun c _ hc=>setRow_other w (β s) c _ (fun e=>by subst e;exact absurd (hc 0 (g2 rfl)) (by omega))) (fun c _ lim hl=>⟨lim,hl,Ac _⟩) (fun c _ hn=>hn)
       rw [Bn] at hset
       refine A7.le (C:=⟨η,Bg w O,β,hv,σ.m⟩) (C':=⟨η,_,β,hv,H5 σ.m s (.box (E9 cs off vs) false)⟩) ⟨fun _ _ h=>h,hM⟩ (fun s'=>⟨rfl,rfl,fun e sz x ro xs h1 h2=> ?_⟩) _ _ hset
       by_cases hss:s'=s
       ·subst hss
        have h1':mget σ.m s'=some (.arr e sz x ro):=h1
        rw [hb] at h1';cases h1'
       ·exact ⟨e,x,ro,xs,by show mget (H5 σ.m s _) s'=_;rw [show mget (H5 σ.m s (.box (E9 cs off vs) false)) s'=mget σ.m s' from G5 σ hss _];exact h1,h2,Ac _⟩
    ·cases hs
   ·cases hs
  ·rename_i s i off
   split at hs
   ·rename_i ee sz xx es ss hb hts
    split at hs
    ·cases hs
    ·rename_i hns
     simp only [Option.some.injEq,Prod.mk.injEq] at hs
     obtain ⟨rfl,rfl⟩:=hs
     have hns':ss.contains s=false:=by simpa using hns
     obtain ⟨c1,c2,c3,c4⟩:=Jy (C:=⟨η,Bg w O,β,hv,σ.m⟩) rfl hc (fun x hx=>hk x (Cb _ hx)) h.oneH hrv
     obtain ⟨q,hq⟩:=hk _ (Bh _ (B4.2 rfl))
     obtain ⟨O',hfr,hM,hop,hon⟩:=h.frz ss (n:=σ.n)
     obtain ⟨ps,k1,k2,k3⟩:=N1 h hM hts c4 (fun q hq=>hop q (by simpa using hq))
     have hb':mget (Ks ss σ.m) s=some (.arr ee sz xx false):=by rw [M7 hns'];exact hb
     obtain ⟨h0,xs,us,g1,g2,g3,g4⟩:=hfr.mem s _ hb'
     have g1':xx.ev η=some (.l sz xs):=g1
     simp only [Ap] at hr
     obtain ⟨ee',sz',xx',ro',xs',kk,iv,r1,r2,r3,r4,r5,had⟩:=hr
     have r1':mget σ.m s=some (.arr ee' sz' xx' ro'):=r1
     rw [hb] at r1'
     injection r1' with r1'
     injection r1' with q1 q2 q3 q4
     subst q1;subst q2;subst q3;subst q4
     have r2':xx.ev η=some (.l sz xs'):=r2
     rw [g1'] at r2'
     injection r2' with r2'
     injection r2' with _ r2'
     subst r2'
     have r3':i.ev η=some (.i kk iv):=r3
     have hpl:ps.length=vs.length:=by rw [k2];exact (c4.length).symm
     have hq':=hq
     simp only [E.ev,g1',r3',k1,Ax,Qm,true_and,if_pos r4] at hq'
     have hxi:xs[iv.toNat]? =some (xs[iv.toNat]'r5):=Ay r5
     rw [hxi] at hq'
     simp only [Ax,Aw] at hq'
     obtain ⟨y',hy',rfl⟩:=hq'
     obtain ⟨m1,m2⟩:=g3 _ _ hxi
     have hel:y'.cells.length=sz∧off+ps.length≤sz∧∀(j:Nat) (c:PV),y'.cells[j]? =some c→(off≤j∧j<off+ps.length∧ps[j - off]? =some c)∨((j<off∨off+ps.length≤j)∧(xs[iv.toNat]'r5).cells[j]? =some c):=by
      generalize xs[iv.toNat]'r5=x0 at hy' m1 m2
      have sc:∀(cs:List PV) (off:Nat) (l:List PV),off+l.length≤cs.length→(setCells cs off l).length=cs.length∧∀(j:Nat) (c:PV),(setCells cs off l)[j]? =some c→(off≤j∧j<off+l.length∧l[j - off]? =some c)∨((j<off∨off+l.length≤j)∧cs[j]? =some c):=by
       intro cs off l
       induction l generalizing cs off with
       |nil=>intro _;exact ⟨rfl,fun j c hc=> .inr ⟨by simp;omega,hc⟩⟩
       |cons d l ih=>
        intro hl
        simp only [setCells]
        obtain ⟨i1,i2⟩:=ih (cs.set off d) (off+1) (by simp at hl ⊢;omega)
        refine ⟨by simpa using i1,fun j c hc=> ?_⟩
        rcases i2 j c hc with ⟨a1,a2,a3⟩|⟨a1,a2⟩
        ·refine .inl ⟨by omega,by simp;omega,?_⟩
         have:j - off=(j - (off+1))+1:=by omega
         rw [this,C7];exact a3
        ·rw [C0] at a2
         split at a2
         ·rename_i hj
          split at a2
          ·injection a2 with a2;subst a2
           refine .inl ⟨by omega,by simp;omega,?_⟩
           have:j - off=0:=by omega
           rw [this];rfl
          ·cases a2
         ·rename_i hj
          refine .inr ⟨?_,a2⟩
          simp only [As]
          omega
      unfold N6 at hy'
      split at hy'
      ·rename_i cs0
       split at hy'
       ·rename_i hle
        injection hy' with hy';subst hy'
        obtain ⟨s1,s2⟩:=sc cs0 off ps hle
        exact ⟨by show (setCells cs0 off ps).length=_;rw [s1];exact m1,by have:cs0.length=sz:=m1;omega,s2⟩
       ·cases hy'
      ·rename_i p0 _
       split at hy'
       ·rename_i hsc
        split at hy'
        ·rename_i v0
         split at hy'
         ·rename_i hv0
          injection hy' with hy';subst hy'
          rw [PV.scal_cells hsc] at m1
          rw [PV.scal_cells hv0]
          refine ⟨m1,by have h1:(1:Nat)=sz:=m1;simp;omega,fun j c hc=> .inl ?_⟩
          cases j with
          |zero=>simp at hc;subst hc;exact ⟨Ac _,by simp,rfl⟩
          |succ j=>simp at hc
         ·cases hy'
        ·cases hy'
       ·cases hy'
     obtain ⟨e1,e2,e3⟩:=hel
     obtain ⟨g,cap,cur,b1,b1c,b2,b3,b4,b5,b6,b7⟩:∃g cap cur,hv s= .slice (some ⟨g,0,none⟩) xs.length cap∧0<cap∧w0.ok g∧w.heap[g]? =some (.cells cur ee (0,0))∧xs.length≤cap∧cap≤maxLen∧cur.size=cap*sz∧cur.toList.take (xs.length*sz)=us:=by
      rcases g2.2 with ⟨_,_,hn⟩|hh
      ·omega
      ·exact hh
     have hown:B5 (hv s)=some g:=by rw [b1];simp only [B5,if_neg (show¬cap=0 by omega)]
     obtain ⟨hg,lim,l1,l2,l3⟩:=g4 g hown
     have hg':g=β s:=hg
     subst hg'
     have hlim:O' (β s)=some 0:=by rw [l1,l3 rfl]
     have hpos:iv.toNat*sz+off+ps.length≤xs.length*sz:=by
      have:(iv.toNat+1)*sz≤xs.length*sz:=Bz _ (by omega)
      rw [B7,Fz] at this;omega
     have hcap:xs.length*sz≤cap*sz:=Bz _ b4
     have hvcs:(a.eval y).cells.size=ps.length:=by rw [k2];simp
     have ht0:Ag P t=0→ps=[]:=fun h=>Bv (by omega)
     let row:List Value:=cur.toList.take (iv.toNat*sz+off)++(a.eval y).cells.toList++cur.toList.drop (iv.toNat*sz+off+(a.eval y).cells.size)
     have hrow:row.length=cur.size:=by
      simp only [row,Az,Al,Bs,Bn]
      omega
     have hget:∀j,row[j]? =if j<iv.toNat*sz+off then cur[j]? else if j<iv.toNat*sz+off+ps.length then (a.eval y).cells[j - (iv.toNat*sz+off)]? else cur[j]? :=by
      intro j
      simp only [row]
      have t1:(cur.toList.take (iv.toNat*sz+off)).length=iv.toNat*sz+off:=by simp;omega
      by_cases hj:j<iv.toNat*sz+off
      ·rw [if_pos hj,Ar,A8 (by rw [t1];exact hj),Bb,if_pos hj,Ad]
      ·rw [if_neg hj]
       by_cases hj2:j<iv.toNat*sz+off+ps.length
       ·rw [if_pos hj2,Ar,A5 (by rw [t1];omega),t1,A8 (by simp;omega),Ad]
       ·rw [if_neg hj2,A5 (by simp only [Az,t1,Bn];omega)]
        simp only [Az,t1,Bn,A4,Ad]
        congr 1;omega
     have fin:∀w',(execOp a.eval o).run P w= .ok .skip w'→w'.heap.size=w.heap.size→(∀c,c≠β s→w'.heap[c]? =w.heap[c]?)→w'.heap[β s]? =some (.cells row.toArray ee (0,0))→Bel w0 w'→Db P o a w (Fs w0 Oe η σ a.tmps ⟨H5 (Ks ss σ.m) s (.arr ee sz (.set sz xx i off es) false),σ.n,none⟩ .und):=by
      intro w' hrun hws hwo hwb hbel
      refine .inr (.inl ⟨w',hrun,β,hv,O',?_,by simp only [Ap]⟩)
      have hput:=hfr.put (w':=w') (s:=s) (b0:= .arr ee sz xx false) (b:= .arr ee sz (.set sz xx i off es) false) (n:=σ.n) hb' hown hlim hbel hws hwo
       (fun e2 sz2 x2 ro2 xs2 hh hxx=>by
        cases hh
        rw [g1'] at hxx
        injection hxx with hxx
        injection hxx with _ hxx
        subst hxx
        exact ⟨ee,_,false,xs.set iv.toNat y',rfl,hq,by simp⟩) ?_
      ·exact hput
      ·have hM':(Bg w O').Le (Bg w' O'):=Gy (fun c _ hc=>hwo c (fun e=>by subst e;exact absurd (hc 0 hlim) (by omega))) (fun c _ lim hl=>⟨lim,hl,Ac _⟩) (fun c _ hn=>hn)
       refine ⟨h0,xs.set iv.toNat y',row.take (xs.length*sz),hq,?_,?_,fun g' hg'=> ?_⟩
       ·have b1':hv s= .slice (some ⟨β s,0,none⟩) xs.length cap:=b1
        show Own w' w0.ok ee sz (hv s) (xs.set iv.toNat y').length _
        rw [I6,b1']
        refine ⟨by rw [Al,hrow];omega, .inr ⟨β s,cap,row.toArray,rfl,b1c,b2,hwb,b4,b5,by simp [hrow,b6],by simp⟩⟩
       ·intro j z hz
        rw [C0] at hz
        split at hz
        ·rename_i hj
         injection hz with hz;subst hz
         refine ⟨e1,fun k c hc=> ?_⟩
         have hk':k<sz:=by rw [←e1];exact (Ak.1 hc).1
         have hlt:j*sz+k<xs.length*sz:=by
          have:(j+1)*sz≤xs.length*sz:=Bz _ (by omega)
          rw [B7,Fz] at this;omega
         rw [Bb,if_pos hlt,hget]
         subst hj
         rcases e3 k c hc with ⟨a1,a2,a3⟩|⟨a1,a2⟩
         ·rw [if_neg (by omega),if_pos (by omega)]
          have hk2:iv.toNat*sz+k - (iv.toNat*sz+off)=k - off:=by omega
          rw [hk2]
          have hkl:k - off<(a.eval y).cells.toList.length:=by rw [←k2];exact (Ak.1 a3).1
          refine ⟨(a.eval y).cells.toList[k - off],by rw [←Ad];exact Ay hkl,c3 _ (Dh hkl),?_⟩
          exact (k3 _ _ _ a3 (Ay hkl)).mono hM'
         ·obtain ⟨u,u1,u2,u3⟩:=m2 k c a2
          refine ⟨u,?_,u2,u3.mono hM'⟩
          rw [←b7,Bb,if_pos hlt,Ad] at u1
          rcases a1 with a1|a1
          ·rw [if_pos (by omega)];exact u1
          ·rw [if_neg (by omega),if_neg (by omega)];exact u1
        ·rename_i hj
         obtain ⟨n1,n2⟩:=g3 j z hz
         refine ⟨n1,fun k c hc=> ?_⟩
         obtain ⟨u,u1,u2,u3⟩:=n2 k c hc
         refine ⟨u,?_,u2,u3.mono hM'⟩
         have hk':k<sz:=by rw [←n1];exact (Ak.1 hc).1
         rw [←b7,Bb] at u1
         split at u1
         ·rename_i hlt
          rw [Bb,if_pos hlt,hget]
          rw [Ad] at u1
          rcases Nat.lt_or_ge j iv.toNat with hji|hji
          ·have:(j+1)*sz≤iv.toNat*sz:=Bz _ (by omega)
           rw [B7,Fz] at this
           rw [if_pos (by omega)];exact u1
          ·have:(iv.toNat+1)*sz≤j*sz:=Bz _ (by omega)
           rw [B7,Fz] at this
           rw [if_neg (by omega),if_neg (by omega)];exact u1
         ·cases u1
       ·have:g'=β s:=by
         have hg'':B5 (hv s)=some g':=hg'
         rw [hown] at hg'';injection hg'' with hg'';exact hg''.symm
        subst this
        exact ⟨rfl,0,hlim,C4 _,fun _=>rfl⟩
     by_cases h00:Ag P t=0
     ·have hps:=ht0 h00
      subst hps
      have hvc:(a.eval y).cells= #[]:=Array.eq_empty_of_size_eq_zero (by rw [hvcs];rfl)
      have hti:∃i,P.info? t=some i:=by
       cases hi:P.info? t with
       |some i=>exact ⟨i,rfl⟩
       |none=>
        exfalso
        unfold cellsOf at hc
        have hu:P.underlying t=none:=by simp [Program.underlying,hi]
        simp [J7,hu,h00] at hc
      obtain ⟨ti,hti⟩:=hti
      have hs0:ti.size=0:=by simpa [Ag,hti] using h00
      refine fin w (by simp [execOp,ho,Instr.storeAt,Instr.sureAddr,had,storeVar,sizeOf,typeInfo,hti,hs0,hvc,storeCells]) rfl (fun _ _=>rfl) ?_ h.bel
      have:row=cur.toList:=by simp [row,hvc]
      rw [this];simpa using b3
     ·refine fin _ (Yv (v:=a.eval y) ho had rfl b3 c1 h00 c3 (by omega)) (by simp) (fun c hc=>setRow_other w (β s) c _ hc) (setRow_heap w (β s) cur _ ee (0,0) b3) (Kc h.bel b2 _)
   ·cases hs
  ·cases hs
end
end Go.X
/- Operations, third part: indexes, slices, conversions, lengths. -/
namespace Go.X
open Go Go.RowKit
section
variable {P:Program} {w0:Fr} {Oe:Nat→Option Nat} {η:List PV} {σ:St} {a:Act} {w:World} {β:Nat→Nat} {hv:Nat→Value} {O:Nat→Option Nat} {G:Option E} {o:Oper} {ws:List W}
theorem Y6 {t:TypeId} {x i:Operand} {ex ei:E} (ho:o.op= .index t x i) (ht:P.underlying t=some .string) (h:Rel w0 Oe η σ a.tmps w β hv O) (hG:GOk η G) (hx:Fv P σ G 0 x=some ex) (hi:Fv P σ G 0 i=some ei)
  (hk:Chk η [F0 G (.sidx ex ei)]):Db P o a w (Fs w0 Oe η σ a.tmps (Fb σ) (.e (.sidx ex ei))):=by
 obtain ⟨r,hr⟩:=hk.g1 hG
 obtain ⟨p,hp,hpr⟩:=Dq (ds:=a.defers) (C:=⟨η,Bg w O,β,hv,σ.m⟩) hG rfl hx h.tmps
 obtain ⟨q,hq,hqr⟩:=Dq (ds:=a.defers) (C:=⟨η,Bg w O,β,hv,σ.m⟩) hG rfl hi h.tmps
 have hr':=hr
 simp only [E.ev,hp,hq,Ax] at hr'
 unfold Ql at hr'
 split at hr'
 ·rename_i s k n
  split at hr'
  ·rename_i hn
   obtain ⟨c,hc,rfl⟩:=Aw.1 hr'
   obtain ⟨y,hy,hyd⟩:=hpr.str
   have h1:a.eval x= .string y:=hy
   have h2:a.eval i= .int k n:=hqr.int
   have hlt:n.toNat<y.data.toList.length:=by rw [hyd];exact (Ak.1 hc).1
   have hlt':n.toNat<y.size:=by rw [Bn] at hlt;exact hlt
   have hyc:y[n.toNat]'hlt'=c:=by
    have:y.data.toList[n.toNat]? =some c:=by rw [hyd];exact hc
    rw [Ay hlt] at this
    injection this with this
   refine Db.value (v:= .int .u8 c.toNat) (w':=w) ?_ (.keep h ?_)
   ·have hnl:n<(y.size:Int):=by omega
    have hi':(if 0≤n then y[n.toNat]? else none)=some c:=by
     rw [if_pos hn,getElem?_pos y n.toNat hlt',hyc]
    simp only [execOp,ho,Instr.index,h1,h2,asIntOf,Sem.run_bind,Sem.run_pure,run_underlying ht,Result.andThen,hi']
   ·simp only [Ap];exact ⟨_,hr, .i _ _⟩
  ·cases hr'
 ·cases hr'
theorem Y8 {t e:TypeId} {x i:Operand} {sv:SV} {y ei:E} (ho:o.op= .indexAddr t x i) (ht:P.underlying t=some (.slice e)) (hz:Ag P e≠0) (h:Rel w0 Oe η σ a.tmps w β hv O) (hG:GOk η G) (hx:opd P σ G 0 x=some sv) (hy:sv.asE=some y)
  (hi:Fv P σ G 0 i=some ei) (hk:Chk η [F0 G (.idx (Ag P e) y ei)]):Db P o a w (Fs w0 Oe η σ a.tmps (Fb σ) (.ip (.idx (Ag P e) y ei) 0)):=by
 obtain ⟨r,hr⟩:=hk.g1 hG
 obtain ⟨p,hp,hpr⟩:=SV.asE_ok hy (D8 (ds:=a.defers) (C:=⟨η,Bg w O,β,hv,σ.m⟩) hG rfl hx h.tmps)
 obtain ⟨q,hq,hqr⟩:=Dq (ds:=a.defers) (C:=⟨η,Bg w O,β,hv,σ.m⟩) hG rfl hi h.tmps
 have hp':y.ev η=some p:=hp
 have hr':=hr
 simp only [E.ev,hp',hq,Ax] at hr'
 unfold Hh at hr'
 split at hr'
 ·rename_i sz xs k n
  split at hr'
  ·rename_i hsz
   subst hsz
   split at hr'
   ·rename_i hn
    have h2:a.eval i= .int k n:=hqr.int
    have hlt:=(Ak.1 hr').1
    generalize hv1:a.eval x=v1
    have hpr':Rep (Bg w O) (.l (Ag P e) xs) v1:=by rw [←hv1];exact hpr
    cases hpr' with
    |l _ _ base cap ad el hc hb hs hM h1 hh=>
     have hbase:base=some ad:=hb (fun e=>by subst e;simp at hlt)
     subst hbase
     have hnl:n<(xs.length:Int):=by omega
     refine Db.value (v:= .pointer (some (ad.add (n.toNat*Ag P e)))) (w':=w) ?_ (.keep h ?_)
     ·simp [execOp,ho,Instr.indexAt,hv1,h2,asIntOf,run_underlying ht,hn,hnl,Eg (P:=P) (w:=w) rfl hz]
     ·simp only [Ap,D3]
      refine ⟨r,hr,_,fun j=>el n.toNat j,rfl,fun j c hc=> ?_,fun j c hc=>h1 _ _ _ _ hr' hc,fun j c hc=>hh _ _ _ _ hr' hc⟩
      rw [Addr.add_add];exact hM _ _ _ _ hr' hc
   ·cases hr'
  ·cases hr'
 ·cases hr'
theorem V0 {t e e':TypeId} {x i:Operand} {s sz:Nat} {y ei:E} {ro:Bool} (ho:o.op= .indexAddr t x i) (ht:P.underlying t=some (.slice e)) (hsz:sz=Ag P e) (h:Rel w0 Oe η σ a.tmps w β hv O) (hG:GOk η G) (hx:opd P σ G 0 x=some (.h s)) (hb:mget σ.m s=some (.arr e' sz y ro))
  (hi:Fv P σ G 0 i=some ei) (hk:Chk η [F0 G (.idx sz y ei)]):Db P o a w (Fs w0 Oe η σ a.tmps (Fb σ) (.ap s ei 0)):=by
 obtain ⟨r,hr⟩:=hk.g1 hG
 have hrx:=D8 (ds:=a.defers) (C:=⟨η,Bg w O,β,hv,σ.m⟩) hG rfl hx h.tmps
 simp only [Ap] at hrx
 have hx1:a.eval x=hv s:=hrx
 obtain ⟨q,hq,hqr⟩:=Dq (ds:=a.defers) (C:=⟨η,Bg w O,β,hv,σ.m⟩) hG rfl hi h.tmps
 obtain ⟨h0,xs,vs,g1,g2,g3,g4⟩:=h.mem s _ hb
 have g1':y.ev η=some (.l sz xs):=g1
 have hr':=hr
 simp only [E.ev,g1',hq,Ax] at hr'
 unfold Hh at hr'
 split at hr'
 ·rename_i sz' xs' k n heq
  injection heq with heq1 heq2
  subst heq1;subst heq2
  rw [if_pos rfl] at hr'
  split at hr'
  ·rename_i hn
   have h2:a.eval i= .int k n:=hqr.int
   have hlt:=(Ak.1 hr').1
   have hnl:n<(xs.length:Int):=by omega
   rcases g2.2 with ⟨_,_,hn0⟩|⟨g,cap,cur,e1,e1c,_⟩
   ·omega
   ·have e1':hv s= .slice (some ⟨g,0,none⟩) xs.length cap:=e1
    have hg:=(g4 g (by show B5 (hv s)=_;rw [e1'];simp only [B5,if_neg (show¬cap=0 by omega)])).1
    have hg':g=β s:=hg
    subst hg'
    refine Db.value (v:= .pointer (some ⟨β s,n.toNat*sz,none⟩)) (w':=w) ?_ (.keep h ?_)
    ·have hz:Ag P e≠0:=by omega
     simp [execOp,ho,Instr.indexAt,hx1,e1',h2,asIntOf,run_underlying ht,hn,hnl,Eg (P:=P) (w:=w) hsz.symm (by omega),add_lit]
    ·simp only [Ap]
     exact ⟨e',sz,y,ro,xs,k,n,hb,g1',hq,hn,by omega,by simp⟩
  ·cases hr'
 ·cases hr'
theorem Vt {t e e':TypeId} {x i:Operand} {s sz:Nat} {y i0 ei:E} {ro:Bool} (ho:o.op= .indexAddr t x i) (ht:P.underlying t=some (.slice e)) (hsz:sz=Ag P e) (h:Rel w0 Oe η σ a.tmps w β hv O) (hG:GOk η G) (hx:opd P σ G 0 x=some (.suf s i0)) (hb:mget σ.m s=some (.arr e' sz y ro))
  (hi:Fv P σ G 0 i=some ei) (hk:Chk η [F0 G (.idx sz (.lsl sz y i0 (.len y)) ei),F0 G (.bin .add i0 ei),F0 G (.bin .add i0 (.c (.i .i64 0)))]):Db P o a w (Fs w0 Oe η σ a.tmps (Fb σ) (.ap s (.bin .add i0 ei) 0)):=by
 obtain ⟨r,hr⟩:=Chk.g1 (x:= .idx sz (.lsl sz y i0 (.len y)) ei) (fun z hz=>hk z (by simp at hz ⊢;exact .inl hz)) hG
 obtain ⟨q2,hq2⟩:=Chk.g1 (x:= .bin .add i0 ei) (fun z hz=>hk z (by simp at hz ⊢;exact .inr (.inl hz))) hG
 obtain ⟨q3,hq3⟩:=Chk.g1 (x:= .bin .add i0 (.c (.i .i64 0))) (fun z hz=>hk z (by simp at hz ⊢;exact .inr (.inr hz))) hG
 have hrx:=D8 (ds:=a.defers) (C:=⟨η,Bg w O,β,hv,σ.m⟩) hG rfl hx h.tmps
 simp only [Ap] at hrx
 obtain ⟨e2,sz2,x2,ro2,xs,k,iv,h1,h2,h3,h4,h5,h6⟩:=hrx
 rw [hb] at h1
 injection h1 with h1
 injection h1 with _ j1 j2 _
 subst j1;subst j2
 have h6':a.eval x=Av2 sz iv.toNat (hv s):=h6
 obtain ⟨q,hq,hqr⟩:=Dq (ds:=a.defers) (C:=⟨η,Bg w O,β,hv,σ.m⟩) hG rfl hi h.tmps
 obtain ⟨h0,xs',vs,g1,g2,g3,g4⟩:=h.mem s _ hb
 have g1':y.ev η=some (.l sz xs'):=g1
 have h2':=h2
 rw [g1'] at h2'
 injection h2' with h2'
 injection h2' with _ h2'
 subst h2'
 have hlen:(E.len y).ev η=some (.i .i64 (xs'.length:Int)):=by simp only [E.ev,g1',Ax,Gq]
 have hr':=hr
 have h3':i0.ev η=some (.i k iv):=h3
 simp only [E.ev,g1',h3',hq,Ax,Gq,Ht,if_true] at hr'
 rw [if_pos ⟨h4,by omega,Ib1 _⟩] at hr'
 simp only [Ax] at hr'
 unfold Hh at hr'
 split at hr'
 ·rename_i sz' zs k2 n heq
  injection heq with heq1 heq2
  subst heq1;subst heq2
  rw [if_pos rfl] at hr'
  split at hr'
  ·rename_i hn
   have hlt:=(Ak.1 hr').1
   simp only [Bs,Al,Gf] at hlt
   have hi2:a.eval i= .int k2 n:=hqr.int
   rcases g2.2 with ⟨_,_,hn0⟩|⟨g,cap,cur,e1,e1c,_,_,e5,e6,_⟩
   ·omega
   ·have e1':hv s= .slice (some ⟨g,0,none⟩) xs'.length cap:=e1
    have hg:=(g4 g (by show B5 (hv s)=_;rw [e1'];simp only [B5,if_neg (show¬cap=0 by omega)])).1
    have hg':g=β s:=hg
    subst hg'
    rw [e1'] at h6'
    simp only [Av2] at h6'
    rw [if_neg (by omega)] at h6'
    simp only [A0] at h6'
    have hnl:n<((xs'.length - iv.toNat:Nat):Int):=by omega
    have hq2':=hq2
    simp only [E.ev,h3',hq,Ax,X.bin] at hq2'
    split at hq2'
    ·rename_i hkk
     subst hkk
     simp only [Fc,Option.some.injEq] at hq2'
     have hk64:k= .i64:=by
      simp only [E.ev,h3',Ax,X.bin] at hq3
      split at hq3
      ·assumption
      ·cases hq3
     subst hk64
     have hmx:xs'.length≤maxLen:=Dy e5 e6
     have hw:IntKind.i64.wrap (iv+n)=iv+n:=IntWalk.i64_in _ ⟨by omega,by simp only [maxLen] at hmx;omega⟩
     rw [hw] at hq2'
     refine Db.value (v:= .pointer (some ⟨β s,(iv+n).toNat*sz,none⟩)) (w':=w) ?_ (.keep h ?_)
     ·have hz:Ag P e≠0:=by omega
      have ha:((⟨β s,0,none⟩:Addr).add (iv.toNat*sz)).add (n.toNat*sz)=⟨β s,(iv+n).toNat*sz,none⟩:=by
       have ht2:(iv+n).toNat=iv.toNat+n.toNat:=by omega
       rw [Addr.add_add,add_lit,ht2,B7,Ek]
      have ha':((⟨β s,0,none⟩:Addr).add (iv.toNat*Ag P e)).add (n.toNat*Ag P e)=⟨β s,(iv+n).toNat*sz,none⟩:=by rw [←hsz];exact ha
      simp [execOp,ho,Instr.indexAt,h6',hi2,asIntOf,run_underlying ht,hn,hnl,Eg (P:=P) (w:=w) hsz.symm (by omega),hsz,ha']
     ·simp only [Ap]
      exact ⟨e',sz,y,ro,xs', .i64,iv+n,hb,g1',by simp only [E.ev,h3',hq,Ax,X.bin,if_true,Fc,hw],by omega,by omega,by simp⟩
    ·cases hq2'
  ·cases hr'
 ·cases hr'
theorem Dn0 {c:Call} {x:Operand} {t:TypeId} {sv r:SV} (ho:o.op= .call c) (hc:c.callee= .builtin .cap) (ha:c.args.toList=[x]) (ht1:c.argTypes[0]? =some t) (h:Rel w0 Oe η σ a.tmps w β hv O) (hG:GOk η G) (hx:opd P σ G t x=some sv) (hsv:(∃n,sv= .nil n)∨∃n y,sv= .lit n y) (hl:gv P σ G t sv=some (ws,r)) (hk:Chk η ws):
  Db P o a w (Fs w0 Oe η σ a.tmps (Fb σ) r):=by
 have hr:=D8 (ds:=a.defers) (C:=⟨η,Bg w O,β,hv,σ.m⟩) hG rfl hx h.tmps
 have hargs:c.args= #[x]:=by rw [←Cd (xs:=c.args),ha]
 have slice:∀(b:Option Addr) (n cap:Nat) (e:TypeId),P.underlying t=some (.slice e)→a.eval x= .slice b n cap→(execOp a.eval o).run P w= .ok (.value (.int .i64 cap)) w:=by
  intro b n cap e hu hv1
  simp [execOp,ho,resolve,hc,hargs,invoke,builtin,Builtin.cap_,ht1,run_underlying hu,hv1,goInt]
 unfold gv at hl
 split at hl
 ·rename_i e hu
  rcases hsv with ⟨n,rfl⟩|⟨n,y,rfl⟩
  ·simp only [Option.some.injEq,Prod.mk.injEq] at hl
   obtain ⟨rfl,rfl⟩:=hl
   simp only [Ap] at hr
   refine Db.value (slice _ _ _ e hu hr) (.keep h ?_)
   simp only [Ap,E.ev];exact ⟨_,rfl, .i _ _⟩
  ·simp only [SV.asE,A0,Option.some.injEq,Prod.mk.injEq] at hl
   obtain ⟨rfl,rfl⟩:=hl
   simp only [Ap] at hr
   obtain ⟨xs,b,hy,hv1,hrep⟩:=hr
   have hy':y.ev η=some (.l n xs):=hy
   refine Db.value (slice _ _ _ e hu hv1) (.keep h ?_)
   simp only [Ap,E.ev,hy',Ax,Gq];exact ⟨_,rfl, .i _ _⟩
 ·rcases hsv with ⟨n,rfl⟩|⟨n,y,rfl⟩<;>simp at hl
 ·cases hl
theorem Gh2 {c:Call} {x:Operand} {t:TypeId} {sv r:SV} (ho:o.op= .call c) (hc:c.callee= .builtin .len) (ha:c.args.toList=[x]) (ht1:c.argTypes[0]? =some t) (h:Rel w0 Oe η σ a.tmps w β hv O) (hG:GOk η G) (hx:opd P σ G t x=some sv) (hl:gv P σ G t sv=some (ws,r)) (hk:Chk η ws):
  Db P o a w (Fs w0 Oe η σ a.tmps (Fb σ) r):=by
 have hr:=D8 (ds:=a.defers) (C:=⟨η,Bg w O,β,hv,σ.m⟩) hG rfl hx h.tmps
 have hargs:c.args= #[x]:=by rw [←Cd (xs:=c.args),ha]
 have slice:∀(b:Option Addr) (n cap:Nat) (e:TypeId),P.underlying t=some (.slice e)→a.eval x= .slice b n cap→(execOp a.eval o).run P w= .ok (.value (.int .i64 n)) w:=by
  intro b n cap e hu hv1
  simp [execOp,ho,resolve,hc,hargs,invoke,builtin,Builtin.len_,ht1,run_underlying hu,hv1,goInt]
 have str:∀(s:ByteArray),P.underlying t=some .string→a.eval x= .string s→(execOp a.eval o).run P w= .ok (.value (.int .i64 s.size)) w:=by
  intro s hu hv1
  simp [execOp,ho,resolve,hc,hargs,invoke,builtin,Builtin.len_,ht1,run_underlying hu,hv1,goInt]
 unfold gv at hl
 split at hl
 ·rename_i e hu
  split at hl
  ·simp only [Option.some.injEq,Prod.mk.injEq] at hl
   obtain ⟨rfl,rfl⟩:=hl
   simp only [Ap] at hr
   refine Db.value (slice _ _ _ e hu hr) (.keep h ?_)
   simp only [Ap,E.ev];exact ⟨_,rfl, .i _ _⟩
  ·rename_i s
   split at hl
   ·rename_i e' sz y ro hb
    simp only [Option.some.injEq,Prod.mk.injEq] at hl
    obtain ⟨rfl,rfl⟩:=hl
    simp only [Ap] at hr
    obtain ⟨h0,xs,vs,g1,g2,g3,g4⟩:=h.mem s _ hb
    have g1':y.ev η=some (.l sz xs):=g1
    have hr1:a.eval x=hv s:=hr
    have:∃b cap,hv s= .slice b xs.length cap:=by
     rcases g2.2 with ⟨b,e1,e2⟩|⟨g,cap,cur,e1,_⟩
     ·exact ⟨b,0,by rw [e2];exact e1⟩
     ·exact ⟨_,cap,e1⟩
    obtain ⟨b,cap,hbc⟩:=this
    refine Db.value (slice _ _ _ e hu (hr1.trans hbc)) (.keep h ?_)
    simp only [Ap,E.ev,g1',Ax,Gq]
    exact ⟨_,rfl, .i _ _⟩
   ·cases hl
  ·rename_i s i
   split at hl
   ·rename_i e' sz y ro hb
    simp only [Option.some.injEq,Prod.mk.injEq] at hl
    obtain ⟨rfl,rfl⟩:=hl
    simp only [Ap] at hr
    obtain ⟨e2,sz2,x2,ro2,xs,k,iv,h1,h2,h3,h4,h5,h6⟩:=hr
    rw [hb] at h1
    injection h1 with h1
    injection h1 with _ j1 j2 _
    subst j1;subst j2
    obtain ⟨h0,xs',vs,g1,g2,g3,g4⟩:=h.mem s _ hb
    have g1':y.ev η=some (.l sz xs'):=g1
    rw [h2] at g1'
    injection g1' with g1'
    injection g1' with _ g1'
    subst g1'
    have:∃b cap,hv s= .slice b xs.length cap∧xs.length≤maxLen:=by
     rcases g2.2 with ⟨b,e1,e2⟩|⟨g,cap,cur,e1,_,_,_,e5,e6,_⟩
     ·exact ⟨b,0,by rw [e2];exact e1,by rw [e2];exact C4 _⟩
     ·exact ⟨_,cap,e1,Dy e5 e6⟩
    obtain ⟨b,cap,hbc,hmx⟩:=this
    have hr1:a.eval x=Av2 sz iv.toNat (hv s):=h6
    rw [hbc] at hr1
    simp only [Av2] at hr1
    obtain ⟨q,hq⟩:=hk.g1 hG
    have hq':=hq
    simp only [E.ev,h2,h3,Ax,Gq] at hq'
    simp only [X.bin] at hq'
    split at hq'
    ·rename_i hk64
     subst hk64
     simp only [Fc,Option.some.injEq] at hq'
     refine Db.value (slice _ _ _ e hu hr1) (.keep h ?_)
     simp only [Ap]
     refine ⟨q,hq,?_⟩
     have hw:IntKind.i64.wrap ((xs.length:Int) - iv)=((xs.length - iv.toNat:Nat):Int):=by
      rw [IntWalk.i64_in _ ⟨by omega,by simp only [maxLen] at hmx;omega⟩]
      omega
     rw [←hq',hw]
     exact .i _ _
    ·cases hq'
   ·cases hl
  ·rename_i sv' _ _ _
   obtain ⟨y,hy,he⟩:=Aw.1 hl
   simp only [Prod.mk.injEq] at he
   obtain ⟨rfl,rfl⟩:=he
   obtain ⟨p,hp,hpr⟩:=SV.asE_ok hy hr
   have hp':y.ev η=some p:=hp
   obtain ⟨q,hq⟩:=hk.g1 hG
   simp only [E.ev,hp',Ax] at hq
   unfold Gq at hq
   split at hq
   ·rename_i sz xs
    generalize hv1:a.eval x=v1
    have hpr':Rep (Bg w O) (.l sz xs) v1:=by rw [←hv1];exact hpr
    cases hpr' with
    |l _ _ base cap ad el _ _ _ _ _ _=>
     refine Db.value (slice _ _ _ e hu hv1) (.keep h ?_)
     simp only [Ap,E.ev,hp',Ax,Gq]
     exact ⟨_,rfl, .i _ _⟩
   ·cases hq
 ·rename_i hu
  split at hl
  ·rename_i y
   simp only [Option.some.injEq,Prod.mk.injEq] at hl
   obtain ⟨rfl,rfl⟩:=hl
   simp only [Ap] at hr
   obtain ⟨p,hp,hpr⟩:=hr
   have hp':y.ev η=some p:=hp
   obtain ⟨q,hq⟩:=hk.g1 hG
   simp only [E.ev,hp',Ax] at hq
   unfold Ot at hq
   split at hq
   ·rename_i s
    obtain ⟨z,hz,hzd⟩:=hpr.str
    refine Db.value (str z hu hz) (.keep h ?_)
    simp only [Ap,E.ev,hp',Ax,Ot]
    refine ⟨_,rfl,?_⟩
    have:z.size=s.length:=by rw [←hzd,Bn];rfl
    rw [this];exact .i _ _
   ·cases hq
  ·cases hl
 ·cases hl
end
end Go.X
/- Operations, fourth part: parts of structs and arrays, minima, slices, conversions. -/
namespace Go.X
open Go Go.RowKit
section
variable {P:Program} {w0:Fr} {Oe:Nat→Option Nat} {η:List PV} {σ:St} {a:Act} {w:World} {β:Nat→Nat} {hv:Nat→Value} {O:Nat→Option Nat} {G:Option E} {o:Oper} {ws:List W}
theorem A7.part {C:Cx} {cs:List SV} {vs:List Value} (h:A7 C cs vs) (off n:Nat):A7 C ((cs.drop off).take n) ((vs.drop off).take n):=by
 have hlen:=h.length
 refine A7.mk (by simp [hlen]) fun j y u hy hu=> ?_
 rw [Bb] at hy hu
 split at hy
 ·rename_i hj;rw [if_pos hj] at hu
  rw [A4] at hy hu
  obtain ⟨u',hu',hr'⟩:=h.get _ y hy
  rw [hu] at hu';injection hu' with hu';subst hu';exact hr'
 ·cases hy
theorem Dz9 {y:E} (hy:y.isAgg=true) {p:PV} (hp:y.ev η=some p):∃cs,p= .a cs:=by
 cases y<;>simp only [E.isAgg,Ab] at hy
 ·simp only [E.ev,Aj] at hp
  obtain ⟨q,_,hp⟩:=hp
  split at hp
  ·injection hp with hp;exact ⟨_,hp.symm⟩
  ·cases hp
 ·simp only [E.ev,Aw] at hp
  obtain ⟨q,_,hp⟩:=hp
  exact ⟨_,hp.symm⟩
 ·simp only [E.ev,Aj] at hp
  obtain ⟨q,_,hp⟩:=hp
  split at hp
  ·split at hp
   ·injection hp with hp;exact ⟨_,hp.symm⟩
   ·cases hp
  ·cases hp
theorem Qz {t:TypeId} (hu:(P.underlying t).isSome):(P.info? t).isSome:=by
 obtain ⟨d,hd⟩:=Cq.1 hu
 exact Nt hd
theorem Ar0 {C:Cx} (hC:C.η=η) {n off:Nat} {ft:TypeId} {sv r:SV} {v:Value} (hG:GOk η G) (hp:Ty P G n off ft sv=some (ws,r)) (hk:Chk η ws) (hr:Ap C sv v):
  ∃vs u,v= .agg vs∧(part ft vs off).run P w= .ok u w∧Ap C r u:=by
 subst hC
 unfold Ty at hp
 split at hp
 ·cases hp
 ·rename_i hun
  have hun':(P.underlying ft).isSome=true:=by cases hh:P.underlying ft<;>simp_all
  split at hp
  ·rename_i y
   simp only [Option.some.injEq,Prod.mk.injEq] at hp
   obtain ⟨rfl,rfl⟩:=hp
   simp only [Ap] at hr
   obtain ⟨p,hp,hpr⟩:=hr
   have hcs:∃cs,p= .a cs:=by
    by_cases hy:y.isAgg=true
    ·exact Dz9 hy hp
    ·obtain ⟨q,hq⟩:=hk.g (x:= .fit n y) hG (by simp [hy])
     simp only [E.ev,hp,Ax] at hq
     split at hq
     ·exact ⟨_,rfl⟩
     ·cases hq
   obtain ⟨cs,rfl⟩:=hcs
   cases hpr with
   |a _ vs hl h1 h=>
    obtain ⟨q,hq⟩:=hk.g (x:=if J7 P ft then E.sub off (Ag P ft) y else .proj off y) hG (by simp)
    refine ⟨vs,?_⟩
    cases ha:J7 P ft with
    |true=>
     simp only [ha,if_true] at hq ⊢
     refine ⟨_,trivial,Vp w ha rfl (Qz hun'),?_⟩
     simp only [Ap]
     refine ⟨q,hq,?_⟩
     simp only [E.ev,hp,Ax] at hq
     by_cases hle:off+Ag P ft≤(PV.a cs).cells.length
     ·rw [if_pos hle] at hq
      injection hq with hq;subst hq
      have hle':off+Ag P ft≤cs.length:=hle
      show Rep _ (.a ((cs.drop off).take _)) _
      refine .a _ _ (by simp;omega) (fun u hu=> ?_) fun j c u hc hu=> ?_
      ·simp only [Ml,G7] at hu
       exact h1 u (H7 (E6 hu))
      ·rw [Bb] at hc
       split at hc
       ·rw [A4] at hc
        rw [Array.getElem?_extract] at hu
        split at hu
        ·exact h _ c u hc hu
        ·cases hu
       ·cases hc
     ·rw [if_neg hle] at hq;cases hq
    |false=>
     simp only [ha,if_false,Ab] at hq ⊢
     have hq':=hq
     simp only [E.ev,hp,Ax,PV.cells] at hq'
     have hlt:=(Ak.1 hq').1
     have hu:vs[off]? =some (vs[off]'(by omega)):=C9 (by omega)
     refine ⟨_,trivial,Vn w ha hun' hu,?_⟩
     simp only [Ap]
     exact ⟨q,hq,h _ q _ hq' hu⟩
  ·rename_i cs
   simp only [Ap] at hr
   obtain ⟨vs,rfl,h1,h2⟩:=hr
   have hlen:=h2.length
   refine ⟨vs,?_⟩
   split at hp
   ·rename_i ha
    split at hp
    ·rename_i hle
     simp only [Option.some.injEq,Prod.mk.injEq] at hp
     obtain ⟨rfl,rfl⟩:=hp
     refine ⟨_,rfl,Vp w ha rfl (Qz hun'),P0 ?_ fun u hu=> ?_⟩
     ·simp only [Ml,G7]
      have:=h2.part off (Ag P ft)
      rwa [Nat.add_sub_cancel_left]
     ·simp only [Ml,G7] at hu
      exact h1 u (H7 (E6 hu))
    ·cases hp
   ·rename_i ha
    obtain ⟨c,hc,he⟩:=Aw.1 hp
    simp only [Prod.mk.injEq] at he
    obtain ⟨rfl,rfl⟩:=he
    obtain ⟨u,hu,hru⟩:=h2.get off c hc
    exact ⟨u,rfl,Vn w (by simpa using ha) hun' (by rw [←Ad];exact hu),hru⟩
  ·cases hp
theorem Dx1 {t:TypeId} {x:Operand} {f off:Nat} {ft:TypeId} {sv r:SV} (ho:o.op= .field t x f) (hf:On P t f=some (off,ft)) (h:Rel w0 Oe η σ a.tmps w β hv O) (hG:GOk η G) (hx:opd P σ G 0 x=some sv)
  (hp:Ty P G (Ag P t) off ft sv=some (ws,r)) (hk:Chk η ws):Db P o a w (Fs w0 Oe η σ a.tmps (Fb σ) r):=by
 have hr:=D8 (ds:=a.defers) (C:=⟨η,Bg w O,β,hv,σ.m⟩) hG rfl hx h.tmps
 obtain ⟨vs,u,h1,h2,h3⟩:=Ar0 (w:=w) (C:=⟨η,Bg w O,β,hv,σ.m⟩) rfl hG hp hk hr
 have h1':a.eval x= .agg vs:=h1
 unfold On at hf
 split at hf
 ·rename_i fs hu
  obtain ⟨fl,hfl,he⟩:=Aw.1 hf
  simp only [Prod.mk.injEq] at he
  obtain ⟨rfl,rfl⟩:=he
  refine Db.value (v:=u) (w':=w) ?_ (.keep h h3)
  simp [execOp,ho,Instr.field,run_underlying hu,hfl,h1',asAgg,h2]
 ·cases hf
theorem Y7 {t e:TypeId} {x i:Operand} {n:Nat} {kk:IntKind} {k:Int} {sv r:SV} (ho:o.op= .index t x i) (ht:P.underlying t=some (.array n e)) (h:Rel w0 Oe η σ a.tmps w β hv O) (hG:GOk η G) (hx:opd P σ G 0 x=some sv)
  (hi:Fv P σ G 0 i=some (.c (.i kk k))) (hb:0≤k∧k<n∧Ag P e≠0) (hp:Ty P G (n*Ag P e) (k.toNat*Ag P e) e sv=some (ws,r)) (hk:Chk η ws):Db P o a w (Fs w0 Oe η σ a.tmps (Fb σ) r):=by
 have hr:=D8 (ds:=a.defers) (C:=⟨η,Bg w O,β,hv,σ.m⟩) hG rfl hx h.tmps
 obtain ⟨vs,u,h1,h2,h3⟩:=Ar0 (w:=w) (C:=⟨η,Bg w O,β,hv,σ.m⟩) rfl hG hp hk hr
 have h1':a.eval x= .agg vs:=h1
 obtain ⟨q,hq,hqr⟩:=Dq (ds:=a.defers) (C:=⟨η,Bg w O,β,hv,σ.m⟩) hG rfl hi h.tmps
 simp only [E.ev,Option.some.injEq] at hq
 subst hq
 have hi':a.eval i= .int kk k:=hqr.int
 refine Db.value (v:=u) (w':=w) ?_ (.keep h h3)
 simp [execOp,ho,Instr.index,run_underlying ht,h1',hi',asIntOf,hb.1,hb.2.1,Eg (P:=P) (w:=w) rfl hb.2.2,h2]
theorem J9 {t e:TypeId} {x i:Operand} {n:Nat} {kk:IntKind} {k:Int} {p q:SV} (ho:o.op= .indexAddr t x i) (ht:P.underlying t=some (.array n e)) (h:Rel w0 Oe η σ a.tmps w β hv O) (hG:GOk η G) (hx:opd P σ G 0 x=some p)
  (hi:Fv P σ G 0 i=some (.c (.i kk k))) (hb:0≤k∧k<n∧Ag P e≠0) 
  (hq:(∃s o,p= .bp s o∧q= .bp s (o+k.toNat*Ag P e))∨(∃y o,p= .ip y o∧q= .ip y (o+k.toNat*Ag P e))):Db P o a w (Fs w0 Oe η σ a.tmps (Fb σ) q):=by
 have hr:=D8 (ds:=a.defers) (C:=⟨η,Bg w O,β,hv,σ.m⟩) hG rfl hx h.tmps
 have e0:a.eval=(Act.mk a.tmps a.defers).eval:=rfl
 rw [←e0] at hr
 obtain ⟨qq,hqq,hqr⟩:=Dq (ds:=a.defers) (C:=⟨η,Bg w O,β,hv,σ.m⟩) hG rfl hi h.tmps
 simp only [E.ev,Option.some.injEq] at hqq
 subst hqq
 have hi':a.eval i= .int kk k:=hqr.int
 have run:∀ad,a.eval x= .pointer (some ad)→(execOp a.eval o).run P w= .ok (.value (.pointer (some (ad.add (k.toNat*Ag P e))))) w:=by
  intro ad had
  simp [execOp,ho,Instr.indexAt,run_underlying ht,had,Instr.sureAddr,hi',asIntOf,hb.1,hb.2.1,Eg (P:=P) (w:=w) rfl hb.2.2]
 rcases hq with ⟨s,o,rfl,rfl⟩|⟨y,o,rfl,rfl⟩
 ·simp only [Ap] at hr
  refine Db.value (run _ hr) (.keep h ?_)
  simp only [Ap,add_lit]
 ·simp only [Ap] at hr
  obtain ⟨pv,hp,ad,el,had,h1,h2,h3⟩:=hr
  refine Db.value (run _ had) (.keep h ?_)
  simp only [Ap]
  refine ⟨pv,hp,ad.add (k.toNat*Ag P e),fun j=>el (k.toNat*Ag P e+j),rfl,fun j c hc=> ?_,fun j c hc=> ?_,fun j c hc=> ?_⟩
  ·rw [Addr.add_add];exact h1 _ c (by rw [A4] at hc ⊢;rw [←Eb];exact hc)
  ·exact h2 _ c (by rw [A4] at hc ⊢;rw [←Eb];exact hc)
  ·exact h3 _ c (by rw [A4] at hc ⊢;rw [←Eb];exact hc)
theorem Gh0 {c:Call} {x y:Operand} {ex ey:E} (ho:o.op= .call c) (hc:c.callee= .builtin .min) (ha:c.args.toList=[x,y]) (h:Rel w0 Oe η σ a.tmps w β hv O) (hG:GOk η G) (hx:Fv P σ G 0 x=some ex) (hy:Fv P σ G 0 y=some ey)
  (hk:Chk η [F0 G (.mn ex ey)]):Db P o a w (Fs w0 Oe η σ a.tmps (Fb σ) (.e (.mn ex ey))):=by
 obtain ⟨r,hr⟩:=hk.g1 hG
 obtain ⟨p,hp,hpr⟩:=Dq (ds:=a.defers) (C:=⟨η,Bg w O,β,hv,σ.m⟩) hG rfl hx h.tmps
 obtain ⟨q,hq,hqr⟩:=Dq (ds:=a.defers) (C:=⟨η,Bg w O,β,hv,σ.m⟩) hG rfl hy h.tmps
 have hargs:c.args= #[x,y]:=by rw [←Cd (xs:=c.args),ha]
 have hr':=hr
 simp only [E.ev,hp,hq,Ax] at hr'
 unfold Dy1 at hr'
 split at hr'
 ·split at hr'
  ·rename_i k m _ n hkk
   subst hkk
   injection hr' with hr'
   have h1:a.eval x= .int k m:=hpr.int
   have h2:a.eval y= .int k n:=hqr.int
   refine Db.value (v:= .int k (if n<m then n else m)) (w':=w) ?_ (.keep h ?_)
   ·simp [execOp,ho,resolve,hc,hargs,invoke,builtin,Builtin.min_,Builtin.min2,h1,h2]
   ·simp only [Ap];exact ⟨r,hr,by rw [←hr'];exact .i _ _⟩
  ·cases hr'
 ·cases hr'
theorem Gh1 {c:Call} {x y:Operand} {ex ey:E} (ho:o.op= .call c) (hc:c.callee= .builtin .max) (ha:c.args.toList=[x,y]) (h:Rel w0 Oe η σ a.tmps w β hv O) (hG:GOk η G) (hx:Fv P σ G 0 x=some ex) (hy:Fv P σ G 0 y=some ey)
  (hk:Chk η [F0 G (.mx ex ey)]):Db P o a w (Fs w0 Oe η σ a.tmps (Fb σ) (.e (.mx ex ey))):=by
 obtain ⟨r,hr⟩:=hk.g1 hG
 obtain ⟨p,hp,hpr⟩:=Dq (ds:=a.defers) (C:=⟨η,Bg w O,β,hv,σ.m⟩) hG rfl hx h.tmps
 obtain ⟨q,hq,hqr⟩:=Dq (ds:=a.defers) (C:=⟨η,Bg w O,β,hv,σ.m⟩) hG rfl hy h.tmps
 have hargs:c.args= #[x,y]:=by rw [←Cd (xs:=c.args),ha]
 have hr':=hr
 simp only [E.ev,hp,hq,Ax] at hr'
 unfold Fw8 at hr'
 split at hr'
 ·split at hr'
  ·rename_i k m _ n hkk
   subst hkk
   injection hr' with hr'
   have h1:a.eval x= .int k m:=hpr.int
   have h2:a.eval y= .int k n:=hqr.int
   refine Db.value (v:= .int k (if n>m then n else m)) (w':=w) ?_ (.keep h ?_)
   ·simp [execOp,ho,resolve,hc,hargs,invoke,builtin,Builtin.max_,Builtin.max2,h1,h2]
   ·simp only [Ap];exact ⟨r,hr,by rw [←hr'];exact .i _ _⟩
  ·cases hr'
 ·cases hr'
end
end Go.X
/- Operations, fifth part: slices, conversions between strings and bytes. -/
namespace Go.X
open Go Go.RowKit
section
variable {P:Program} {w0:Fr} {Oe:Nat→Option Nat} {η:List PV} {σ:St} {a:Act} {w:World} {β:Nat→Nat} {hv:Nat→Value} {O:Nat→Option Nat} {G:Option E} {o:Oper} {ws:List W}
theorem Cb9 {x:Value} {k:IntKind} {n:Int} {y:Nat} {code:BoundsCode} (hx:x= .int k n) (h:0≤n∧n≤y):(Instr.sliceBound x y code).run P w= .ok n.toNat w:=by
 subst hx
 simp [Instr.sliceBound,asIntOf,h]
theorem H6 {b:Bool} {len cap:Nat} {low high max:Option Value} {l h m:Nat} 
  (hm:match max with|some v=>∃k,v= .int k m|none=>m=cap) (hh:match high with|some v=>∃k,v= .int k h|none=>h=len∧max=none) (hl:match low with|some v=>∃k,v= .int k l|none=>l=0)
  (h1:l≤h) (h2:h≤m) (h3:m≤cap):(Instr.sliceBounds b len cap low high max).run P w= .ok (l,h,m) w:=by
 have z:∀(k:IntKind) (n:Int) (y:Nat) (code:BoundsCode),0≤n∧n≤y→(Instr.sliceBound (.int k n) y code).run P w= .ok n.toNat w:=fun k n y code h=>Cb9 rfl h
 cases low with
 |none=>
  simp only at hl;subst hl
  cases high with
  |none=>
   obtain ⟨rfl,rfl⟩:=hh
   simp only at hm;subst hm
   simp [Instr.sliceBounds]
  |some v=>
   obtain ⟨k,rfl⟩:=hh
   cases max with
   |none=>simp only at hm;subst hm;simp [Instr.sliceBounds,z k h m _ (by omega)]
   |some u=>obtain ⟨k',rfl⟩:=hm;simp [Instr.sliceBounds,z k' m cap _ (by omega),z k h m _ (by omega)]
 |some v=>
  obtain ⟨k0,rfl⟩:=hl
  cases high with
  |none=>
   obtain ⟨rfl,rfl⟩:=hh
   simp only at hm;subst hm
   simp [Instr.sliceBounds,z k0 l h _ (by omega)]
  |some v=>
   obtain ⟨k,rfl⟩:=hh
   cases max with
   |none=>simp only at hm;subst hm;simp [Instr.sliceBounds,z k h m _ (by omega),z k0 l h _ (by omega)]
   |some u=>obtain ⟨k',rfl⟩:=hm;simp [Instr.sliceBounds,z k' m cap _ (by omega),z k h m _ (by omega),z k0 l h _ (by omega)]
theorem Fx8 {C:Cx} (hC:C.η=η) (hG:GOk η G) (h:A7 C σ.t a.tmps.toList) {lo:Option Operand} {el:E} {k:IntKind} {n:Int} (hl:I3 P σ G lo (.c (.i .i64 0))=some el)
  (he:el.ev η=some (.i k n)) (h0:0≤n):match lo.map a.eval with|some v=>∃k,v= .int k (n.toNat:Int)|none=>n.toNat=0:=by
 unfold I3 at hl
 cases lo with
 |none=>
  simp only [Option.some.injEq] at hl;subst hl
  simp only [E.ev,Option.some.injEq,PV.i.injEq] at he
  obtain ⟨_,rfl⟩:=he;rfl
 |some x=>
  simp only at hl
  obtain ⟨p,hp,hpr⟩:=Dq (ds:=a.defers) hG hC hl h
  subst hC
  rw [he] at hp;injection hp with hp;subst hp
  refine ⟨k,?_⟩
  have:a.eval x= .int k n:=hpr.int
  rw [this];congr 1;omega
theorem Db1 {C:Cx} (hC:C.η=η) (hG:GOk η G) (h:A7 C σ.t a.tmps.toList) {x:Operand} {d el:E} {k:IntKind} {n:Int} (hl:I3 P σ G (some x) d=some el)
  (he:el.ev η=some (.i k n)) (h0:0≤n):∃k,a.eval x= .int k (n.toNat:Int):=Fx8 (lo:=some x) hC hG h hl he h0
theorem Rep.lnil (M:Vw) (sz:Nat) (b:Option Addr) (cap:Nat):Rep M (.l sz []) (.slice b 0 cap):=
 Rep.l sz [] b cap ⟨0,0,none⟩ (fun _ _=>undef) (C4 _) (fun h=>absurd rfl h) (fun i x h=>by simp at h) (fun i x j c h=>by simp at h) (fun i x j c h=>by simp at h) (fun i x j c h=>by simp at h)
theorem Dx0 {t:TypeId} {x:Operand} {lo hi mx:Option Operand} {sv r:SV} {ε:Eff} (ho:o.op= .slice t x lo hi mx) (h:Rel w0 Oe η σ a.tmps w β hv O) (hG:GOk η G) (hx:opd P σ G t x=some sv)
  (hs:Kb P σ G t sv lo hi mx=some (ws,r,ε)) (hk:Chk η ws):Db P o a w (Fs w0 Oe η σ a.tmps ε r):=by
 have hr:=D8 (ds:=a.defers) (C:=⟨η,Bg w O,β,hv,σ.m⟩) hG rfl hx h.tmps
 have e0:a.eval=(Act.mk a.tmps a.defers).eval:=rfl
 rw [←e0] at hr
 unfold Kb at hs
 split at hs
 ·-- a string
  rename_i hu
  split at hs
  ·rename_i y hy
   split at hs
   ·rename_i el eh hel heh
    simp only [Option.some.injEq,Prod.mk.injEq] at hs
    obtain ⟨rfl,rfl,rfl⟩:=hs
    obtain ⟨q,hq⟩:=hk.g1 hG
    obtain ⟨p,hp,hpr⟩:=SV.asE_ok hy hr
    have hp':y.ev η=some p:=hp
    have hq':=hq
    simp only [E.ev,hp',Ax,Aj] at hq'
    obtain ⟨pl,hpl,ph,hph,hq'⟩:=hq'
    unfold Yy at hq'
    split at hq'
    ·rename_i s kl nl kh nh
     split at hq'
     ·rename_i hb
      injection hq' with hq'
      obtain ⟨z,hz,hzd⟩:=hpr.str
      have hzs:z.size=s.length:=by rw [←hzd,Bn];rfl
      have hlo:=Fx8 (C:=⟨η,Bg w O,β,hv,σ.m⟩) rfl hG h.tmps hel hpl hb.1
      have hhi:match hi.map a.eval with|some v=>∃k,v= .int k (nh.toNat:Int)|none=>nh.toNat=z.size∧(none:Option Value)=none:=by
       cases hi with
       |none=>
        simp only [I3,Option.some.injEq] at heh;subst heh
        simp only [E.ev,hp',Ax,Ot,Option.some.injEq,PV.i.injEq] at hph
        obtain ⟨_,rfl⟩:=hph
        exact ⟨by rw [hzs];simp,rfl⟩
       |some x'=>exact Db1 (x:=x') (C:=⟨η,Bg w O,β,hv,σ.m⟩) rfl hG h.tmps heh hph (by omega)
      have hrun:=H6 (P:=P) (w:=w) (b:=false) (len:=z.size) (cap:=z.size) (max:=none) (m:=z.size) rfl hhi hlo (by omega) (by omega) (Ac _)
      refine Db.value (v:= .string (z.extract nl.toNat nh.toNat)) (w':=w) ?_ (.keep h ?_)
      ·simp [execOp,ho,Instr.sliceAt,Instr.slice,run_underlying hu,hz,hrun]
      ·simp only [Ap]
       refine ⟨q,hq,?_⟩
       rw [←hq']
       refine .s _ _ ?_
       rw [ByteArray.data_extract,Ml,G7,hzd,List.drop_take]
     ·cases hq'
    ·cases hq'
   ·cases hs
  ·cases hs
 ·rename_i e hu
  split at hs
  ·cases hs
  rename_i hsz
  have hsize:=Eg (P:=P) (w:=w) (t:=e) rfl hsz
  split at hs
  ·-- nothing of it
   rename_i hz
   simp only [Aq,B8] at hz
   obtain ⟨⟨hlo,hhi⟩,hmx⟩:=hz
   subst hlo
   have zer:∀u,pg u=true→u=some (.const (.int .i64 0)):=by
    intro u hu
    unfold pg at hu
    split at hu
    ·rfl
    ·cases hu
   have:=zer _ hhi;subst this
   have:=zer _ hmx;subst this
   have key:∃b n cap,a.eval x= .slice b n cap:=by
    split at hs
    ·rename_i y
     simp only [Option.some.injEq,Prod.mk.injEq] at hs
     obtain ⟨rfl,rfl,rfl⟩:=hs
     obtain ⟨q,hq⟩:=hk.g1 hG
     simp only [Ap] at hr
     obtain ⟨p,hp,hpr⟩:=hr
     have hp':y.ev η=some p:=hp
     simp only [E.ev,hp',Ax] at hq
     unfold Gq at hq
     split at hq
     ·rename_i sz xs
      generalize a.eval x=v1 at hpr
      cases hpr with
      |l _ _ base cap ad el _ _ _ _ _ _=>exact ⟨_,_,_,rfl⟩
     ·cases hq
    ·simp only [Ap] at hr
     exact ⟨_,_,_,hr⟩
    ·cases hs
   have hε:ε=Fb σ∧r= .lit (Ag P e) (.c (.l (Ag P e) [])):=by
    split at hs
    ·simp only [Option.some.injEq,Prod.mk.injEq] at hs;exact ⟨hs.2.2.symm,hs.2.1.symm⟩
    ·simp only [Option.some.injEq,Prod.mk.injEq] at hs;exact ⟨hs.2.2.symm,hs.2.1.symm⟩
    ·cases hs
   obtain ⟨rfl,rfl⟩:=hε
   obtain ⟨b,n,cap,hv1⟩:=key
   have hrun:=H6 (P:=P) (w:=w) (b:=true) (len:=n) (cap:=cap) (low:=none) (high:=some (.int .i64 0)) (max:=some (.int .i64 0)) (l:=0) (h:=0) (m:=0) ⟨_,rfl⟩ ⟨_,rfl⟩ rfl (Ac _) (Ac _) (C4 _)
   refine Db.value (v:= .slice b 0 0) (w':=w) ?_ (.keep h ?_)
   ·have hev:∀v,a.eval (.const v)=v:=fun v=>rfl
    simp [execOp,ho,Instr.sliceAt,Instr.slice,run_underlying hu,hv1,hrun,hsize,hev]
   ·simp only [Ap]
    exact ⟨[],b,rfl,rfl,Rep.lnil _ _ _ _⟩
  ·split at hs
   ·rename_i y ss hy
    split at hs
    ·cases hs
    ·have fin:∀{el eh:E},I3 P σ G lo (.c (.i .i64 0))=some el→I3 P σ G hi (.len y)=some eh→
       (mx=none∨∃m em,mx=some m∧Fv P σ G 0 m=some em∧eh.same em=true∧hi.isSome=true)→Chk η [F0 G (.lsl (Ag P e) y el eh)]→Db P o a w (Fs w0 Oe η σ a.tmps ⟨Ks ss σ.m,σ.n,none⟩ (.e (.lsl (Ag P e) y el eh))):=by
      intro el eh hel heh hmx hk
      obtain ⟨O',hrel,hM,hop,_⟩:=h.frz ss (n:=σ.n)
      obtain ⟨p,hp,hpr⟩:=Qc h hM 20 sv _ y ss hy hr (fun s hs=>hop s (by simpa using hs))
      obtain ⟨q,hq⟩:=hk.g1 hG
      have hq':=hq
      simp only [E.ev,hp,Ax,Aj] at hq'
      obtain ⟨pl,hpl,ph,hph,hq'⟩:=hq'
      unfold Ht at hq'
      split at hq'
      ·rename_i sz' xs kl nl kh nh
       split at hq'
       ·rename_i hszz
        subst hszz
        split at hq'
        ·rename_i hb
         injection hq' with hq'
         have hlo:=Fx8 (C:=⟨η,Bg w O,β,hv,σ.m⟩) rfl hG h.tmps hel hpl hb.1
         generalize hv1:a.eval x=v1 at hpr
         cases hpr with
         |l _ _ base cap ad elv hc hbase hs1 hMm h1 hh=>
          have hhi:match hi.map a.eval with|some v=>∃k,v= .int k (nh.toNat:Int)|none=>nh.toNat=xs.length∧mx.map a.eval=none:=by
           cases hi with
           |none=>
            simp only [I3,Option.some.injEq] at heh;subst heh
            simp only [E.ev,hp,Ax,Gq,Option.some.injEq,PV.i.injEq] at hph
            obtain ⟨_,rfl⟩:=hph
            refine ⟨by simp,?_⟩
            rcases hmx with rfl|⟨_,_,_,_,_,hno⟩
            ·rfl
            ·cases hno
           |some x'=>exact Db1 (x:=x') (C:=⟨η,Bg w O,β,hv,σ.m⟩) rfl hG h.tmps heh hph (by omega)
          obtain ⟨m,hm1,hm2,hm3⟩:∃m:Nat,(match mx.map a.eval with|some v=>∃k,v= .int k (m:Int)|none=>m=cap)∧nh.toNat≤m∧m≤cap:=by
           rcases hmx with rfl|⟨mo,em,rfl,hem,hsame,_⟩
           ·exact ⟨cap,rfl,by omega,Ac _⟩
           ·have:=E.same_eq _ _ hsame;subst this
            exact ⟨nh.toNat,Db1 (x:=mo) (C:=⟨η,Bg w O,β,hv,σ.m⟩) rfl hG h.tmps (d:= .c .u) hem hph (by omega),Ac _,by omega⟩
          have hrun:=H6 (P:=P) (w:=w) (b:=true) (len:=xs.length) (cap:=cap) hm1 hhi hlo (by omega) hm2 hm3
          refine Db.value (v:= .slice (if m=nl.toNat then base else base.map (·.add (nl.toNat*Ag P e))) (nh.toNat - nl.toNat) (m - nl.toNat)) (w':=w) ?_ ⟨β,hv,O',hrel,?_⟩
          ·simp [execOp,ho,Instr.sliceAt,Instr.slice,run_underlying hu,hv1,hrun,hsize]
          ·simp only [Ap]
           refine ⟨q,hq,?_⟩
           rw [←hq']
           have hlen:((xs.take nh.toNat).drop nl.toNat).length=nh.toNat - nl.toNat:=by rw [Bs,Al];omega
           have hget:∀(i:Nat) (z:PV),((xs.take nh.toNat).drop nl.toNat)[i]? =some z→xs[nl.toNat+i]? =some z:=by
            intro i z hz
            rw [A4,Bb] at hz
            split at hz
            ·exact hz
            ·cases hz
           rw [←hlen]
           have hadd:∀i j,(ad.add (nl.toNat*Ag P e)).add (i*Ag P e+j)=ad.add ((nl.toNat+i)*Ag P e+j):=by
            intro i j;rw [Addr.add_add];congr 1;rw [B7];omega
           refine .l _ _ _ _ (ad.add (nl.toNat*Ag P e)) (fun i j=>elv (nl.toNat+i) j) (by rw [hlen];omega) (fun hne=> ?_) (fun i z hz=>hs1 _ z (hget i z hz)) (fun i z j c hz hc=> ?_) (fun i z j c hz hc=>h1 _ z j c (hget i z hz) hc) (fun i z j c hz hc=>hh _ z j c (hget i z hz) hc)
           ·have hpos:0<nh.toNat - nl.toNat:=by
             rw [←hlen];exact Bw.2 hne
            have hxs:xs≠[]:=by
             intro hx0;subst hx0;simp at hb;omega
            rw [if_neg (by omega),hbase hxs];rfl
           ·rw [hadd];exact hMm _ z j c (hget i z hz) hc
        ·cases hq'
       ·cases hq'
      ·cases hq'
     split at hs
     ·rename_i el eh hel heh
      split at hs
      ·simp only [Option.some.injEq,Prod.mk.injEq] at hs
       obtain ⟨rfl,rfl,rfl⟩:=hs
       exact fin hel heh (.inl rfl) hk
      ·rename_i _ mo _
       split at hs
       ·rename_i em hem
        split at hs
        ·rename_i hsame
         simp only [Option.some.injEq,Prod.mk.injEq] at hs
         obtain ⟨rfl,rfl,rfl⟩:=hs
         refine fin hel heh (.inr ⟨mo,em,rfl,hem,hsame.1,hsame.2⟩) hk
        ·cases hs
       ·cases hs
     ·cases hs
   ·cases hs
 ·cases hs
theorem O0 {t:TypeId} {x:Operand} {lo hi mx:Option Operand} {n:Nat} {y:E} {sv r:SV} {ε:Eff} (ho:o.op= .slice t x lo hi mx) (h:Rel w0 Oe η σ a.tmps w β hv O) (hG:GOk η G) (hx:opd P σ G t x=some sv)
  (hsv:sv= .lit n y∨sv= .nil n∧y= .c (.l n [])) (hs:E2 P σ G t n y lo hi mx=some (ws,r,ε)) (hk:Chk η ws):Db P o a w (Fs w0 Oe η σ a.tmps ε r):=by
 have hr:=D8 (ds:=a.defers) (C:=⟨η,Bg w O,β,hv,σ.m⟩) hG rfl hx h.tmps
 have hlit:∃xs b,y.ev η=some (.l n xs)∧a.eval x= .slice b xs.length xs.length∧Rep (Bg w O) (.l n xs) (a.eval x):=by
  rcases hsv with rfl|⟨rfl,rfl⟩
  ·simp only [Ap] at hr;exact hr
  ·simp only [Ap] at hr
   have hr':a.eval x= .slice none 0 0:=hr
   exact ⟨[],none,by simp only [E.ev],hr',by rw [hr'];exact Rep.lnil _ _ _ _⟩
 obtain ⟨xs,b,hy,hv1,hrep⟩:=hlit
 unfold E2 at hs
 split at hs
 ·rename_i e h0 he
  have hu:P.underlying t=some (.slice e):=by
   unfold G0 at he
   split at he
   ·rename_i h;rw [h];injection he with he;rw [he]
   ·cases he
  split at hs
  ·rename_i eh heh
   split at hs
   ·rename_i hcond
    obtain ⟨rfl,hne⟩:=hcond
    simp only [Option.some.injEq,Prod.mk.injEq] at hs
    obtain ⟨rfl,rfl,rfl⟩:=hs
    obtain ⟨q1,hq1⟩:=Chk.g hk hG (.head _)
    obtain ⟨q2,hq2⟩:=Chk.g hk hG (.tail _ (.head _))
    simp only [E.ev,hy,Ax,Aj] at hq1
    obtain ⟨ph,hph,hq1⟩:=hq1
    unfold Ht at hq1
    split at hq1
    ·rename_i sz' xs' kl nl kh nh heq1 heq2
     injection heq1 with e1 e2
     subst e1;subst e2
     injection heq2 with e3 e4
     subst e3;subst e4
     have hlen:nh=xs.length:=by
      simp only [Hz9,E.ev,hph,hy,Ax,Gq,X.bin] at hq2
      by_cases hkk:kh= .i64
      ·subst hkk
       simp only [Fc,if_true,Ax] at hq2
       by_cases hn:nh=xs.length
       ·exact hn
       ·have:(nh==(xs.length:Int))=false:=by simpa using hn
        rw [this] at hq2
        simp [PV.scal] at hq2
      ·simp [hkk] at hq2
     subst hlen
     have hhi:=Db1 (x:=h0) (C:=⟨η,Bg w O,β,hv,σ.m⟩) rfl hG h.tmps (d:= .c .u) heh hph (by omega)
     obtain ⟨k,hk2⟩:∃k,a.eval h0= .int k (xs.length:Int):=by
      obtain ⟨k,hk2⟩:=hhi
      exact ⟨k,by simpa using hk2⟩
     have hsize:=Eg (P:=P) (w:=w) (t:=e) rfl hne
     have hrun:=H6 (P:=P) (w:=w) (b:=true) (len:=xs.length) (cap:=xs.length) (low:=none) (high:=some (a.eval h0)) (max:=none) (l:=0) (h:=xs.length) (m:=xs.length) rfl ⟨k,hk2⟩ rfl (C4 _) (Ac _) (Ac _)
     refine Db.value (v:=a.eval x) (w':=w) ?_ (.keep h ?_)
     ·have:∀(m:Nat) (b:Option Addr),Option.map (fun a:Addr=>a.add 0) b=b:=fun _ b=>by cases b<;>rfl
      simp [execOp,ho,Instr.sliceAt,Instr.slice,run_underlying hu,hv1,hrun,hsize]
      intro _
      cases b<;>rfl
     ·simp only [Ap]
      exact ⟨xs,b,hy,hv1,hrep⟩
    ·cases hq1
   ·cases hs
  ·cases hs
 ·cases hs
end
end Go.X
/- Operations, sixth part: conversions between strings and bytes. -/
namespace Go.X
open Go Go.RowKit
section
variable {P:Program} {w0:Fr} {Oe:Nat→Option Nat} {η:List PV} {σ:St} {a:Act} {w:World} {β:Nat→Nat} {hv:Nat→Value} {O:Nat→Option Nat} {G:Option E} {o:Oper} {ws:List W}
theorem Gg8 {src dst e:TypeId} {x:Operand} {ex:E} (ho:o.op= .convert src dst x) (hs:P.underlying src=some .string) (hd:P.underlying dst=some (.slice e)) (he:P.underlying e=some (.int .u8))
  (h:Rel w0 Oe η σ a.tmps w β hv O) (hG:GOk η G) (hx:Fv P σ G 0 x=some ex) (hk:Chk η [F0 G (.s2b ex)]):Db P o a w (Fs w0 Oe η σ a.tmps (Fb σ) (.e (.s2b ex))):=by
 obtain ⟨q,hq⟩:=hk.g1 hG
 obtain ⟨p,hp,hpr⟩:=Dq (ds:=a.defers) (C:=⟨η,Bg w O,β,hv,σ.m⟩) hG rfl hx h.tmps
 have hp':ex.ev η=some p:=hp
 have hq':=hq
 simp only [E.ev,hp',Ax] at hq'
 unfold wz at hq'
 split at hq'
 ·rename_i s
  split at hq'
  ·injection hq' with hq'
   obtain ⟨z,hz,hzd⟩:=hpr.str
   have hz':a.eval x= .string z:=hz
   have hzs:z.size=s.length:=by rw [←hzd,Bn];rfl
   have hrun:=run_bytes_of_string (P:=P) w src dst e z hs hd he
   generalize hR:bytesRow z (grownCap w z.size 0 e)=R at hrun
   have hbel:Blw w.heap.size w (w.drew.alloc (.cells R e (R.size,R.size+1))):=((Blw.refl _ _).drew).alloc (Ac _) _
   have hrel:=h.below hbel
   refine Db.value (v:= .slice (some ⟨w.heap.size,0,none⟩) z.size (grownCap w z.size 0 e)) (w':=w.drew.alloc (.cells R e (R.size,R.size+1))) ?_ (.keep hrel ?_)
   ·simp only [execOp,ho,hz',Sem.run_bind,hrun,Result.andThen];rfl
   ·simp only [Ap]
    refine ⟨q,hq,?_⟩
    rw [←hq']
    have hl:(Ck s).length=z.size:=by simp [Ck,hzs]
    rw [←hl]
    have each:∀(i:Nat) (y:PV),(Ck s)[i]? =some y→∃b,s[i]? =some b∧y= .i .u8 (b.toNat:Int):=by
     intro i y hy
     simp only [Ck,By,Aw] at hy
     obtain ⟨b,hb,rfl⟩:=hy
     exact ⟨b,hb,rfl⟩
    have each2:∀(i:Nat) (y:PV) (j:Nat) (c:PV),(Ck s)[i]? =some y→y.cells[j]? =some c→∃b,s[i]? =some b∧j=0∧c= .i .u8 (b.toNat:Int):=by
     intro i y j c hy hc
     obtain ⟨b,hb,rfl⟩:=each i y hy
     cases j with
     |zero=>simp [PV.cells] at hc;exact ⟨b,hb,rfl,hc.symm⟩
     |succ j=>simp [PV.cells] at hc
    refine .l _ _ _ _ ⟨w.heap.size,0,none⟩ (fun i _=> .int .u8 ((s.getD i 0).toNat:Int)) (by rw [hl];exact grownCap_ge _ _ _ _) (fun _=>rfl) (fun i y hy=> ?_) (fun i y j c hy hc=> ?_) (fun i y j c hy hc=>rfl) (fun i y j c hy hc=> ?_)
    ·obtain ⟨b,_,rfl⟩:=each i y hy;rfl
    ·obtain ⟨b,hb,rfl,rfl⟩:=each2 i y j c hy hc
     rw [add_lit]
     refine Ew ?_ fun lim hl=> ?_
     ·have h1:=World.cell?_alloc_mark w.drew R e (R.size,R.size+1) (0+(i*1+0))
      have h2:w.drew.heap.size=w.heap.size:=rfl
      rw [h2] at h1
      rw [h1,←hR]
      have hi:i<s.length:=(Ak.1 hb).1
      have hi2:i<z.data.size:=by rw [←Bn,hzd];exact hi
      have hb2:z.data[i]? =some b:=by rw [←Ad,hzd];exact hb
      simp only [bytesRow,Ek,Av8,Dl]
      rw [Cv (by simpa using hi2)]
      simp [hb2,hb,Bf]
     ·have:=h.out w.heap.size (Ac _)
      rw [show O w.heap.size=none from this] at hl;cases hl
    ·obtain ⟨b,hb,rfl,rfl⟩:=each2 i y j c hy hc
     simp only [Bf,hb,Cn]
     exact .i _ _
  ·cases hq'
 ·cases hq'
theorem K0:∀(ns:List Int) (r:ByteArray),(ns.foldl (fun r n=>r.push (UInt8.ofNat n.toNat)) r).data.toList=r.data.toList++ns.map fun n=>UInt8.ofNat n.toNat
 |[],r=>by simp
 |n::ns,r=>by
  simp only [List.foldl_cons,Ec]
  rw [K0 ns]
  simp [ByteArray.push]
theorem Ly:∀{xs:List PV} {s:List UInt8},xs.mapM byteOf? =some s→∃ns:List Int,xs=ns.map (.i .u8)∧s=(ns.map fun n=>UInt8.ofNat n.toNat)∧∀n∈ns,0≤n∧n<256
 |[],s,h=>by simp at h;exact ⟨[],rfl,h,by simp⟩
 |x::xs,s,h=>by
  simp only [H8,Ph,Aj,Xg,Option.some.injEq] at h
  obtain ⟨b,hb,r,hr,rfl⟩:=h
  obtain ⟨ns,rfl,rfl,hrg⟩:=Ly hr
  unfold byteOf? at hb
  split at hb
  ·rename_i n
   split at hb
   ·rename_i hr0
    injection hb with hb
    refine ⟨n::ns,rfl,by rw [←hb];rfl,fun m hm=> ?_⟩
    rcases Ah.1 hm with rfl|hm
    ·exact hr0
    ·exact hrg m hm
   ·cases hb
  ·cases hb
theorem Gh7 {src dst e:TypeId} {x:Operand} {sv:SV} {ex:E} {ss:List Nat} (ho:o.op= .convert src dst x) (hs:P.underlying src=some (.slice e)) (hd:P.underlying dst=some .string) (he:P.underlying e=some (.int .u8))
  (h:Rel w0 Oe η σ a.tmps w β hv O) (hG:GOk η G) (hx:opd P σ G 0 x=some sv) (hy:toE σ.m 20 sv=some (ex,ss)) (hk:Chk η [F0 G (.b2s ex)]):Db P o a w (Fs w0 Oe η σ a.tmps (Fb σ) (.e (.b2s ex))):=by
 obtain ⟨q,hq⟩:=hk.g1 hG
 have hr:=D8 (ds:=a.defers) (C:=⟨η,Bg w O,β,hv,σ.m⟩) hG rfl hx h.tmps
 obtain ⟨O',_,hM,hop,_⟩:=h.frz ss (n:=σ.n)
 obtain ⟨p,hp,hpr⟩:=Qc h hM 20 sv _ ex ss hy hr (fun s hs=>hop s (by simpa using hs))
 have hq':=hq
 simp only [E.ev,hp,Ax] at hq'
 unfold j5 at hq'
 split at hq'
 ·rename_i xs
  obtain ⟨s,hs',hq''⟩:=Aw.1 hq'
  obtain ⟨ns,rfl,rfl,_⟩:=Ly hs'
  have hpr':Rep (Bg w O') (.l 1 (ns.map (.i .u8))) (a.eval x):=hpr
  generalize hv1:a.eval x=v1 at hpr'
  have fin:∀z:ByteArray,(convert src dst v1).run P w= .ok (.string z) w→z.data.toList=ns.map (fun n=>UInt8.ofNat n.toNat)→Db P o a w (Fs w0 Oe η σ a.tmps (Fb σ) (.e (.b2s ex))):=by
   intro z hz1 hz2
   refine Db.value (v:= .string z) (w':=w) ?_ (.keep h ?_)
   ·simp only [execOp,ho,hv1,Sem.run_bind,hz1,Result.andThen];rfl
   ·simp only [Ap]
    exact ⟨q,hq,by rw [←hq''];exact .s _ _ hz2⟩
  cases hpr' with
  |l _ _ base cap ad el hc hb hs1 hMm h1 hh=>
   cases hbase:base with
   |none=>
    have hns:ns=[]:=by
     refine Classical.byContradiction fun hne=> ?_
     have:=hb (by simpa using hne)
     rw [hbase] at this;cases this
    subst hns
    subst hbase
    exact fin ByteArray.empty (run_convert_bytes_nil w src e hs he _ _ dst hd) rfl
   |some ad'=>
    subst hbase
    have hloads:(loadCells ad' (ns.map (PV.i .u8)).length).run P w= .ok (ns.map (Value.int .u8)).toArray w:=by
     have:=run_loadCells_list (P:=P) w ad' (ns.map (Value.int .u8)) fun j v hj=> ?_
     ·simpa using this
     ·simp only [By,Aw] at hj
      obtain ⟨n,hn,rfl⟩:=hj
      have hne:ns.map (PV.i .u8)≠[]:=by intro h0;simp at h0;subst h0;simp at hn
      have:=hb hne
      injection this with this;subst this
      have hx1:(ns.map (PV.i .u8))[j]? =some (.i .u8 n):=by simp [hn]
      have h2:=hMm j _ 0 _ hx1 (show (PV.i .u8 n).cells[0]? =some (.i .u8 n) from rfl)
      have h3:=hh j _ 0 _ hx1 (show (PV.i .u8 n).cells[0]? =some (.i .u8 n) from rfl)
      rw [h3.int] at h2
      have:=(Ky h2).1
      simpa using this
    refine fin _ ((run_convert_bytes_string w src dst e _ _ _ hs he hd).trans (run_bytesToString w ad' _ cap ns hloads)) ?_
    rw [K0];rfl
 ·cases hq'
end
end Go.X
/- Operations, seventh part: literals. -/
namespace Go.X
open Go Go.RowKit
section
variable {P:Program} {w0:Fr} {Oe:Nat→Option Nat} {η:List PV} {σ:St} {a:Act} {w:World} {β:Nat→Nat} {hv:Nat→Value} {O:Nat→Option Nat} {G:Option E} {o:Oper} {ws:List W}
def Ln (C:Cx):List (Nat×SV)→List (Nat×Value)→Prop
 |[],[]=>True
 |x::xs,y::ys=>x.1=y.1∧Ap C x.2 y.2∧Ln C xs ys
 |_,_=>False
theorem fb {C:Cx} (hC:C.η=η) (hG:GOk η G) (h:A7 C σ.t a.tmps.toList) {tf:Nat→TypeId}:∀{ps:List (Nat×Operand)} {vs:List (Nat×SV)},Ar1 P σ G tf ps=some vs→Ln C vs (ps.map fun p=>(p.1,a.eval p.2))
 |[],vs,hp=>by simp only [Ar1,Option.some.injEq] at hp;subst hp;trivial
 |(i,x)::ps,vs,hp=>by
  simp only [Ar1] at hp
  split at hp
  ·rename_i y ys hy hys
   injection hp with hp;subst hp
   exact ⟨rfl,D8 (ds:=a.defers) hG hC hy h,fb hC hG h hys⟩
  ·cases hp
theorem qz (off:Nat):∀(l:List Value) (k:Nat) (cells:Array Value),off+k+l.length≤cells.size→
  ((l.zipIdx k).foldl (fun cs (x:Value×Nat)=>cs.setIfInBounds (off+x.2) x.1) cells).toList=cells.toList.take (off+k)++l++cells.toList.drop (off+k+l.length)
 |[],k,cells,_=>by simp
 |v::l,k,cells,h=>by
  simp only [List.zipIdx_cons,List.foldl_cons]
  simp only [As] at h
  rw [qz off l (k+1) _ (by simp;omega)]
  have hlt:off+k<cells.toList.length:=by simp;omega
  rw [Array.toList_setIfInBounds,←Eb,List.take_set,List.take_succ_eq_append_getElem hlt,Et1 (by omega)]
  have hl2:(cells.toList.take (off+k)).length=off+k:=by rw [Al];omega
  have:=Vk (cells.toList.take (off+k)) (cells.toList[off+k]) v
  rw [hl2] at this
  rw [this]
  simp [Cl3 1,Eb]
theorem By7 {C:Cx} {m:List (Nat×Blk)} (hm:C.m=m) (harr:∀s e sz x ro,mget m s=some (.arr e sz x ro)→One (C.hv s)) {pl:Nat→Option (Nat×TypeId)} {pm:Nat→Option (Nat×Nat)} (hpl:∀i off ft,pl i=some (off,ft)→pm i=some (off,Ag P ft)):
  ∀{vs:List (Nat×SV)} {ps:List (Nat×Value)} {cs cs':List SV} {ws:List W} {cells:Array Value},Uk P m pl vs cs=some (ws,cs')→(∀x,W.chk x∈ws→∃p,x.ev C.η=some p)→Ln C vs ps→
   A7 C cs cells.toList→(∀u,u∈cells.toList→One u)→∃cells',Instr.fill pm cells ps=some cells'∧A7 C cs' cells'.toList∧∀u,u∈cells'.toList→One u
 |[],[],cs,cs',ws,cells,h,hk,hp,hr,h1=>by
  simp only [Uk,Option.some.injEq,Prod.mk.injEq] at h
  obtain ⟨_,rfl⟩:=h
  exact ⟨cells,rfl,hr,h1⟩
 |[],_::_,_,_,_,_,_,_,hp,_,_=>hp.elim
 |_::_,[],_,_,_,_,_,_,hp,_,_=>hp.elim
 |(i,sv)::vs,(j,v)::ps,cs,cs',ws,cells,h,hk,hp,hr,h1=>by
  obtain ⟨hij,hrv,hp⟩:=hp
  simp only at hij hrv
  subst hij
  simp only [Uk] at h
  split at h
  ·rename_i off ft hpi
   split at h
   ·rename_i ws1 vs1 hc
    split at h
    ·rename_i hle
     obtain ⟨⟨ws2,cs2⟩,hrec,he⟩:=Aw.1 h
     simp only [Prod.mk.injEq] at he
     obtain ⟨rfl,rfl⟩:=he
     obtain ⟨c1,c2,c3,c4⟩:=Jy hm hc (fun x hx=>hk x (Cb _ hx)) harr hrv
     have hlen:=hr.length
     have hsz:v.cells.toList.length=Ag P ft:=by simpa using c1
     have hcl:off+v.cells.size≤cells.size:=by
      have:cs.length=cells.size:=by simpa using hlen
      omega
     have hset:=A7.setCells (off:=off) hr c4 hle
     have hfold:=qz off v.cells.toList 0 cells (by simpa using hcl)
     let cells2:=(v.cells.zipIdx.foldl (fun cs (c,j)=>cs.setIfInBounds (off+j) c) cells)
     have hcells2:cells2.toList=cells.toList.take off++v.cells.toList++cells.toList.drop (off+v.cells.toList.length):=by
      have e:cells2=((v.cells.toList.zipIdx 0).foldl (fun cs (x:Value×Nat)=>cs.setIfInBounds (off+x.2) x.1) cells):=by
       show v.cells.zipIdx.foldl _ _=_
       rw [←Array.foldl_toList,Array.toList_zipIdx]
      rw [e];simpa using hfold
     have h12:∀u,u∈cells2.toList→One u:=by
      intro u hu
      rw [hcells2] at hu
      rcases Br.1 hu with hu|hu
      ·rcases Br.1 hu with hu|hu
       ·exact h1 u (E6 hu)
       ·exact c3 u hu
      ·exact h1 u (H7 hu)
     obtain ⟨cells',g1,g2,g3⟩:=By7 hm harr hpl (cells:=cells2) hrec (fun x hx=>hk x (Bh _ hx)) hp (by rw [hcells2];exact hset) h12
     refine ⟨cells',?_,g2,g3⟩
     simp only [Instr.fill,hpl i off ft hpi]
     rw [if_neg (by simp;exact ⟨c1,hcl⟩)]
     exact g1
    ·cases h
   ·cases h
  ·cases h
theorem Y3:∀fs:List Field,(∀f,f∈fs→(P.info? f.type).isSome)→(fs.mapM fun f=>(P.info? f.type).map fun i=>(f.offset,i.size))=some (fs.map fun f=>(f.offset,Ag P f.type))
 |[],_=>by simp
 |f::fs,h=>by
  obtain ⟨i,hi⟩:=Cq.1 (h f (.head _))
  simp [H8,hi,Y3 fs fun g hg=>h g (.tail _ hg),Ag]
theorem Dx4 {t:TypeId} {parts:Array (Nat×Operand)} {tf:Nat→TypeId} {zs cs:List SV} {vs:List (Nat×SV)} (ho:o.op= .build t parts) (h:Rel w0 Oe η σ a.tmps w β hv O) (hG:GOk η G) (hz:G9 P t=some zs) (hv1:Ar1 P σ G tf parts.toList=some vs)
  (hf:Uk P σ.m (Q2 P t) vs zs=some (ws,cs)) (hp:d6 P t=true) (hk:Chk η ws) {r0:SV} (hr0:r0= .ag cs∨r0=gq cs):Db P o a w (Fs w0 Oe η σ a.tmps (Fb σ) r0):=by
 let C:Cx:=⟨η,Bg w O,β,hv,σ.m⟩
 obtain ⟨i,z,hi,hzz,hsz,h1,hr⟩:=F9 (C:=C) hz
 have hparts:=fb (C:=C) rfl hG h.tmps hv1
 have hpt:(parts.map fun (i,x)=>(i,a.eval x)).toList=parts.toList.map fun p=>(p.1,a.eval p.2):=by simp
 have go:∀pm,(∀i off ft,Q2 P t i=some (off,ft)→pm i=some (off,Ag P ft))→(∀cells,Instr.fill pm z.cells (parts.map fun (i,x)=>(i,a.eval x)).toList=some cells→P.built t (parts.map fun (i,x)=>(i,a.eval x)).toList=some cells)→
   Db P o a w (Fs w0 Oe η σ a.tmps (Fb σ) r0):=by
  intro pm hpm hb
  obtain ⟨cells',g1,g2,g3⟩:=By7 (C:=C) rfl h.oneH hpm hf hk hparts hr h1
  refine Db.value (v:= .agg cells') (w':=w) ?_ (.keep h (by
   rcases hr0 with rfl|rfl
   ·simp only [Ap];exact ⟨cells',rfl,g3,g2⟩
   ·exact P0 g2 g3))
  have:=run_build w t _ cells' (hb cells' (by rw [hpt];exact g1))
  simp only [execOp,ho,Sem.run_bind,this,Result.andThen];rfl
 unfold d6 at hp
 split at hp
 ·rename_i fs hu
  refine go (fun i=>(fs.toList.map fun f=>(f.offset,Ag P f.type)).toArray[i]?) (fun i off ft hi=> ?_) (fun cells hc=> ?_)
  ·simp only [Q2,hu] at hi
   obtain ⟨f,hf1,he⟩:=Aw.1 hi
   simp only [Prod.mk.injEq] at he
   obtain ⟨rfl,rfl⟩:=he
   simp [hf1]
  ·unfold Program.built
   simp only [hi,hu,hzz]
   rw [Y3 fs.toList (fun f hf=>by simpa using (Bj.1 hp) f hf)]
   exact hc
 ·rename_i n e hu
  obtain ⟨ie,hie⟩:=Cq.1 hp
  refine go (fun i=>some (i*ie.size,ie.size)) (fun i off ft hi=> ?_) (fun cells hc=> ?_)
  ·simp only [Q2,hu,Option.some.injEq,Prod.mk.injEq] at hi
   obtain ⟨rfl,rfl⟩:=hi
   simp [Ag,hie]
  ·unfold Program.built
   simp only [hi,hu,hzz,hie]
   exact hc
 ·cases hp
end
end Go.X
/- Operations, eighth part: arrays of one's own. -/
namespace Go.X
open Go Go.RowKit
section
variable {P:Program} {w0:Fr} {Oe:Nat→Option Nat} {η:List PV} {σ:St} {a:Act} {tm:Array Value} {w:World} {β:Nat→Nat} {hv:Nat→Value} {O:Nat→Option Nat} {G:Option E} {o:Oper} {ws:List W}
theorem Own.mono {B B':Nat→Prop} {e size n:Nat} {v:Value} {xs:List Value} (h:Own w B e size v n xs) (hb:∀g,B g→B' g):Own w B' e size v n xs:=by
 refine ⟨h.1,?_⟩
 rcases h.2 with h1|⟨g,cap,cur,h1,h2,h3,h4⟩
 ·exact .inl h1
 ·exact .inr ⟨g,cap,cur,h1,h2,hb g h3,h4⟩
theorem Rel.own {w':World} {O':Nat→Option Nat} {s e sz n:Nat} {ro:Bool} {x:E} {v:Value} {xs:List PV} {vs:List Value} (h:Rel w0 Oe η σ tm w β hv O)
  (hb:Blw w.heap.size w w') (hO:∀c,c<w.heap.size→O' c=O c) (hout:∀c,w'.heap.size≤c→O' c=none) (hO0:∀g,B5 v=some g→O' g=some 0)
  (hsz:0<sz) (hx:x.ev η=some (.l sz xs)) (how:Own w' (Cg8 w.heap.size) e sz v xs.length vs) (hel:Hm (Bg w' O') sz xs vs):
  ∃β' hv',Rel w0 Oe η (σ.eff (Gb σ.m n s (.arr e sz x ro))) tm w' β' hv' O'∧hv' s=v:=by
 let β':=fun s'=>if s'=s then (B5 v).getD 0 else β s'
 let hv':=fun s'=>if s'=s then v else hv s'
 have hβ:∀s',s'≠s→β' s'=β s':=fun s' hs=>if_neg hs
 have hhv:∀s',s'≠s→hv' s'=hv s':=fun s' hs=>if_neg hs
 have hβs:β' s=(B5 v).getD 0:=if_pos rfl
 have hhvs:hv' s=v:=if_pos rfl
 have hs0:w0.heap.size≤w.heap.size:=h.bel.size
 have hM:(Bg w O).Le (Bg w' O'):=Gy (fun c hc _=>hb.block c hc) (fun c hc lim hl=>⟨lim,by rw [←hO c hc];exact hl,Ac _⟩) (fun c hc hn=>by rw [hO c hc];exact hn)
 refine ⟨β',hv',h.fresh (h.bel.then hb) hM hβ hhv (fun s' b' hs hb' hh=> ?_) (fun c hc hx=>by rw [hO c (E3 hc hs0)];exact h.ext c hc hx) hout ?_ (fun s' b' hs hb' hh hh2=> ?_),hhvs⟩
 ·have hlt:=((h.mem s' b' hb').lt hh).2
  exact ⟨hb.block _ hlt,hO _ hlt⟩
 ·refine ⟨hsz,xs,vs,hx,?_,hel,fun g hg=> ?_⟩
  ·show Own w' w0.ok e sz (hv' s) xs.length vs
   rw [hhvs];exact how.mono fun g hg=> .inl (Dy hs0 hg)
  ·have hg':B5 (hv' s)=some g:=hg
   rw [hhvs] at hg'
   refine ⟨?_,0,hO0 g hg',C4 _,fun _=>rfl⟩
   show g=β' s
   rw [hβs,hg'];rfl
 ·have hlt:β s'<w.heap.size:=((h.mem s' b' hb').lt hh).2
  have hh2':B5 (hv' s)=some (β' s):=hh2
  rw [hhvs] at hh2'
  have:=(how.lt _ hh2').1
  omega
theorem Rel.ownNew {w':World} {s e sz n:Nat} {ro:Bool} {x:E} {v:Value} {xs:List PV} {vs:List Value} (h:Rel w0 Oe η σ tm w β hv O)
  (hb:Blw w.heap.size w w') (hw:w.heap.size+1≤w'.heap.size) (hv1:∀g,B5 v=some g→g=w.heap.size)
  (hsz:0<sz) (hx:x.ev η=some (.l sz xs)) (how:Own w' (Cg8 w.heap.size) e sz v xs.length vs) (hel:Hm (Bg w O) sz xs vs):
  ∃β' hv' O',Rel w0 Oe η (σ.eff (Gb σ.m n s (.arr e sz x ro))) tm w' β' hv' O'∧hv' s=v:=by
 let O':=fun c=>if c=w.heap.size then some 0 else O c
 have hO:∀c,c<w.heap.size→O' c=O c:=fun c hc=>if_neg (by omega)
 have hM:(Bg w O).Le (Bg w' O'):=Gy (fun c hc _=>hb.block c hc) (fun c hc lim hl=>⟨lim,by rw [←hO c hc];exact hl,Ac _⟩) (fun c hc hn=>by rw [hO c hc];exact hn)
 obtain ⟨β',hv',h1,h2⟩:=h.own (n:=n) (s:=s) (O':=O') hb hO (fun c hc=>by show (if c=w.heap.size then some 0 else O c)=none;rw [if_neg (by omega)];exact h.out c (by omega)) (fun g hg=>by rw [hv1 g hg];exact if_pos rfl) hsz hx how (hel.mono hM)
 exact ⟨β',hv',O',h1,h2⟩
theorem Aj3 {M:Vw} {sz:Nat} (hsz:0<sz) {ps:List PV} {vs:List Value} (hl:ps.length=vs.length) (hok:Q5 sz ps=true) (h1:∀v,v∈vs→v.cells.size=sz∧∀u,u∈v.cells.toList→One u)
  (h:∀(j:Nat) (p:PV) (v:Value),ps[j]? =some p→vs[j]? =some v→Rep M p v):Hm M sz ps (vs.flatMap fun v=>v.cells.toList):=by
 intro i x hx
 have hxs:x.cells.length=sz:=by
  have:=(Bj.1 hok) x (A6 hx)
  simpa using this
 refine ⟨hxs,fun j c hc=> ?_⟩
 have hj:j<sz:=by rw [←hxs];exact (Ak.1 hc).1
 have hi:i<vs.length:=by rw [←hl];exact (Ak.1 hx).1
 have hv:vs[i]? =some vs[i]:=Ay hi
 obtain ⟨g1,g2⟩:=h1 _ (Dh hi)
 have hk:(vs.flatMap fun v=>v.cells.toList)[i*sz+j]? =vs[i].cells[j]? :=by
  rw [Great.flat_get hsz vs (fun v hv=>(h1 v hv).1)]
  have e1:(i*sz+j) / sz=i:=by rw [Em,Nat.mul_add_div hsz,Nat.div_eq_of_lt hj,Dl]
  have e2:(i*sz+j) % sz=j:=by rw [Em,Xh,D2 hj]
  rw [e1,e2,hv];rfl
 have hu:vs[i].cells[j]? =some (vs[i].cells[j]'(by omega)):=C9 (by omega)
 refine ⟨_,hk.trans hu,g2 _ (by simp),?_⟩
 have hr:=h i x _ hx hv
 by_cases hpu:x= .u
 ·subst hpu
  cases j with
  |zero=>simp [PV.cells] at hc;subst hc;exact .u _
  |succ j=>simp [PV.cells] at hc
 ·exact (hr.cells hpu).2.2 j c _ hc hu
theorem Uw {C:Cx} {m:List (Nat×Blk)} (hm:C.m=m) (harr:∀s e sz x ro,mget m s=some (.arr e sz x ro)→One (C.hv s)) {e:TypeId}:∀{svs:List SV} {vs:List Value} {ws:List W},Rs P m e svs=some ws→(∀x,W.chk x∈ws→∃p,x.ev C.η=some p)→A7 C svs vs→
  ∀v,v∈vs→v.cells.size=Ag P e∧∀u,u∈v.cells.toList→One u
 |[],vs,ws,_,_,hr,v,hv=>by simp only [A7] at hr;subst hr;simp at hv
 |sv::svs,vs,ws,h,hk,hr,v,hv=>by
  simp only [A7] at hr
  obtain ⟨y,r,rfl,h1,h2⟩:=hr
  simp only [Rs] at h
  split at h
  ·rename_i ws1 cs1 ws2 hc hrec
   injection h with h;subst h
   rcases Ah.1 hv with rfl|hv
   ·obtain ⟨c1,_,c3,_⟩:=Jy hm hc (fun x hx=>hk x (Cb _ hx)) harr h1
    exact ⟨c1,c3⟩
   ·exact Uw hm harr hrec (fun x hx=>hk x (Bh _ hx)) h2 v hv
  ·cases h
theorem Ln.svs {C:Cx}:∀{vs:List (Nat×SV)} {ps:List (Nat×Value)},Ln C vs ps→A7 C (vs.map (·.2)) (ps.map (·.2))∧vs.map (·.1)=ps.map (·.1)
 |[],[],_=>by simp only [List.map_nil,A7,and_self]
 |[],_::_,h=>h.elim
 |_::_,[],h=>h.elim
 |x::xs,y::ys,h=>by
  obtain ⟨h1,h2,h3⟩:=h
  obtain ⟨g1,g2⟩:=Ln.svs h3
  refine ⟨?_,by simp only [Ec,h1,g2]⟩
  simp only [Ec,A7]
  exact ⟨_,_,rfl,h2,g1⟩
theorem Xl:∀(ps:List (Nat×Value)) (k:Nat),ps.map (·.1)=List.range' k ps.length→ps=((ps.map (·.2)).zipIdx k).map fun x=>(x.2,x.1)
 |[],_,_=>rfl
 |p::ps,k,h=>by
  simp only [Ec,As,List.range'_succ,List.cons.injEq] at h
  simp only [Ec,List.zipIdx_cons,List.cons.injEq]
  exact ⟨by rw [←h.1],Xl ps (k+1) h.2⟩
end
end Go.X
/- Operations, ninth part: slice literals, make. -/
namespace Go.X
open Go Go.RowKit
section
variable {P:Program} {w0:Fr} {Oe:Nat→Option Nat} {η:List PV} {σ:St} {a:Act} {tm:Array Value} {w:World} {β:Nat→Nat} {hv:Nat→Value} {O:Nat→Option Nat} {G:Option E} {o:Oper} {ws:List W}
theorem M2 (w:World) (t e:TypeId) (len:Nat) (parts:Array (Nat×Value)) (vs:List Value) (ie:TypeInfo) (z:Value)
  (hu:P.underlying t=some (.slice e)) (hie:P.info? e=some ie) (hz:ie.zero=some z) (hsmall:len*ie.size≤16777216) (hpos:0<ie.size) (hl:vs.length=len) (h1:∀v,v∈vs→v.cells.size=ie.size)
  (hp:parts.toList=(vs.zipIdx 0).map fun x=>(x.2,x.1)):
  (Instr.buildSlice t len parts).run P w= .ok (.slice (some ⟨w.heap.size,0,none⟩) len len) (w.alloc (.cells (vs.flatMap fun v=>v.cells.toList).toArray e)):=by
 by_cases h0:len=0
 ·subst h0
  have hvs:vs=[]:=Bv hl
  subst hvs
  have hpe:parts= #[]:=by rw [←Cd (xs:=parts),hp];rfl
  subst hpe
  simp [Instr.buildSlice,run_underlying hu,sizeOf,typeInfo,hie,Instr.fill,newRow]
  congr 2
  exact Array.eq_empty_of_size_eq_zero (by simp)
 ·have hlp:0<len*ie.size:=Nat.mul_pos (by omega) hpos
  refine run_buildSlice w t e len parts _ ie z hu hie hz (by omega) (by omega) ?_
  rw [hp]
  exact Great.fill_whole hpos vs _ h1 (by simp [hl])
theorem M4 {t e:TypeId} {len:Nat} {parts:Array (Nat×Operand)} {tf:Nat→TypeId} {zs:List SV} {vs:List (Nat×SV)} {ws1:List W} {es:List E} {ss:List Nat} {s:Nat} {own:Bool} {r:SV} {ε:Eff} (ho:o.op= .buildSlice t len parts) (ht:P.underlying t=some (.slice e))
  (h:Rel w0 Oe η σ a.tmps w β hv O) (hG:GOk η G) (hz:G9 P e=some zs) (hvs:Ar1 P σ G tf parts.toList=some vs) (hr0:vs.map (·.1)=List.range len) (hsm:len*Ag P e≤16777216) (hsz:Ag P e≠0)
  (hel:Rs P σ.m e (vs.map (·.2))=some ws1) (hes:d4 σ.m (vs.map (·.2))=some (es,ss)) (hk:Chk η (ws1++[.chk (.lit (Ag P e) es)]))
  (hres:own=false∧r= .lit (Ag P e) (.lit (Ag P e) es)∧ε=⟨Ks ss σ.m,σ.n,none⟩∨own=true∧r= .h s∧ε=Gb (Ks ss σ.m) σ.n s (.arr e (Ag P e) (.lit (Ag P e) es) false)):
  Db P o a w (Fs w0 Oe η σ a.tmps ε r):=by
 let C:Cx:=⟨η,Bg w O,β,hv,σ.m⟩
 obtain ⟨i,z,hi,hzz,hzs,_,_⟩:=F9 (C:=C) hz
 have his:Ag P e=i.size:=by simp [Ag,hi]
 have hparts:=fb (C:=C) rfl hG h.tmps hvs
 obtain ⟨p1,p2⟩:=hparts.svs
 let us:=(parts.toList.map fun p=>(p.1,a.eval p.2)).map (·.2)
 have hlen:us.length=len:=by
  have e1:(vs.map (·.1)).length=len:=by rw [hr0];simp
  rw [p2] at e1
  simpa [us] using e1
 have hcells:=Uw (C:=C) rfl h.oneH hel (fun x hx=>hk x (Cb _ hx)) p1
 have hpz:(parts.map fun (i,x)=>(i,a.eval x)).toList=(us.zipIdx 0).map fun x=>(x.2,x.1):=by
  have e1:(parts.map fun (i,x)=>(i,a.eval x)).toList=parts.toList.map fun p=>(p.1,a.eval p.2):=by simp
  rw [e1]
  refine Xl _ 0 ?_
  rw [←p2,hr0,List.range_eq_range']
  congr 1
  rw [←hlen];simp [us]
 have hrun:=M2 w t e len _ us i z ht hi hzz (by rw [←his];exact hsm) (by omega) hlen (fun v hv=>by rw [←his];exact (hcells v hv).1) hpz
 obtain ⟨O',hrel,hM,hop,_⟩:=h.frz ss (n:=σ.n)
 obtain ⟨ps,q1,q2,q3⟩:=N1 h hM hes p1 (fun s hs=>hop s (by simpa using hs))
 obtain ⟨q,hq⟩:=hk (.lit (Ag P e) es) (by simp)
 have hq':=hq
 simp only [E.ev,q1,Ax,Jq] at hq'
 split at hq'
 ·rename_i hok
  injection hq' with hq'
  have hel':=Aj3 (M:=Bg w O') (by omega) (q2.trans rfl) hok hcells q3
  let cells:=(us.flatMap fun v=>v.cells.toList).toArray
  have hpl:ps.length=len:=q2.trans hlen
  have hbel:Blw w.heap.size w (w.alloc (.cells cells e)):=(Blw.refl _ _).alloc (Ac _) _
  have hcs:cells.size=len*Ag P e:=by
   have:∀l:List Value,(∀v,v∈l→v.cells.size=Ag P e)→(l.flatMap fun v=>v.cells.toList).length=l.length*Ag P e:=by
    intro l
    induction l with
    |nil=>intro _;simp
    |cons v l ih=>
     intro hl
     rw [Gd,Az,ih (fun u hu=>hl u (.tail _ hu)),Bn,hl v (.head _),As,B7,Fz,Cl3]
   have e1:=this us (fun v hv=>(hcells v hv).1)
   rw [hlen] at e1
   simpa [cells] using e1
  rcases hres with ⟨_,rfl,rfl⟩|⟨_,rfl,rfl⟩
  ·have hrel2:=hrel.below hbel
   have hM2:(Bg w O').Le (Bg (w.alloc (.cells cells e)) O'):=Gy (fun c hc _=>hbel.block c hc) (fun c _ lim hl=>⟨lim,hl,Ac _⟩) (fun c _ hn=>hn)
   have hout:O' w.heap.size=none:=hrel.out _ (Ac _)
   refine Db.value (v:= .slice (some ⟨w.heap.size,0,none⟩) len len) (w':=w.alloc (.cells cells e)) ?_ ⟨β,hv,O',hrel2,?_⟩
   ·simp only [execOp,ho,Sem.run_bind,hrun,Result.andThen];rfl
   ·simp only [Ap]
    refine ⟨ps,some ⟨w.heap.size,0,none⟩,hq.trans (by rw [←hq']),by rw [hpl],?_⟩
    rw [←hpl]
    have get:∀(i:Nat) (x:PV) (j:Nat) (c:PV),ps[i]? =some x→x.cells[j]? =some c→∃u,cells[i*Ag P e+j]? =some u∧One u∧Rep (Bg w O') c u:=by
     intro i x j c hx hc
     obtain ⟨u,g1,g2,g3⟩:=(hel' i x hx).2 j c hc
     exact ⟨u,(List.getElem?_toArray ..).trans g1,g2,g3⟩
    refine .l _ _ _ _ ⟨w.heap.size,0,none⟩ (fun i j=>cells.getD (i*Ag P e+j) undef) (Ac _) (fun _=>rfl) (fun i x hx=>(hel' i x hx).1) (fun i x j c hx hc=> ?_) (fun i x j c hx hc=> ?_) (fun i x j c hx hc=> ?_)
    ·obtain ⟨u,g1,g2,g3⟩:=get i x j c hx hc
     rw [add_lit]
     refine Ew ?_ fun lim hl=> ?_
     ·have:(w.alloc (.cells cells e)).cell? ⟨w.heap.size,0+(i*Ag P e+j),none⟩=cells[0+(i*Ag P e+j)]? :=cell_of_row _ _ _ cells e (0,0) (heap_alloc_new w _)
      rw [this,Ek,g1]
      simp [A9,g1]
     ·rw [show O' w.heap.size=none from hout] at hl;cases hl
    ·obtain ⟨u,g1,g2,g3⟩:=get i x j c hx hc
     simp only [A9,g1,Cn];exact g2
    ·obtain ⟨u,g1,g2,g3⟩:=get i x j c hx hc
     simp only [A9,g1,Cn];exact g3.mono hM2
  ·have hown:=Own.of (World.ownsRow_lit (e:=e) (size:=Ag P e) (base:=w.heap.size) w cells len (Ac _) (by
    have h1:len*1≤len*Ag P e:=Nat.mul_le_mul_left _ (by omega)
    simp only [maxLen];omega) hcs)
   obtain ⟨β',hv',O'',r1,r2⟩:=hrel.ownNew (n:=σ.n) (s:=s) (e:=e) (sz:=Ag P e) (x:= .lit (Ag P e) es) (v:= .slice (some ⟨w.heap.size,0,none⟩) len len) (xs:=ps) (vs:=us.flatMap fun v=>v.cells.toList) hbel (by simp)
    (fun g hg=>by simp only [B5] at hg;split at hg<;>simp at hg;exact hg.symm) (by omega) (hq.trans (by rw [←hq'])) (by rw [hpl];simpa [cells] using hown) hel'
   refine Db.value (v:= .slice (some ⟨w.heap.size,0,none⟩) len len) (w':=w.alloc (.cells cells e)) ?_ ⟨β',hv',O'',r1,?_⟩
   ·simp only [execOp,ho,Sem.run_bind,hrun,Result.andThen];rfl
   ·simp only [Ap];exact r2.symm
 ·cases hq'
end
end Go.X
/- Operations, tenth part: append. -/
namespace Go.X
open Go Go.RowKit
section
variable {P:Program} {w0:Fr} {Oe:Nat→Option Nat} {η:List PV} {σ:St} {a:Act} {tm:Array Value} {w:World} {β:Nat→Nat} {hv:Nat→Value} {O:Nat→Option Nat} {G:Option E} {o:Oper} {ws:List W}
def Src (w:World) (O:Nat→Option Nat) (sz:Nat) (ys:List PV) (v:Value) (news:List Value):Prop:=
 news.length=ys.length*sz∧(∀u,u∈news→One u)∧Hm (Bg w O) sz ys news∧∃b c,v= .slice b ys.length c∧(ys≠[]→∃ad,b=some ad∧∀j u,news[j]? =some u→w.cell? (ad.add j)=some u)
theorem Ab0 {sz:Nat} {ys:List PV} {v:Value} (hsz:0<sz) (hr:Rep (Bg w O) (.l sz ys) v):∃news,Src w O sz ys v news:=by
 cases hr with
 |l _ _ b cap ad el hc hb hs hM h1 hh=>
  have each:∀k,k<ys.length*sz→∃y c,ys[k / sz]? =some y∧y.cells[k % sz]? =some c:=by
   intro k hk
   have hi:k / sz<ys.length:=Nat.div_lt_of_lt_mul (by rw [Em];exact hk)
   have hy:ys[k / sz]? =some ys[k / sz]:=Ay hi
   have hl:=hs _ _ hy
   exact ⟨_,_,hy,Ay (by rw [hl];exact Nat.mod_lt _ hsz)⟩
  refine ⟨(List.range (ys.length*sz)).map fun k=>el (k / sz) (k % sz),by simp,fun u hu=> ?_,fun i x hx=>⟨hs i x hx,fun j c hcj=> ?_⟩,b,cap,rfl,fun hne=>⟨ad,hb hne,fun j u hu=> ?_⟩⟩
  ·simp only [Cs,E5] at hu
   obtain ⟨k,hk,rfl⟩:=hu
   obtain ⟨y,c,hy,hc'⟩:=each k hk
   exact h1 _ _ _ _ hy hc'
  ·have hj:j<sz:=by rw [←hs i x hx];exact (Ak.1 hcj).1
   have hi:=(Ak.1 hx).1
   have hlt:i*sz+j<ys.length*sz:=by
    have:(i+1)*sz≤ys.length*sz:=Bz _ hi
    rw [B7,Fz] at this;omega
   have e1:(i*sz+j) / sz=i:=by rw [Em,Nat.mul_add_div hsz,Nat.div_eq_of_lt hj,Dl]
   have e2:(i*sz+j) % sz=j:=by rw [Em,Xh,D2 hj]
   refine ⟨el i j,?_,h1 i x j c hx hcj,hh i x j c hx hcj⟩
   rw [By,Cj hlt]
   simp only [A0,e1,e2]
  ·simp only [By,Aw] at hu
   obtain ⟨k,hk,rfl⟩:=hu
   have hk1:=(Ak.1 hk).1
   simp only [lj] at hk1
   rw [Cj hk1] at hk
   injection hk with hk;subst hk
   obtain ⟨y,c,hy,hc'⟩:=each j hk1
   have:=(Ky (hM _ _ _ _ hy hc')).1
   rwa [show j / sz*sz+j % sz=j by rw [Em];exact Nat.div_add_mod j sz] at this
theorem Fq1 {s e sz:Nat} {y:E} {ro:Bool} {ys:List PV} (h:Rel w0 Oe η σ tm w β hv O) (hb:mget σ.m s=some (.arr e sz y ro)) (hy:y.ev η=some (.l sz ys)):∃news,Src w O sz ys (hv s) news:=by
 obtain ⟨h0,xs,vs,g1,g2,g3,g4⟩:=h.mem s _ hb
 have g1':y.ev η=some (.l sz xs):=g1
 rw [hy] at g1'
 injection g1' with g1'
 injection g1' with _ g1'
 subst g1'
 have hl:=g2.1
 refine ⟨vs,hl,fun u hu=> ?_,g3,?_⟩
 ·obtain ⟨k,hk⟩:=Dv hu
  have hk1:=(Ak.1 hk).1
  rw [hl] at hk1
  have hi:k / sz<ys.length:=Nat.div_lt_of_lt_mul (by rw [Em];exact hk1)
  obtain ⟨l1,l2⟩:=g3 (k / sz) _ (Ay hi)
  obtain ⟨u',m1,m2,_⟩:=l2 (k % sz) _ (Ay (by rw [l1];exact Nat.mod_lt _ h0))
  rw [show k / sz*sz+k % sz=k by rw [Em];exact Nat.div_add_mod k sz,hk] at m1
  injection m1 with m1;subst m1;exact m2
 ·rcases g2.2 with ⟨b,e1,e2⟩|⟨g,cap,cur,e1,e1c,_⟩
  ·exact ⟨b,0,by rw [e2];exact e1,fun hne=>absurd (Bv e2) hne⟩
  ·exact ⟨_,cap,e1,fun _=>⟨_,rfl,fun j u hu=>g2.cells (g:=g) (by rw [e1];simp only [B5,if_neg (show¬cap=0 by omega)]) j u hu⟩⟩
theorem Pz (t ty e:TypeId) (i:TypeInfo) (z:Value) (ht:P.underlying t=some (.slice e)) (hi:P.info? e=some i) (hz:i.zero=some z)
  (b:Option Addr) (ad:Addr) (n c:Nat) (news:List Value) (hl:news.length=n*i.size) (hnews:∀j v,news[j]? =some v→w.cell? (ad.add j)=some v)
  (h0:0<n) (h63:(n:Int)≤9223372036854775807) (h48:n*i.bytes≤281474976710656):
  (Builtin.append_ #[t,t] ty #[.slice b 0 0, .slice (some ad) n c]).run P w=
   .ok (.slice (some ⟨w.heap.size,0,none⟩) n (grownCap w n 0 e)) (w.drew.alloc (.cells (news.toArray++Builtin.zeroCells z.cells (grownCap w n 0 e - n)) e)):=by
 cases b with
 |none=>exact run_append_nil w t ty e i z ht hi hz ad n c news hl hnews h0 h63 h48
 |some b=>
  have hn:n≠0:=by omega
  have h63':¬(9223372036854775807<(n:Int)):=by omega
  have h48':¬(281474976710656<Builtin.nextslicecap n 0*i.bytes):=by rw [nextslicecap_zero h0];omega
  have hf:=run_firstCells_some (P:=P) w.drew i.size n ad n c news hl (by simpa using hnews)
  have hf0:=run_firstCells_some (P:=P) w.drew i.size 0 b 0 0 [] (by simp) (by simp)
  simp [Builtin.append_,run_underlying ht,sizeOf,typeInfo,zeroValue,hi,hz,Builtin.lenOf,hn,h63',h48',Question.forced,hf0,hf,newRow,grownCap]
theorem Qp (t ty e:TypeId) (ht:P.underlying t=some (.slice e)) (hi:(P.info? e).isSome) (b b':Option Addr) (n cap c:Nat) (hn:n≤cap):
  (Builtin.append_ #[t,t] ty #[.slice b n cap, .slice b' 0 c]).run P w= .ok (.slice b n cap) w:=by
 obtain ⟨i,hi⟩:=Cq.1 hi
 have hf0:∀b' c,(Builtin.firstCells i.size 0 (.slice b' 0 c)).run P w= .ok #[] w:=by
  intro b' c
  cases b' with
  |none=>simp [Builtin.firstCells]
  |some ad=>exact run_firstCells_some (P:=P) w i.size 0 ad 0 c [] (by simp) (by simp)
 cases b<;>simp [Builtin.append_,run_underlying ht,sizeOf,typeInfo,hi,Builtin.lenOf,hn,hf0,storeCells]
theorem Hm.append {M:Vw} {sz:Nat} {xs ys:List PV} {vs us:List Value} (hl:vs.length=xs.length*sz) (h1:Hm M sz xs vs) (h2:Hm M sz ys us):Hm M sz (xs++ys) (vs++us):=by
 intro i x hx
 rw [List.getElem?_append] at hx
 split at hx
 ·rename_i hi
  obtain ⟨g1,g2⟩:=h1 i x hx
  refine ⟨g1,fun j c hc=> ?_⟩
  obtain ⟨u,k1,k2,k3⟩:=g2 j c hc
  exact ⟨u,by rw [A8 (Ak.1 k1).1];exact k1,k2,k3⟩
 ·rename_i hi
  obtain ⟨g1,g2⟩:=h2 _ x hx
  refine ⟨g1,fun j c hc=> ?_⟩
  obtain ⟨u,k1,k2,k3⟩:=g2 j c hc
  have hle:xs.length*sz≤i*sz:=Bz _ (by omega)
  refine ⟨u,?_,k2,k3⟩
  rw [A5 (by omega),hl]
  have:i*sz+j - xs.length*sz=(i - xs.length)*sz+j:=by rw [Nat.mul_sub_right_distrib];omega
  rw [this];exact k1
theorem dp {w w':World} {O:Nat→Option Nat} {g lim:Nat} (hO:O g=some lim) (hb:∀c,c≠g→w'.heap[c]? =w.heap[c]?) (hg:∀(a:Addr) (v:Value),a.block=g→a.off<lim→w.cell? a=some v→w'.cell? a=some v):(Bg w O).Le (Bg w' O):=by
 constructor
 ·intro a v h
  obtain ⟨h1,h2⟩:=Ky h
  by_cases ha:a.block=g
  ·have:=h2 lim (by rw [ha];exact hO)
   exact Ew (hg a v ha this h1) h2
  ·refine Ew ?_ h2
   rw [World.cell?_of_block (hb a.block ha)];exact h1
 ·intro r es h
  obtain ⟨h1,c,h2⟩:=U5 h
  have hr:r≠g:=fun e=>by subst e;rw [hO] at h1;cases h1
  exact L8 h1 (by rw [hb r hr];exact h2)
theorem fj {c:Call} {d x:Operand} {t u:TypeId} (ho:o.op= .call c) (hc:c.callee= .builtin .append) (ha:c.args.toList=[d,x]) (hty:c.argTypes.toList=[t,u]) {v:Value} {w':World}
  (h:(Builtin.append_ #[t,u] o.type #[a.eval d,a.eval x]).run P w= .ok v w'):(execOp a.eval o).run P w= .ok (.value v) w':=by
 have hargs:c.args= #[d,x]:=by rw [←Cd (xs:=c.args),ha]
 have htys:c.argTypes= #[t,u]:=by rw [←Cd (xs:=c.argTypes),hty]
 simp [execOp,ho,resolve,hc,hargs,htys,invoke,builtin,h]
structure SrcR (P:Program) (w:World) (O:Nat→Option Nat) (t u ty e:TypeId) (ys:List PV) (vx:Value) (news:List Value):Prop where
 len:news.length=ys.length*Ag P e
 one:∀u,u∈news→One u
 el:Hm (Bg w O) (Ag P e) ys news
 none:ys=[]→∀(b:Option Addr) (n cap:Nat),n≤cap→(Builtin.append_ #[t,u] ty #[.slice b n cap,vx]).run P w= .ok (.slice b n cap) w
 fresh:ys≠[]→ys.length≤LIM→∀(i:TypeInfo) (z:Value) (b:Option Addr),P.info? e=some i→i.zero=some z→i.bytes≤65536→(Builtin.append_ #[t,u] ty #[.slice b 0 0,vx]).run P w=
   .ok (.slice (some ⟨w.heap.size,0, .none⟩) ys.length (grownCap w ys.length 0 e)) (w.drew.alloc (.cells (news.toArray++Builtin.zeroCells z.cells (grownCap w ys.length 0 e - ys.length)) e))
 room:ys≠[]→∀(i:TypeInfo) (g sLen sCap:Nat) (cur:Array Value),P.info? e=some i→w.heap[g]? =some (.cells cur e (0,0))→sLen+ys.length≤sCap→sLen*i.size+news.length≤cur.size→
   (Builtin.append_ #[t,u] ty #[.slice (some ⟨g,0, .none⟩) sLen sCap,vx]).run P w= .ok (.slice (some ⟨g,0, .none⟩) (sLen+ys.length) sCap) (w.setRow g (cur.toList.take (sLen*i.size)++news++cur.toList.drop (sLen*i.size+news.length)).toArray)
 grow:ys≠[]→∀(i:TypeInfo) (z:Value) (ad:Addr) (sLen sCap:Nat) (olds:List Value),P.info? e=some i→i.zero=some z→i.bytes≤65536→olds.length=sLen*i.size→(∀j v,olds[j]? =some v→w.cell? (ad.add j)=some v)→sCap<sLen+ys.length→sLen+ys.length≤LIM→
   (Builtin.append_ #[t,u] ty #[.slice (some ad) sLen sCap,vx]).run P w= .ok (.slice (some ⟨w.heap.size,0, .none⟩) (sLen+ys.length) (grownCap w (sLen+ys.length) sCap e))
    (w.drew.alloc (.cells (olds.toArray++news.toArray++Builtin.zeroCells z.cells (grownCap w (sLen+ys.length) sCap e - (sLen+ys.length))) e))
theorem Src.runs {t ty e:TypeId} {ys:List PV} {vx:Value} {news:List Value} (ht:P.underlying t=some (.slice e)) (hi0:(P.info? e).isSome=true) (h:Src w O (Ag P e) ys vx news):SrcR P w O t t ty e ys vx news:=by
 obtain ⟨hl,h1,hel,bb,c,rfl,hcells⟩:=h
 have size:∀i,P.info? e=some i→Ag P e=i.size:=fun i hi=>by simp [Ag,hi]
 refine ⟨hl,h1,hel,fun hy b n cap hn=> ?_,fun hy hlim i z b hi hz hbb=> ?_,fun hy i g sLen sCap cur hi hg hroom hfit=> ?_,fun hy i z ad0 sLen sCap olds hi hz hbb hlo holds hgr hlim=> ?_⟩
 ·subst hy
  exact Qp t ty e ht hi0 b bb n cap c hn
 ·obtain ⟨ad,rfl,hcell⟩:=hcells hy
  have hpos:0<ys.length:=Bw.2 hy
  simp only [LIM] at hlim
  have hb2:ys.length*i.bytes≤1073741824*65536:=Gc hlim hbb
  exact Pz (P:=P) (w:=w) t ty e i z ht hi hz b ad ys.length c news (by rw [←size i hi];exact hl) hcell hpos (by omega) (by omega)
 ·obtain ⟨ad,rfl,hcell⟩:=hcells hy
  exact run_append_room (P:=P) w t ty e i ht hi g sLen sCap cur hg ad ys.length c news (by rw [←size i hi];exact hl) hcell h1 hroom hfit
 ·obtain ⟨ad,rfl,hcell⟩:=hcells hy
  simp only [LIM] at hlim
  have hb2:(sLen+ys.length)*i.bytes≤1073741824*65536:=Gc hlim hbb
  exact run_append_grow (P:=P) w t ty e i z ht hi hz ad0 sLen sCap olds hlo holds ad ys.length c news (by rw [←size i hi];exact hl) hcell hgr (by omega) (growslice_fits (by omega) (by omega))
theorem I5 {t u ty e:TypeId} {s:Nat} {b:Option Addr} {ys:List PV} {news:List Value} {vx:Value} {X:E} {ro:Bool} {n':Nat} (h:Rel w0 Oe η σ tm w β hv O) (hinfo:C6 P e=true)
  {i:TypeInfo} {z:Value} (hi:P.info? e=some i) (hz:i.zero=some z) (hzs:z.cells.size=i.size) (hsrc:SrcR P w O t u ty e ys vx news) (hX:X.ev η=some (.l (Ag P e) ys)) (hlim:ys.length≤LIM):
  ∃v' w' β' hv' O',(Builtin.append_ #[t,u] ty #[.slice b 0 0,vx]).run P w= .ok v' w'∧Rel w0 Oe η (σ.eff (Gb σ.m n' s (.arr e (Ag P e) X ro))) tm w' β' hv' O'∧hv' s=v':=by
 have his:Ag P e=i.size:=by simp [Ag,hi]
 have hib:Im P e=i.bytes:=by simp [Im,hi]
 simp only [C6,Aq,decide_eq_true_eq] at hinfo
 obtain ⟨⟨hb0,hb1⟩,hsz⟩:=hinfo
 have hl:=hsrc.len
 have hel:=hsrc.el
 by_cases hy:ys=[]
 ·subst hy
  have hn0:news=[]:=Bv (by simpa using hl)
  subst hn0
  obtain ⟨β',hv',r1,r2⟩:=h.own (n:=n') (s:=s) (e:=e) (ro:=ro) (x:=X) (v:= .slice b 0 0) (xs:=[]) (vs:=[]) (w':=w) (O':=O) (Blw.refl _ _) (fun _ _=>rfl) h.out (fun g hg=>by cases b<;>simp [B5] at hg) hsz hX
   ⟨by simp, .inl ⟨b,rfl,rfl⟩⟩ (fun i x hx=>by simp at hx)
  exact ⟨_,w,β',hv',O,hsrc.none rfl b 0 0 (Ac _),r1,r2⟩
 ·have hpos:0<ys.length:=Bw.2 hy
  have hrun:=hsrc.fresh hy hlim i z b hi hz (by omega)
  simp only [LIM] at hlim
  generalize hC:(news.toArray++Builtin.zeroCells z.cells (grownCap w ys.length 0 e - ys.length))=C at hrun
  have hge:=grownCap_ge w ys.length 0 e
  have hmx:=grownCap_le_maxLen w ys.length 0 e (by simp only [maxLen];omega)
  have hbel:Blw w.heap.size w (w.drew.alloc (.cells C e)):=((Blw.refl _ _).drew).alloc (Ac _) _
  have hCs:C.size=grownCap w ys.length 0 e*Ag P e:=by
   rw [←hC,Mm,size_zeroCells,If,hl,hzs,←his,←B7]
   congr 1;omega
  have hown:Own (w.drew.alloc (.cells C e)) (Cg8 w.heap.size) e (Ag P e) (.slice (some ⟨w.heap.size,0,none⟩) ys.length (grownCap w ys.length 0 e)) ys.length news:=by
   refine ⟨hl, .inr ⟨w.heap.size,_,C,rfl,by omega,Ac _,heap_alloc_new w.drew _,hge,hmx,hCs,?_⟩⟩
   rw [←hC,Pl,←hl]
   exact List.take_left
  obtain ⟨β',hv',O',r1,r2⟩:=h.ownNew (n:=n') (s:=s) (e:=e) (ro:=ro) (x:=X) (xs:=ys) (vs:=news) hbel (by simp) (fun g hg=>by simp only [B5] at hg;split at hg<;>simp at hg;exact hg.symm) hsz hX hown hel
  exact ⟨_,_,β',hv',O',hrun,r1,r2⟩
end
end Go.X
