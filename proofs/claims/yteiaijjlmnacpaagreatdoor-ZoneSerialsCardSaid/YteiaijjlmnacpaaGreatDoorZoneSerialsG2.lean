/- Operations, eleventh part: append to an array of one's own. -/
import Derived.Test.YteiaijjlmnacpaaGreatDoorZoneSerialsG1
import Derived.Test.YteiaijjlmnacpaaGreatDoorZoneSerialsG0
import Derived.Lib.AppendZerosOnto
import Derived.Lib.Builder
import Derived.Lib.AppendStr
import Derived.Lib.UnsafeStr
import Derived.Lib.Strings
import Derived.Lib.Walk
import Derived.WalkKit
import Derived.Laws.Externs
import Derived.OwnWalk
import Derived.MapKept
open Array renaming getElem?_toList→Ad,getD_eq_getD_getElem?→A9,length_toList→Bn,getElem?_eq_some_iff→B3,getElem?_append_left→Cv,toArray_toList→Cd,getElem?_eq_getElem→C9,getElem?_modify→Fh,size_append→Mm,toList_append→Pl,getElem?_map→Um,append_empty→Un,getElem?_range→Aw1
open Bool renaming and_eq_true→Aq,false_eq_true→Ab,or_eq_true→Am,not_eq_true'→A3,not_eq_false→Dm,and_true→J6
open Int renaming toNat_natCast→Gf,le_refl→Ib1
open List renaming getElem?_eq_some_iff→Ak,getElem?_eq_getElem→Ay,length_append→Az,mem_cons→Ah,length_take→Al,append_assoc→Ar,getElem?_append_right→A5,mem_of_getElem?→A6,getElem?_append_left→A8,eq_nil_of_length_eq_zero→Bv,length_pos_iff→Bw,getElem?_map→By,getElem?_take→Bb,length_nil→Bc,getD_eq_getElem?_getD→Bf,mem_append_right→Bh,length_drop→Bs,mem_singleton→B4,getElem?_range→Cj,getElem?_cons_zero→Cc,getElem?_set→C0,getElem?_cons_succ→C7,getElem?_of_mem→Dv,getElem_mem→Dh,mem_cons_self→F5,size_toArray→If,getElem?_replicate→Ih,mem_cons_of_mem→Mh,length_replicate→dx,getElem?_eq_none→dz,take_take→Av9
open Nat renaming le_refl→Ac,mul_le_mul_right→Bz,add_mul→B7,zero_le→C4,le_trans→Dy,add_zero→Dl,mod_eq_of_lt→D2,zero_add→Ek,add_assoc→Eb,mul_comm→Em,lt_of_lt_of_le→E3,one_mul→Fz,mul_le_mul→Gc,min_eq_left→Md,add_sub_cancel→Uh,mul_add_mod→Xh,mul_one→Av8,sub_self→Cl2,add_comm→Cl3
open Option renaming bind_eq_some_iff→Aj,map_eq_some_iff→Aw,bind_some→Ax,map_some→A0,isNone_iff_eq_none→B8,isSome_iff_exists→Cq,getD_some→Cn
set_option maxHeartbeats 1000000
set_option linter.unusedVariables false
set_option linter.unusedSimpArgs false
namespace Go.X
open Go Go.RowKit
section
variable {P:Program} {w0:Fr} {Oe:Nat→Option Nat} {η:List PV} {σ:St} {a:Act} {tm:Array Value} {w:World} {β:Nat→Nat} {hv:Nat→Value} {O:Nat→Option Nat} {G:Option E} {o:Oper} {ws:List W}
theorem Uc {t u ty e:TypeId} {s:Nat} {xs ys:List PV} {news:List Value} {vx:Value} {y X:E} {ro:Bool} {n':Nat} (h:Rel w0 Oe η σ tm w β hv O) (hinfo:C6 P e=true)
  {i:TypeInfo} {z:Value} (hi:P.info? e=some i) (hz:i.zero=some z) (hzs:z.cells.size=i.size) (hb:mget σ.m s=some (.arr e (Ag P e) y ro)) (hy:y.ev η=some (.l (Ag P e) xs)) 
  (hsrc:SrcR P w O t u ty e ys vx news) (hX:X.ev η=some (.l (Ag P e) (xs++ys))) (hlim:xs.length+ys.length≤LIM):
  ∃v' w' β' hv' O',(Builtin.append_ #[t,u] ty #[hv s,vx]).run P w= .ok v' w'∧Rel w0 Oe η (σ.eff (Gb σ.m n' s (.arr e (Ag P e) X ro))) tm w' β' hv' O'∧hv' s=v':=by
 obtain ⟨h0,xs',vs,g1,g2,g3,g4⟩:=h.mem s _ hb
 have g1':y.ev η=some (.l (Ag P e) xs'):=g1
 rw [hy] at g1'
 injection g1' with g1'
 injection g1' with _ g1'
 subst g1'
 rcases g2.2 with ⟨b,e1,e2⟩|⟨g,cap,cur,e1,e1c,e2,e3,e4,e5,e6,e7⟩
 ·have e1':hv s= .slice b 0 0:=e1
  have hx0:xs=[]:=Bv e2
  subst hx0
  rw [e1']
  exact I5 h hinfo hi hz hzs hsrc hX (by simpa using hlim)
 ·have e1':hv s= .slice (some ⟨g,0,none⟩) xs.length cap:=e1
  have his:Ag P e=i.size:=by simp [Ag,hi]
  have hhas:Has ⟨η,Bg w O,β,hv,σ.m⟩ s (.arr e (Ag P e) y ro):=by
   have hg:B5 (hv s)=some g:=by rw [e1'];simp only [B5,if_neg (show¬cap=0 by omega)]
   have:=(g4 g hg).1
   have h3:g=β s:=this
   show B5 (hv s)=some (β s)
   rw [hg,h3]
  have hg:B5 (hv s)=some g:=by rw [e1'];simp only [B5,if_neg (show¬cap=0 by omega)]
  obtain ⟨hgβ,lim,hOg,hlim1,hlim2⟩:=g4 g hg
  have hgβ':g=β s:=hgβ
  have hinfo':=hinfo
  simp only [C6,Aq,decide_eq_true_eq] at hinfo'
  obtain ⟨⟨hb0,hb1⟩,hsz⟩:=hinfo'
  have hib:Im P e=i.bytes:=by simp [Im,hi]
  have hl:=hsrc.len
  have h1:=hsrc.one
  have hel:=hsrc.el
  have hlim0:=hlim
  simp only [LIM] at hlim
  have keep:∀(w':World) (cur':Array Value),(∀c,c≠g→w'.heap[c]? =w.heap[c]?)→w'.heap[g]? =some (.cells cur' e (0,0))→w'.heap.size=w.heap.size→Bel w0 w'→cur'.size=cap*Ag P e→xs.length+ys.length≤cap→cur'.toList.take ((xs.length+ys.length)*Ag P e)=vs++news→
    (Builtin.append_ #[t,u] ty #[hv s,vx]).run P w= .ok (.slice (some ⟨g,0,none⟩) (xs.length+ys.length) cap) w'→
    ∃v' w' β' hv' O',(Builtin.append_ #[t,u] ty #[hv s,vx]).run P w= .ok v' w'∧Rel w0 Oe η (σ.eff (Gb σ.m n' s (.arr e (Ag P e) X ro))) tm w' β' hv' O'∧hv' s=v':=by
   intro w' cur' hoth hnew hsize hbel hcs hcap htake hrun
   let hv':=fun s'=>if s'=s then (.slice (some ⟨g,0,none⟩) (xs.length+ys.length) cap:Value) else hv s'
   have hhv:∀s',s'≠s→hv' s'=hv s':=fun s' hs=>if_neg hs
   have hhvs:hv' s= .slice (some ⟨g,0,none⟩) (xs.length+ys.length) cap:=if_pos rfl
   have hlenvs:vs.length=xs.length*Ag P e:=g2.1
   have hM:(Bg w O).Le (Bg w' O):=by
    refine dp hOg hoth fun ad v hab hoff hcell=> ?_
    have hold:w.cell? ⟨g,ad.off,none⟩=cur[ad.off]? :=cell_of_row w g ad.off cur e (0,0) e3
    have c1:w.cell? ad=w.cell? ⟨g,ad.off,none⟩∧w'.cell? ad=w'.cell? ⟨g,ad.off,none⟩∨w.cell? ad=none:=by
     cases hsp:ad.spot with
     |none=>left;rw [←hab];constructor<;>(congr 1;cases ad;simp_all)
     |some sp=>right;simp only [World.cell?,hsp];split<;>simp
    rcases c1 with ⟨c1,c2⟩|c1
    ·rw [c1,hold] at hcell
     rw [c2,cell_of_row w' g ad.off cur' e (0,0) hnew]
     have ho:ad.off<xs.length*Ag P e:=by omega
     have h5:cur.toList[ad.off]? =vs[ad.off]? :=by rw [←e7,Bb,if_pos ho]
     have h6:cur'.toList[ad.off]? =(vs++news)[ad.off]? :=by
      rw [←htake,Bb,if_pos]
      rw [B7];omega
     rw [←Ad,h6,A8 (by omega),←h5,Ad]
     exact hcell
    ·rw [c1] at hcell;cases hcell
   have hown:Own w' w0.ok e (Ag P e) (hv' s) (xs++ys).length (vs++news):=by
    rw [hhvs,Az]
    exact ⟨by rw [Az,hl,hlenvs,B7], .inr ⟨g,cap,cur',rfl,e1c,e2,hnew,hcap,e5,hcs,htake⟩⟩
   refine ⟨_,w',β,hv',O,hrun,h.fresh hbel hM (fun _ _=>rfl) hhv (fun s' b' hs hb' hh=>⟨hoth _ (fun hc=>h.inj s' s b' _ hb' hb hs hh hhas (by rw [hc];exact hgβ')),rfl⟩) h.ext (fun c hc=>h.out c (by omega)) ?_ (fun s' b' hs hb' hh _=>h.inj s' s b' _ hb' hb hs hh hhas),hhvs⟩
   refine ⟨hsz,xs++ys,vs++news,hX,hown,(g3.append hlenvs hel).mono hM,fun g' hg'=> ?_⟩
   have hg'':B5 (hv' s)=some g':=hg'
   rw [hhvs] at hg''
   simp only [B5,if_neg (show¬cap=0 by omega),Option.some.injEq] at hg''
   subst hg''
   exact ⟨hgβ',lim,hOg,by rw [Az,B7];omega,hlim2⟩
  by_cases hy0:ys=[]
  ·subst hy0
   have hn0:news=[]:=Bv (by simpa using hl)
   subst hn0
   refine keep w cur (fun _ _=>rfl) e3 rfl h.bel e6 (by simpa using e4) (by simpa using e7) ?_
   rw [e1']
   simpa using hsrc.none rfl (some ⟨g,0,none⟩) xs.length cap e4
  ·have hpos:0<ys.length:=Bw.2 hy0
   by_cases hroom:xs.length+ys.length≤cap
   ·have hlenvs:vs.length=xs.length*Ag P e:=g2.1
    have hfit:xs.length*i.size+news.length≤cur.size:=by rw [hl,e6,←his,←B7];exact Bz _ hroom
    have hr:=hsrc.room hy0 i g xs.length cap cur hi e3 hroom hfit
    refine keep _ _ (fun c hc=>setRow_other w g c _ hc) (setRow_heap w g cur _ e _ e3) (by simp) (Kc h.bel (show w0.ok g from e2) _) ?_ hroom ?_ (by rw [e1'];exact hr)
    ·rw [←his] at hfit
     simp only [If,Az,Al,Bs,Bn,←his]
     omega
    ·simp only [←his]
     rw [Ar,e7,←Ar]
     have:(xs.length+ys.length)*Ag P e=(vs++news).length:=by rw [Az,hl,hlenvs,B7]
     rw [this]
     exact List.take_left
   ·have holds:∀j u,vs[j]? =some u→w.cell? ((⟨g,0,none⟩:Addr).add j)=some u:=fun j u hu=>g2.cells hg j u hu
    have hlenvs:vs.length=xs.length*Ag P e:=g2.1
    have hbytes:(xs.length+ys.length)*i.bytes≤1073741824*65536:=Gc hlim (by omega)
    have hr:=hsrc.grow hy0 i z ⟨g,0,none⟩ xs.length cap vs hi hz (by omega) (by rw [←his];exact hlenvs) holds (by omega) hlim0
    generalize hC:(vs.toArray++news.toArray++Builtin.zeroCells z.cells (grownCap w (xs.length+ys.length) cap e - (xs.length+ys.length)))=C at hr
    have hge:=grownCap_ge w (xs.length+ys.length) cap e
    have hmx:=grownCap_le_maxLen w (xs.length+ys.length) cap e (by simp only [maxLen];omega)
    have hbel:Blw w.heap.size w (w.drew.alloc (.cells C e)):=((Blw.refl _ _).drew).alloc (Ac _) _
    have hCs:C.size=grownCap w (xs.length+ys.length) cap e*Ag P e:=by
     rw [←hC,Mm,Mm,size_zeroCells,If,If,hl,hzs,←his,hlenvs,←B7,←B7]
     congr 1;omega
    have hown:Own (w.drew.alloc (.cells C e)) (Cg8 w.heap.size) e (Ag P e) (.slice (some ⟨w.heap.size,0,none⟩) (xs.length+ys.length) (grownCap w (xs.length+ys.length) cap e)) (xs++ys).length (vs++news):=by
     have hll:(vs++news).length=(xs.length+ys.length)*Ag P e:=by rw [Az,hl,hlenvs,B7]
     rw [Az]
     refine ⟨hll, .inr ⟨w.heap.size,_,C,rfl,by omega,Ac _,heap_alloc_new w.drew _,hge,hmx,hCs,?_⟩⟩
     rw [←hC,Pl,Pl,←hll]
     exact List.take_left
    obtain ⟨β',hv',O',r1,r2⟩:=h.ownNew (n:=n') (s:=s) (e:=e) (ro:=ro) (x:=X) (xs:=xs++ys) (vs:=vs++news) hbel (by simp) (fun g hg=>by simp only [B5] at hg;split at hg<;>simp at hg;exact hg.symm) hsz hX hown (g3.append hlenvs hel)
    exact ⟨_,_,β',hv',O',by rw [e1'];exact hr,r1,r2⟩
theorem kx {t u ty e:TypeId} {s:Nat} {xs ys:List PV} {vs news:List Value} {vd vx:Value} {X:E} {n':Nat} (h:Rel w0 Oe η σ tm w β hv O) (hinfo:C6 P e=true)
  {i:TypeInfo} {z:Value} (hi:P.info? e=some i) (hz:i.zero=some z) (hzs:z.cells.size=i.size) (hsrc:SrcR P w O t u ty e ys vx news) (hd:Src w O (Ag P e) xs vd vs) (hfull:∃b,vd= .slice b xs.length xs.length)
  (hne:xs=[]∨ys≠[]) (hX:X.ev η=some (.l (Ag P e) (xs++ys))) (hlim:xs.length+ys.length≤LIM):
  ∃v' w' β' hv' O',(Builtin.append_ #[t,u] ty #[vd,vx]).run P w= .ok v' w'∧Rel w0 Oe η (σ.eff (Gb σ.m n' s (.arr e (Ag P e) X false))) tm w' β' hv' O'∧hv' s=v':=by
 obtain ⟨b,rfl⟩:=hfull
 by_cases hx0:xs=[]
 ·subst hx0
  exact I5 h hinfo hi hz hzs hsrc hX (by simpa using hlim)
 ·have hy0:ys≠[]:=by rcases hne with h|h;exact absurd h hx0;exact h
  have his:Ag P e=i.size:=by simp [Ag,hi]
  have hib:Im P e=i.bytes:=by simp [Im,hi]
  simp only [C6,Aq,decide_eq_true_eq] at hinfo
  obtain ⟨⟨hb0,hb1⟩,hsz⟩:=hinfo
  have hl:=hsrc.len
  have hel:=hsrc.el
  obtain ⟨hlenvs,_,g3,b',c',hbe,hcell⟩:=hd
  injection hbe with hb1' _ hc'
  subst hb1';subst hc'
  obtain ⟨ad,rfl,holds⟩:=hcell hx0
  have hpos:0<ys.length:=Bw.2 hy0
  have hr:=hsrc.grow hy0 i z ad xs.length xs.length vs hi hz (by omega) (by rw [←his];exact hlenvs) holds (by omega) hlim
  simp only [LIM] at hlim
  generalize hC:(vs.toArray++news.toArray++Builtin.zeroCells z.cells (grownCap w (xs.length+ys.length) xs.length e - (xs.length+ys.length)))=C at hr
  have hge:=grownCap_ge w (xs.length+ys.length) xs.length e
  have hmx:=grownCap_le_maxLen w (xs.length+ys.length) xs.length e (by simp only [maxLen];omega)
  have hbel:Blw w.heap.size w (w.drew.alloc (.cells C e)):=((Blw.refl _ _).drew).alloc (Ac _) _
  have hCs:C.size=grownCap w (xs.length+ys.length) xs.length e*Ag P e:=by
   rw [←hC,Mm,Mm,size_zeroCells,If,If,hl,hzs,←his,hlenvs,←B7,←B7]
   congr 1;omega
  have hown:Own (w.drew.alloc (.cells C e)) (Cg8 w.heap.size) e (Ag P e) (.slice (some ⟨w.heap.size,0,none⟩) (xs.length+ys.length) (grownCap w (xs.length+ys.length) xs.length e)) (xs++ys).length (vs++news):=by
   have hll:(vs++news).length=(xs.length+ys.length)*Ag P e:=by rw [Az,hl,hlenvs,B7]
   rw [Az]
   refine ⟨hll, .inr ⟨w.heap.size,_,C,rfl,by omega,Ac _,heap_alloc_new w.drew _,hge,hmx,hCs,?_⟩⟩
   rw [←hC,Pl,Pl,←hll]
   exact List.take_left
  obtain ⟨β',hv',O',r1,r2⟩:=h.ownNew (n:=n') (s:=s) (e:=e) (ro:=false) (x:=X) (xs:=xs++ys) (vs:=vs++news) hbel (by simp) (fun g hg=>by simp only [B5] at hg;split at hg<;>simp at hg;exact hg.symm) hsz hX hown (g3.append hlenvs hel)
  exact ⟨_,_,β',hv',O',hr,r1,r2⟩
theorem Tb {c:Call} {d x:Operand} {t u:TypeId} {s:Nat} {sd sx r:SV} {ε:Eff} (ho:o.op= .call c) (hc:c.callee= .builtin .append) (ha:c.args.toList=[d,x]) (hty:c.argTypes.toList=[t,u])
  (h:Rel w0 Oe η σ a.tmps w β hv O) (hG:GOk η G) (hd:opd P σ G t d=some sd) (hs:Lm P σ s t sd sx=some (ws,r,ε)) (hk:Chk η ws)
  (source:∀e src,G0 P t=some e→Hy9 σ sx=some src→C6 P e=true→∀i z,P.info? e=some i→i.zero=some z→∀ys,src.ev η=some (.l (Ag P e) ys)→∃news,SrcR P w O t u o.type e ys (a.eval x) news):
  Db P o a w (Fs w0 Oe η σ a.tmps ε r):=by
 have e0:a.eval=(Act.mk a.tmps a.defers).eval:=rfl
 have hrd:=D8 (ds:=a.defers) (C:=⟨η,Bg w O,β,hv,σ.m⟩) hG rfl hd h.tmps
 rw [←e0] at hrd
 unfold Lm at hs
 split at hs
 ·rename_i e src he hsrc
  have ht:P.underlying t=some (.slice e):=by
   unfold G0 at he
   split at he
   ·rename_i h;rw [h];injection he with he;rw [he]
   ·cases he
  dsimp only at hs
  split at hs
  ·cases hs
  ·rename_i hsm
   simp only [Am,A3,not_or,Dm,B8] at hsm
   obtain ⟨hsm',hzn⟩:=hsm
   obtain ⟨zs,hzs⟩:=Option.ne_none_iff_exists'.1 hzn
   obtain ⟨i,z,hi,hzz,hzz2,_,_⟩:=F9 (C:=⟨η,Bg w O,β,hv,σ.m⟩) hzs
   have hsz:0<Ag P e:=by simp only [C6,Aq,decide_eq_true_eq] at hsm';exact hsm'.2
   have source:=source e src he hsrc hsm' i z hi hzz
   have fresh:∀b,a.eval d= .slice b 0 0→ws=[.chk (.app (Ag P e) (.c (.l (Ag P e) [])) src)]→r= .h s→ε=Gb σ.m σ.n s (.arr e (Ag P e) (.app (Ag P e) (.c (.l (Ag P e) [])) src) false)→
     Db P o a w (Fs w0 Oe η σ a.tmps ε r):=by
    intro b hb hw hr hε
    subst hw;subst hr;subst hε
    obtain ⟨q,hq⟩:=hk _ (B4.2 rfl)
    have hq':=hq
    simp only [E.ev,Ax,Aj] at hq'
    obtain ⟨p,hp,hq'⟩:=hq'
    unfold H2 at hq'
    split at hq'
    ·rename_i s1 xs1 s2 ys heq
     injection heq with heq1 heq2
     subst heq1;subst heq2
     split at hq'
     ·rename_i hcond
      obtain ⟨_,rfl,hlim⟩:=hcond
      obtain ⟨news,hnews⟩:=source ys hp
      injection hq' with hq'
      obtain ⟨v',w',β',hv',O',r1,r2,r3⟩:=I5 (s:=s) (b:=b) (ty:=o.type) (ro:=false) (n':=σ.n) h hsm' hi hzz hzz2 hnews (hq.trans (by rw [←hq'];simp)) (by simpa using hlim)
      refine Db.value (fj ho hc ha hty (by rw [hb];exact r1)) ⟨β',hv',O',r2,?_⟩
      simp only [Ap];exact r3.symm
     ·cases hq'
    ·cases hq'
   split at hs
   ·simp only [Option.some.injEq,Prod.mk.injEq] at hs
    obtain ⟨h1,h2,h3⟩:=hs
    simp only [Ap] at hrd
    exact fresh none hrd h1.symm h2.symm h3.symm
   ·simp only [Option.some.injEq,Prod.mk.injEq] at hs
    obtain ⟨h1,h2,h3⟩:=hs
    simp only [Ap,E.ev,Option.some.injEq,PV.l.injEq] at hrd
    obtain ⟨xs,b,⟨_,hxs⟩,hv1,_⟩:=hrd
    subst hxs
    exact fresh b (by simpa using hv1) h1.symm h2.symm h3.symm
   ·simp only [Option.some.injEq,Prod.mk.injEq] at hs
    obtain ⟨h1,h2,h3⟩:=hs
    simp only [Ap,E.ev,E.evs,Ax,Jq,Q5,List.all_nil,if_true,Option.some.injEq,PV.l.injEq] at hrd
    obtain ⟨xs,b,⟨_,hxs⟩,hv1,_⟩:=hrd
    subst hxs
    exact fresh b (by simpa using hv1) h1.symm h2.symm h3.symm
   ·rename_i sz0 y _ _
    split at hs
    ·rename_i hszz
     subst hszz
     simp only [Option.some.injEq,Prod.mk.injEq] at hs
     obtain ⟨rfl,rfl,rfl⟩:=hs
     simp only [Ap] at hrd
     obtain ⟨xs,b,hy,hv1,hrep⟩:=hrd
     have hy':y.ev η=some (.l (Ag P e) xs):=hy
     obtain ⟨q,hq⟩:=hk _ (.head _)
     obtain ⟨q2,hq2⟩:=hk _ (.tail _ (.head _))
     have hq':=hq
     simp only [E.ev,hy',Ax,Aj] at hq'
     obtain ⟨p,hp,hq'⟩:=hq'
     unfold H2 at hq'
     split at hq'
     ·rename_i s1 xs1 s2 ys heq
      injection heq with heq1 heq2
      subst heq1;subst heq2
      split at hq'
      ·rename_i hcond
       obtain ⟨_,rfl,hlim⟩:=hcond
       obtain ⟨news,hnews⟩:=source ys hp
       obtain ⟨vs,hvs⟩:=Ab0 hsz hrep
       injection hq' with hq'
       have hne:xs=[]∨ys≠[]:=by
        by_cases hx0:xs=[]
        ·exact .inl hx0
        ·right
         intro hy0
         subst hy0
         have hl:¬((xs.length:Int)=0):=by
          have:=Bw.2 hx0
          omega
         simp only [E.ev,hy',hp,Ax,Gq,X.bin,Fc,Hh,if_true] at hq2
         have hd:((xs.length:Int)==0)=false:=by simpa using hl
         rw [hd] at hq2
         simp at hq2
       obtain ⟨v',w',β',hv',O',r1,r2,r3⟩:=kx (s:=s) (ty:=o.type) (n':=σ.n) h hsm' hi hzz hzz2 hnews hvs ⟨b,hv1⟩ hne (hq.trans (by rw [←hq'])) hlim
       refine Db.value (fj ho hc ha hty r1) ⟨β',hv',O',r2,?_⟩
       simp only [Ap];exact r3.symm
      ·cases hq'
     ·cases hq'
    ·cases hs
   ·rename_i s0
    split at hs
    ·rename_i e1 sz0 y ro hb0
     split at hs
     ·rename_i hcond
      obtain ⟨rfl,rfl⟩:=hcond
      simp only [Option.some.injEq,Prod.mk.injEq] at hs
      obtain ⟨rfl,rfl,rfl⟩:=hs
      simp only [Ap] at hrd
      obtain ⟨q,hq⟩:=hk _ (B4.2 rfl)
      have hq':=hq
      simp only [E.ev,Aj] at hq'
      obtain ⟨p0,hp0,p,hp,hq'⟩:=hq'
      unfold H2 at hq'
      split at hq'
      ·rename_i s1 xs1 s2 ys
       split at hq'
       ·rename_i hcond
        obtain ⟨rfl,rfl,hlim⟩:=hcond
        obtain ⟨news,hnews⟩:=source ys hp
        injection hq' with hq'
        obtain ⟨v',w',β',hv',O',r1,r2,r3⟩:=Uc (s:=s0) (ty:=o.type) (n':=σ.n) h hsm' hi hzz hzz2 hb0 hp0 hnews (hq.trans (by rw [←hq'])) hlim
        refine Db.value (fj ho hc ha hty (by rw [hrd];exact r1)) ⟨β',hv',O',r2,?_⟩
        simp only [Ap];exact r3.symm
       ·cases hq'
      ·cases hq'
     ·cases hs
    ·cases hs
   ·cases hs
 ·cases hs
theorem Ar4 {c:Call} {d x:Operand} {t:TypeId} {s:Nat} {sd sx r:SV} {ε:Eff} (ho:o.op= .call c) (hc:c.callee= .builtin .append) (ha:c.args.toList=[d,x]) (hty:c.argTypes.toList=[t,t])
  (h:Rel w0 Oe η σ a.tmps w β hv O) (hG:GOk η G) (hd:opd P σ G t d=some sd) (hx:opd P σ G t x=some sx) (hs:Lm P σ s t sd sx=some (ws,r,ε)) (hk:Chk η ws):
  Db P o a w (Fs w0 Oe η σ a.tmps ε r):=by
 have e0:a.eval=(Act.mk a.tmps a.defers).eval:=rfl
 have hrx:=D8 (ds:=a.defers) (C:=⟨η,Bg w O,β,hv,σ.m⟩) hG rfl hx h.tmps
 rw [←e0] at hrx
 refine Tb ho hc ha hty h hG hd hs hk ?_
 intro e src he hsrc hsm' i z hi hzz ys0 hys0
 have ht:P.underlying t=some (.slice e):=by
  unfold G0 at he
  split at he
  ·rename_i h;rw [h];injection he with he;rw [he]
  ·cases he
 have hsz:0<Ag P e:=by simp only [C6,Aq,decide_eq_true_eq] at hsm';exact hsm'.2
 have source:∀ys,src.ev η=some (.l (Ag P e) ys)→∃news,Src w O (Ag P e) ys (a.eval x) news:=by
  intro ys hys
  unfold Hy9 at hsrc
  split at hsrc
  ·rename_i s'
   split at hsrc
   ·rename_i e' sz' y' ro' hb'
    injection hsrc with hsrc;subst hsrc
    simp only [Ap] at hrx
    have hszz:sz'=Ag P e:=by
     obtain ⟨_,xs,vs,g1,_⟩:=h.mem s' _ hb'
     have g1':y'.ev η=some (.l sz' xs):=g1
     rw [hys] at g1';injection g1' with g1';injection g1' with g1' _;exact g1'.symm
    subst hszz
    rw [hrx]
    exact Fq1 h hb' hys
   ·cases hsrc
  ·obtain ⟨p,hp,hpr⟩:=SV.asE_ok hsrc hrx
   have hp':src.ev η=some p:=hp
   rw [hys] at hp';injection hp' with hp';subst hp'
   exact Ab0 hsz hpr
 obtain ⟨news,hnews⟩:=source ys0 hys0
 exact ⟨news,hnews.runs ht (by rw [hi];rfl)⟩
end
end Go.X
/- Operations, twelfth part: make. -/
namespace Go.X
open Go Go.RowKit
section
variable {P:Program} {w0:Fr} {Oe:Nat→Option Nat} {η:List PV} {σ:St} {a:Act} {tm:Array Value} {w:World} {β:Nat→Nat} {hv:Nat→Value} {O:Nat→Option Nat} {G:Option E} {o:Oper} {ws:List W}
theorem Rk {C:Cx} {zs:List SV} {cs:Array Value} {ze:E} (h:A7 C zs cs.toList) (h1:∀u,u∈cs.toList→One u) (hz:Rq zs=some ze):∃p,ze.ev C.η=some p∧(p.cells.length=cs.size→∀(j:Nat) (c:PV),p.cells[j]? =some c→∃u,cs[j]? =some u∧One u∧Rep C.M c u):=by
 have fin:∀{p:PV} {v:Value},Rep C.M p v→v.cells=cs→p.cells.length=cs.size→∀(j:Nat) (c:PV),p.cells[j]? =some c→∃u,cs[j]? =some u∧One u∧Rep C.M c u:=by
  intro p v hr hv hl j c hc
  have hj:j<cs.size:=by rw [←hl];exact (Ak.1 hc).1
  have hu:cs[j]? =some cs[j]:=C9 hj
  refine ⟨cs[j],hu,h1 _ (by simp),?_⟩
  by_cases hp:p= .u
  ·subst hp
   cases j with
   |zero=>simp [PV.cells] at hc;subst hc;exact .u _
   |succ j=>simp [PV.cells] at hc
  ·exact (hr.cells hp).2.2 j c _ hc (by rw [hv];exact hu)
 unfold Rq at hz
 split at hz
 ·simp only [A7] at h
  obtain ⟨v,r,hv,hr,rfl⟩:=h
  obtain ⟨p,hp,hpr⟩:=SV.asE_ok hz hr
  have hcs:cs= #[v]:=by rw [←Cd (xs:=cs),hv]
  have h1v:One v:=h1 v (by rw [hv];simp)
  exact ⟨p,hp,fin hpr (by rw [Y9 h1v,hcs])⟩
 ·have hr:=P0 h h1
  obtain ⟨p,hp,hpr⟩:=SV.asE_ok hz hr
  exact ⟨p,hp,fin hpr rfl⟩
theorem Dk2 {t u ty e:TypeId} {kn:IntKind} {i:TypeInfo} {z:Value} {pz:PV} (ht:P.underlying t=some (.slice e)) (hu:P.underlying u=some (.int kn)) (hi:P.info? e=some i) (hz:i.zero=some z) (hzs:z.cells.size=i.size)
  (h1:∀v,v∈z.cells.toList→One v) (hb1:i.bytes≤65536) (hpl:pz.cells.length=i.size) (hpos:0<i.size) (hpz:∀(j:Nat) (c:PV),pz.cells[j]? =some c→∃u,z.cells[j]? =some u∧One u∧Rep (Bg w O) c u) (n:Nat) (hn:n≤1073741824):
  SrcR P w O t u ty e (List.replicate n pz) (.int .i64 (n:Int)) (Builtin.zeroCells z.cells n).toList:=by
 have his:Ag P e=i.size:=by simp [Ag,hi]
 have hll:(List.replicate n pz).length=n:=dx ..
 have hzl:(Builtin.zeroCells z.cells n).toList.length=n*i.size:=by rw [Bn,size_zeroCells,hzs]
 have at_:∀k,k<n*i.size→(Builtin.zeroCells z.cells n).toList[k]? =z.cells[k % i.size]? :=by
  intro k hk
  have hm:k % i.size<z.cells.size:=by rw [hzs];exact Nat.mod_lt _ hpos
  rw [Ad]
  simp only [Builtin.zeroCells,Um,Aw1,hzs,hk,if_true,A0]
  rw [Array.getElem!_eq_getD,A9,C9 hm];rfl
 have hne:List.replicate n pz≠[]→0<n:=fun h=>by
  rcases Nat.eq_zero_or_pos n with h0|h0
  ·subst h0;exact absurd rfl h
  ·exact h0
 have hbytes:∀m:Nat,m≤1073741824→m*i.bytes≤281474976710656:=fun m hm=>by
  have:m*i.bytes≤1073741824*65536:=Gc hm hb1
  omega
 have hone:∀v,v∈(Builtin.zeroCells z.cells n).toList→One v:=by
  intro v hv
  obtain ⟨k,hk⟩:=Dv hv
  have hlt:=(Ak.1 hk).1
  rw [hzl] at hlt
  rw [at_ k hlt] at hk
  exact h1 v (by rw [←Ad] at hk;exact A6 hk)
 refine ⟨by rw [hzl,hll,his],hone,?_,fun hy b m cap hm=> ?_,fun hy hlim i' z' b hi' hz' hbb=> ?_,fun hy i' g sLen sCap cur hi' hg hroom hfit=> ?_,fun hy i' z' ad0 sLen sCap olds hi' hz' hbb hlo holds hgr hlim=> ?_⟩
 ·intro j x hj
  rw [Ih] at hj
  split at hj
  ·rename_i hjk
   injection hj with hj;subst hj
   refine ⟨by rw [hpl,his],fun m c hc=> ?_⟩
   have hm:m<i.size:=by rw [←hpl];exact (Ak.1 hc).1
   obtain ⟨u',g1,g2,g3⟩:=hpz m c hc
   refine ⟨u',?_,g2,g3⟩
   have hlt:j*i.size+m<n*i.size:=by
    have:(j+1)*i.size≤n*i.size:=Bz _ hjk
    rw [B7,Fz] at this
    omega
   rw [his,at_ _ hlt,Em,Xh,D2 hm]
   exact g1
  ·cases hj
 ·have h0:n=0:=by
   rcases Nat.eq_zero_or_pos n with h0|h0
   ·exact h0
   ·exfalso
    have:=congrArg List.length hy
    rw [hll,Bc] at this;omega
  subst h0
  have hw:IntKind.i64.wrap (0:Int)=0:=by decide
  cases b<;>simp [Builtin.append_,run_underlying ht,run_underlying hu,sizeOf,typeInfo,hi,asInt,asIntOf,hw,hm,storeCells]
 ·rw [hi] at hi';injection hi' with hi';subst hi'
  rw [hz] at hz';injection hz' with hz';subst hz'
  rw [hll] at hlim ⊢
  have h0:=hne hy
  cases b with
  |none=>
   have:=Lib.run_append_nil_zeros (P:=P) w t u ty e i z .i64 kn ht hu hi hz n h0 hpos (by omega) (hbytes n hn)
   simpa using this
  |some ad=>
   have hf0:=run_firstCells_some (P:=P) w.drew i.size 0 ad 0 0 [] (by simp) (by simp)
   have:=Lib.run_append_grow_zeros (P:=P) w t u ty e i z .i64 kn ht hu hi hz (some ad) 0 0 [] hf0 n h0 hpos (by omega) (by omega) (hbytes n hn) (by
    rw [Ek,nextslicecap_zero h0];exact hbytes n hn)
   simpa using this
 ·rw [hi] at hi';injection hi' with hi';subst hi'
  rw [hll] at hroom ⊢
  have h0:=hne hy
  have hk:n≠0:=by omega
  have hw:IntKind.i64.wrap (n:Int)=n:=by rw [IntKind.wrap_i64];omega
  have h48i:¬(281474976710656<(n:Int)*(i.bytes:Int)):=by
   have:=hbytes n hn
   rw [←Int.natCast_mul]
   omega
  have hneg:¬((n:Int)<0):=by omega
  have hns:¬(n*i.size=0):=Nat.mul_ne_zero hk (by omega)
  have hst:=run_storeCells_at P g (sLen*i.size) e (Builtin.zeroCells z.cells n).toList 0 cur w hg (by simpa using hfit) hone
  simp only [Dl] at hst
  simp [Builtin.append_,run_underlying ht,run_underlying hu,sizeOf,typeInfo,zeroValue,hi,hz,asInt,asIntOf,hw,hneg,hns,h48i,hroom,Addr.add_lit,hst]
 ·rw [hi] at hi';injection hi' with hi';subst hi'
  rw [hz] at hz';injection hz' with hz';subst hz'
  rw [hll] at hgr hlim ⊢
  have h0:=hne hy
  simp only [LIM] at hlim
  have hold:=run_firstCells_some (P:=P) w.drew i.size sLen ad0 sLen sCap olds hlo (by simpa using holds)
  have:=Lib.run_append_grow_zeros (P:=P) w t u ty e i z .i64 kn ht hu hi hz (some ad0) sLen sCap olds hold n h0 hpos hgr (by omega) (hbytes n hn) (growslice_fits (by omega) (by have:(sLen+n)*i.bytes≤1073741824*65536:=Gc (by omega) hb1;omega))
  simpa using this
theorem yr {c:Call} {d x:Operand} {t u e:TypeId} {s:Nat} {sd r:SV} {n ze:E} {zs:List SV} {ε:Eff} (ho:o.op= .call c) (hc:c.callee= .builtin .append) (ha:c.args.toList=[d,x]) (hty:c.argTypes.toList=[t,u])
  (h:Rel w0 Oe η σ a.tmps w β hv O) (hG:GOk η G) (hd:opd P σ G t d=some sd) (hx:Fv P σ G 0 x=some n) (he:G0 P t=some e) (hu:Bx5 P u=true) (hz:G9 P e=some zs) (hze:Rq zs=some ze)
  (hs:Lm P σ s t sd (.e (.rep (Ag P e) n ze))=some (ws,r,ε)) (hk:Chk η ws):
  Db P o a w (Fs w0 Oe η σ a.tmps ε r):=by
 have ht:P.underlying t=some (.slice e):=by
  unfold G0 at he
  split at he
  ·rename_i h;rw [h];injection he with he;rw [he]
  ·cases he
 have hui:∃kn,P.underlying u=some (.int kn):=by
  unfold Bx5 at hu
  split at hu
  ·rename_i kn hk;exact ⟨kn,hk⟩
  ·cases hu
 obtain ⟨kn,hui⟩:=hui
 refine Tb ho hc ha hty h hG hd hs hk ?_
 intro e' src he' hsrc hsm i z hi hzz ys hys
 rw [he] at he';injection he' with he';subst he'
 simp only [Hy9,SV.asE,Option.some.injEq] at hsrc
 subst hsrc
 obtain ⟨i',z',hi',hzz',hzs,h1,hr⟩:=F9 (C:=⟨η,Bg w O,β,hv,σ.m⟩) hz
 rw [hi] at hi';injection hi' with hi';subst hi'
 rw [hzz] at hzz';injection hzz' with hzz';subst hzz'
 have his:Ag P e=i.size:=by simp [Ag,hi]
 have hib:Im P e=i.bytes:=by simp [Im,hi]
 simp only [C6,Aq,decide_eq_true_eq] at hsm
 obtain ⟨⟨hb0,hb1⟩,hsz⟩:=hsm
 obtain ⟨p1,hp1,hpr1⟩:=Dq (ds:=a.defers) (C:=⟨η,Bg w O,β,hv,σ.m⟩) hG rfl hx h.tmps
 have hp1':n.ev η=some p1:=hp1
 obtain ⟨pz,hpz,hpzc⟩:=Rk (C:=⟨η,Bg w O,β,hv,σ.m⟩) hr h1 hze
 have hpz':ze.ev η=some pz:=hpz
 simp only [E.ev,hp1',hpz',Ax] at hys
 unfold Kf at hys
 split at hys
 ·rename_i k
  split at hys
  ·rename_i hb
   injection hys with hys
   injection hys with _ hys
   subst hys
   have e1:a.eval x= .int .i64 (k.toNat:Int):=by
    have:a.eval x= .int .i64 k:=hpr1.int
    rw [this];congr 1;omega
   have hkl:k.toNat≤1073741824:=by have:=hb.2.1;simp only [LIM] at this;omega
   rw [e1]
   exact ⟨_,Dk2 ht hui hi hzz hzs h1 (by omega) (by rw [hb.2.2,his]) (by omega) (hpzc (by rw [hb.2.2,hzs,his])) k.toNat hkl⟩
  ·cases hys
 ·cases hys
theorem Vs {t e:TypeId} {x y:Operand} {n n' ze:E} {zs:List SV} {s:Nat} (ho:o.op= .makeSlice t x y) (he:G0 P t=some e) (h:Rel w0 Oe η σ a.tmps w β hv O) (hG:GOk η G) (hx:Fv P σ G 0 x=some n) (hy:Fv P σ G 0 y=some n') (hs:n.same (.c (.i .i64 0))=true)
  (hsm:C6 P e=true) (hz:G9 P e=some zs) (hk:Chk η [.chk (.rep (Ag P e) n' ze)]):
  Db P o a w (Fs w0 Oe η σ a.tmps (Gb σ.m σ.n s (.arr e (Ag P e) (.c (.l (Ag P e) [])) false)) (.h s)):=by
 have ht:P.underlying t=some (.slice e):=by
  unfold G0 at he
  split at he
  ·rename_i h;rw [h];injection he with he;rw [he]
  ·cases he
 have:=E.same_eq _ _ hs
 subst this
 obtain ⟨i,z,hi,hzz,hzs,h1,hr⟩:=F9 (C:=⟨η,Bg w O,β,hv,σ.m⟩) hz
 have his:Ag P e=i.size:=by simp [Ag,hi]
 have hib:Im P e=i.bytes:=by simp [Im,hi]
 simp only [C6,Aq,decide_eq_true_eq] at hsm
 obtain ⟨⟨hb0,hb1⟩,hsz⟩:=hsm
 obtain ⟨q,hq⟩:=hk _ (B4.2 rfl)
 have hq':=hq
 obtain ⟨p1,hp1,hpr1⟩:=Dq (ds:=a.defers) (C:=⟨η,Bg w O,β,hv,σ.m⟩) hG rfl hx h.tmps
 obtain ⟨p2,hp2,hpr2⟩:=Dq (ds:=a.defers) (C:=⟨η,Bg w O,β,hv,σ.m⟩) hG rfl hy h.tmps
 have hp2':n'.ev η=some p2:=hp2
 simp only [E.ev,Option.some.injEq] at hp1
 subst hp1
 simp only [E.ev,hp2',Ax,Aj] at hq'
 obtain ⟨pz,_,hq'⟩:=hq'
 unfold Kf at hq'
 split at hq'
 ·rename_i k
  split at hq'
  ·rename_i hb
   have e1:a.eval x= .int .i64 ((0:Nat):Int):=hpr1.int
   have e2:a.eval y= .int .i64 (k.toNat:Int):=by
    have:a.eval y= .int .i64 k:=hpr2.int
    rw [this];congr 1;omega
   have hkl:k.toNat≤1073741824:=by have:=hb.2.1;simp only [LIM] at this;omega
   have hbytes:i.bytes*k.toNat≤65536*1073741824:=Gc (by omega) hkl
   have hrun:=run_make (P:=P) w t e i z ht hi hzz .i64 .i64 ((0:Nat):Int) (k.toNat:Int) (by omega) (by omega) (by
    have:((i.bytes*k.toNat:Nat):Int)≤281474976710656:=by omega
    rwa [Int.natCast_mul] at this) (by omega)
   simp only [Gf] at hrun
   have hbel:Blw w.heap.size w (w.alloc (.cells (madeCells z.cells (k.toNat*i.size)) e)):=(Blw.refl _ _).alloc (Ac _) _
   have hown:Own (w.alloc (.cells (madeCells z.cells (k.toNat*i.size)) e)) (Cg8 w.heap.size) e (Ag P e) (.slice (some ⟨w.heap.size,0,none⟩) 0 k.toNat) 0 []:=by
    refine ⟨by simp,?_⟩
    by_cases hk0:k.toNat=0
    ·rw [hk0];exact .inl ⟨_,rfl,rfl⟩
    ·exact .inr ⟨w.heap.size,k.toNat,_,rfl,by omega,Ac _,heap_alloc_new w _,C4 _,by simp only [maxLen];omega,by rw [size_madeCells,his],by simp⟩
   obtain ⟨β',hv',O',r1,r2⟩:=h.ownNew (n:=σ.n) (s:=s) (e:=e) (sz:=Ag P e) (ro:=false) (x:= .c (.l (Ag P e) [])) (v:= .slice (some ⟨w.heap.size,0,none⟩) 0 k.toNat) (xs:=[]) (vs:=[]) hbel (by simp)
    (fun g hg=>by simp only [B5] at hg;split at hg<;>simp at hg;exact hg.symm) hsz (by simp only [E.ev]) hown (fun i x hx=>by simp at hx)
   refine Db.value (v:= .slice (some ⟨w.heap.size,0,none⟩) 0 k.toNat) (w':=w.alloc (.cells (madeCells z.cells (k.toNat*i.size)) e)) ?_ ⟨β',hv',O',r1,?_⟩
   ·simp only [execOp,ho,e1,e2,Sem.run_bind,hrun,Result.andThen];rfl
   ·simp only [Ap];exact r2.symm
  ·cases hq'
 ·cases hq'
theorem Y5 {t e:TypeId} {x y:Operand} {n n' ze:E} {zs:List SV} {s:Nat} (ho:o.op= .makeSlice t x y) (he:G0 P t=some e) (h:Rel w0 Oe η σ a.tmps w β hv O) (hG:GOk η G) (hx:Fv P σ G 0 x=some n) (hy:Fv P σ G 0 y=some n') (hs:n.same n'=true)
  (hsm:C6 P e=true) (hz:G9 P e=some zs) (hze:Rq zs=some ze) (hk:Chk η [.chk (.rep (Ag P e) n ze)]):
  Db P o a w (Fs w0 Oe η σ a.tmps (Gb σ.m σ.n s (.arr e (Ag P e) (.rep (Ag P e) n ze) false)) (.h s)):=by
 have ht:P.underlying t=some (.slice e):=by
  unfold G0 at he
  split at he
  ·rename_i h;rw [h];injection he with he;rw [he]
  ·cases he
 have:=E.same_eq _ _ hs
 subst this
 obtain ⟨i,z,hi,hzz,hzs,h1,hr⟩:=F9 (C:=⟨η,Bg w O,β,hv,σ.m⟩) hz
 have his:Ag P e=i.size:=by simp [Ag,hi]
 have hib:Im P e=i.bytes:=by simp [Im,hi]
 simp only [C6,Aq,decide_eq_true_eq] at hsm
 obtain ⟨⟨hb0,hb1⟩,hsz⟩:=hsm
 obtain ⟨q,hq⟩:=hk _ (B4.2 rfl)
 have hq':=hq
 obtain ⟨p1,hp1,hpr1⟩:=Dq (ds:=a.defers) (C:=⟨η,Bg w O,β,hv,σ.m⟩) hG rfl hx h.tmps
 obtain ⟨p2,hp2,hpr2⟩:=Dq (ds:=a.defers) (C:=⟨η,Bg w O,β,hv,σ.m⟩) hG rfl hy h.tmps
 have hp1':n.ev η=some p1:=hp1
 have hp2':n.ev η=some p2:=hp2
 rw [hp1'] at hp2'
 injection hp2' with hp2'
 subst hp2'
 obtain ⟨pz,hpz,hpzc⟩:=Rk (C:=⟨η,Bg w O,β,hv,σ.m⟩) hr h1 hze
 have hpz':ze.ev η=some pz:=hpz
 simp only [E.ev,hp1',hpz',Ax] at hq'
 unfold Kf at hq'
 split at hq'
 ·rename_i k
  split at hq'
  ·rename_i hb
   injection hq' with hq'
   have e1:a.eval x= .int .i64 (k.toNat:Int):=by
    have:a.eval x= .int .i64 k:=hpr1.int
    rw [this];congr 1;omega
   have e2:a.eval y= .int .i64 (k.toNat:Int):=by
    have:a.eval y= .int .i64 k:=hpr2.int
    rw [this];congr 1;omega
   have hkl:k.toNat≤1073741824:=by have:=hb.2.1;simp only [LIM] at this;omega
   have hbytes:i.bytes*k.toNat≤65536*1073741824:=Gc (by omega) hkl
   have hrun:=run_make (P:=P) w t e i z ht hi hzz .i64 .i64 (k.toNat:Int) (k.toNat:Int) (by omega) (Ib1 _) (by
    have:((i.bytes*k.toNat:Nat):Int)≤281474976710656:=by omega
    rwa [Int.natCast_mul] at this) (by omega)
   simp only [Gf] at hrun
   have hbel:Blw w.heap.size w (w.alloc (.cells (madeCells z.cells (k.toNat*i.size)) e)):=(Blw.refl _ _).alloc (Ac _) _
   have hown:=Own.of (World.ownsRow_lit (e:=e) (size:=Ag P e) (base:=w.heap.size) w (madeCells z.cells (k.toNat*i.size)) k.toNat (Ac _) (by simp only [maxLen];omega) (by rw [size_madeCells,his]))
   have hel:Hm (Bg w O) (Ag P e) (List.replicate k.toNat pz) (madeCells z.cells (k.toNat*i.size)).toList:=by
    intro j x hj
    rw [Ih] at hj
    split at hj
    ·rename_i hjk
     injection hj with hj;subst hj
     refine ⟨hb.2.2,fun m c hc=> ?_⟩
     have hm:m<Ag P e:=by rw [←hb.2.2];exact (Ak.1 hc).1
     obtain ⟨u,g1,g2,g3⟩:=hpzc (by rw [hb.2.2,hzs,his]) m c hc
     refine ⟨u,?_,g2,g3⟩
     have hlt:j*Ag P e+m<k.toNat*i.size:=by
      have:(j+1)*Ag P e≤k.toNat*Ag P e:=Bz _ hjk
      rw [B7,Fz] at this
      rw [←his];omega
     have hmod:(j*Ag P e+m) % z.cells.size=m:=by rw [hzs,←his,Em,Xh,D2 hm]
     rw [Ad]
     simp only [madeCells,Um,Aw1,hlt,if_true,A0,hmod]
     rw [Array.getElem!_eq_getD,A9,g1];rfl
    ·cases hj
   obtain ⟨β',hv',O',r1,r2⟩:=h.ownNew (n:=σ.n) (s:=s) (e:=e) (sz:=Ag P e) (ro:=false) (x:= .rep (Ag P e) n ze) (v:= .slice (some ⟨w.heap.size,0,none⟩) k.toNat k.toNat) (xs:=List.replicate k.toNat pz) (vs:=(madeCells z.cells (k.toNat*i.size)).toList) hbel (by simp)
    (fun g hg=>by simp only [B5] at hg;split at hg<;>simp at hg;exact hg.symm) hsz (hq.trans (by rw [←hq'])) (by rw [dx];exact hown) hel
   refine Db.value (v:= .slice (some ⟨w.heap.size,0,none⟩) k.toNat k.toNat) (w':=w.alloc (.cells (madeCells z.cells (k.toNat*i.size)) e)) ?_ ⟨β',hv',O',r1,?_⟩
   ·simp only [execOp,ho,e1,e2,Sem.run_bind,hrun,Result.andThen];rfl
   ·simp only [Ap];exact r2.symm
  ·cases hq'
 ·cases hq'
end
end Go.X
/- strings.Builder: what its methods do to the world, to the letter. -/
set_option linter.unusedVariables false
namespace Go.X
open Go Go.RowKit
variable {P:Program}
def cn (b:Nat) (p:Value) (w w1:World):Prop:=
 (p= .pointer none∧w1=w.setCell ⟨b,0,none⟩ (.pointer (some ⟨b,0,none⟩)))∨(p= .pointer (some ⟨b,0,none⟩)∧w1=w)
theorem cn.blk {b:Nat} {p u:Value} {w w1:World} {T:TypeId} (hbk:w.heap[b]? =some (.cells #[p,u] T (0,0))) (h:cn b p w w1):w1.heap[b]? =some (.cells #[.pointer (some ⟨b,0,none⟩),u] T (0,0)):=by
 rcases h with ⟨rfl,rfl⟩|⟨rfl,rfl⟩
 ·simp [World.setCell,Fh,hbk]
 ·exact hbk
end Go.X
/- Calls. -/
namespace Go.X
open Go Go.RowKit
def Hd (P:Program) (f:FuncId) (args:Array Value) (w:World) (R:Value→World→Prop):Prop:=
 (∃v w',(callFunc f args).run P w= .ok (.value v) w'∧R v w')∨
 (∃w',(callFunc f args).run P w= .ok (.enter f args) w'∧Calls P f args w' fun e w''=>∃v,e= .returned v∧R v w'')
theorem Hd.mono {P:Program} {f:FuncId} {args:Array Value} {w:World} {R R':Value→World→Prop} (h:Hd P f args w R) (hr:∀v w',R v w'→R' v w'):Hd P f args w R':=by
 rcases h with ⟨v,w',h1,h2⟩|⟨w',h1,h2⟩
 ·exact .inl ⟨v,w',h1,hr _ _ h2⟩
 ·exact .inr ⟨w',h1,h2.mono fun e w'' ⟨v,he,hv⟩=>⟨v,he,hr _ _ hv⟩⟩
theorem Hd.of_calls {P : Program} {f : FuncId} {fn : Func} {args : Array Value} {w : World} {R : Value → World → Prop} (hf : P.funcs[f]? = some fn) (hn : (fn.name == "runtime.NumGoroutine") = false) (hb : fn.body.isSome = true)
  (h:Calls P f args w fun e w'=>∃v,e= .returned v∧R v w'):Hd P f args w R:=by
 refine .inr ⟨w,?_,h⟩
 have hn' : fn.name ≠ "runtime.NumGoroutine" := by simpa using hn
 have hb':fn.body≠none:=by cases hh:fn.body<;>simp_all
 simp [callFunc,hf,hn',hb']
def K5 (M:Vw) (rs:List PV) (v:Value):Prop:=match rs with
 |[p]=>Rep M p v
 |rs=>∃vs:Array Value,v= .tuple vs∧vs.size=rs.length∧∀(j:Nat) (p:PV) (u:Value),rs[j]? =some p→vs[j]? =some u→Rep M p u
def Hy6 (nl:Bool) (m:Nat) (v:Value):Prop:=∀j,m.testBit j=true→∃(vs:Array Value) (a:Option Addr) (n:Nat),v= .agg vs∧vs[j]? =some (.slice a n n)∧(nl=true→a=none∧n=0)
def Ib0 (P:Program) (w w':World) (O':Nat→Option Nat) (rs:List PV) (v:Value):RK→Prop
 | .plain=>K5 (Bg w' O') rs v
 | .own e=>0<Ag P e∧∃xs us,rs=[.l (Ag P e) xs]∧Own w' (Cg8 w.heap.size) e (Ag P e) v xs.length us∧Hm (Bg w' O') (Ag P e) xs us∧∀g,B5 v=some g→O' g=some 0
 | .full nl m=>K5 (Bg w' O') rs v∧Hy6 nl m v
def Dg7 (P:Program) (own:Option Nat) (w:World) (O:Nat→Option Nat) (rs:List PV) (v:Value) (w':World):Prop:=
 Blw w.heap.size w w'∧∃O',(∀c,c<w.heap.size→O' c=O c)∧(∀c,w'.heap.size≤c→O' c=none)∧Ib0 P w w' O' rs v (rkOf own)
structure Given (w:World) (O:Nat→Option Nat) (n:Nat) (vs:List PV) (args:Array Value):Prop where
 out:∀c,w.heap.size≤c→O c=none
 size:args.size=vs.length
 val:∀(j:Nat) (p:PV) (v:Value),j<n→vs[j]? =some p→args[j]? =some v→Rep (Bg w O) p v
 cap:∀(j:Nat) (p:PV) (v:Value),n≤j→vs[j]? =some p→args[j]? =some v→Gv (Bg w O) p.cells v
structure GivenM (P:Program) (e:Nat) (w:World) (O:Nat→Option Nat) (n:Nat) (vs:List PV) (args:Array Value) (v0:Value) (xs:List PV) (us:List Value):Prop where
 out:∀c,w.heap.size≤c→O c=none
 size:args.size=vs.length
 pos:0<n
 fst:vs[0]? =some (.l (Ag P e) xs)
 arg:args[0]? =some v0
 sz:0<Ag P e
 own:Own w (fun _=>True) e (Ag P e) v0 xs.length us
 el:Hm (Bg w O) (Ag P e) xs us
 shut:∀g,B5 v0=some g→O g=some 0
 val:∀(j:Nat) (p:PV) (v:Value),0<j→j<n→vs[j]? =some p→args[j]? =some v→Rep (Bg w O) p v
 cap:∀(j:Nat) (p:PV) (v:Value),n≤j→vs[j]? =some p→args[j]? =some v→Gv (Bg w O) p.cells v
def Av1 (P:Program) (e:Nat) (r:Bool) (v0:Value) (w:World) (O:Nat→Option Nat) (rs:List PV) (v:Value) (w':World):Prop:=
 Bel ⟨w,some v0⟩ w'∧∃O',(∀c,c<w.heap.size→B5 v0≠some c→O' c=O c)∧(∀c,w'.heap.size≤c→O' c=none)∧
  ∃xs us,rs=[.l (Ag P e) xs]∧Hm (Bg w' O') (Ag P e) xs us∧
   (r=true→Own w' (Fr.mk w (some v0)).ok e (Ag P e) v xs.length us∧∀g,B5 v=some g→O' g=some 0)∧
   (r=false→v= .tuple #[]∧Own w' (fun _=>True) e (Ag P e) v0 xs.length us∧∀g,B5 v0=some g→O' g=some 0)
structure Says (P:Program) (sig:Nat→Option Nat) (f n:Nat) (vs rs:List PV):Prop where
 plain:n<TAG→∀(w:World) (O:Nat→Option Nat) (args:Array Value),Given w O n vs args→Hd P f args w (Dg7 P (sig f) w O rs)
 turns:TAG≤n→(∃e r,T4 (sig f)=some (e,r)∧∀(w:World) (O:Nat→Option Nat) (args:Array Value) (v0:Value) (xs:List PV) (us:List Value),GivenM P e w O (n - TAG) vs args v0 xs us→Hd P f args w (Av1 P e r v0 w O rs))∨
  ∃e,bw (sig f)=some e∧∀(w:World) (O:Nat→Option Nat) (args:Array Value) (b:Option Addr) (xs:List PV),Given w O (n - TAG) vs args→vs[0]? =some (.l (Ag P e) xs)→args[0]? =some (.slice b xs.length xs.length)→Hd P f args w (Dg7 P (sig f) w O rs)
def Ch3 (P:Program) (f T:Nat):Nat→Prop
 |0=>∃tb ts e,Pq P T=some e∧P.underlying tb=some (.slice e)∧P.underlying ts=some .string∧∀(w w1 w2:World) (b:Nat) (p u:Value) (s:ByteArray) (ao:Option Addr) (n' c':Nat),w.heap[b]? =some (.cells #[p,u] T (0,0))→cn b p w w1→
   (Builtin.append_ #[tb,ts] tb #[u, .string s]).run P w1= .ok (.slice ao n' c') w2→(∃q u',w2.heap[b]? =some (.cells #[q,u'] T (0,0)))→
   Hd P f #[.pointer (some ⟨b,0,none⟩), .string s] w fun _ w'=>w'=w2.setCell ⟨b,1,none⟩ (.slice ao n' c')
 |1=>∃tb e,Pq P T=some e∧P.underlying tb=some (.slice e)∧∀(w w1 w2:World) (b:Nat) (p u:Value) (c:Int) (ao:Option Addr) (n' c':Nat),w.heap[b]? =some (.cells #[p,u] T (0,0))→cn b p w w1→
   (Builtin.append_ #[tb,tb] tb #[u, .slice (some ⟨w1.heap.size,0,none⟩) 1 1]).run P (w1.alloc (.cells #[.int .u8 c] e))= .ok (.slice ao n' c') w2→(∃q u',w2.heap[b]? =some (.cells #[q,u'] T (0,0)))→
   Hd P f #[.pointer (some ⟨b,0,none⟩), .int .u8 c] w fun _ w'=>w'=w2.setCell ⟨b,1,none⟩ (.slice ao n' c')
 |_=>∃e,Pq P T=some e∧∀(w:World) (b g cap:Nat) (p:Value) (cur:Array Value) (l:List UInt8),w.heap[b]? =some (.cells #[p, .slice (some ⟨g,0,none⟩) l.length cap] T (0,0))→
   w.heap[g]? =some (.cells cur e (0,0))→l≠[]→l.length≤cap→cap≤maxLen→cur.size=cap→cur.toList.take l.length=Lib.byteCells l→
   Hd P f #[.pointer (some ⟨b,0,none⟩)] w fun v w'=>v= .string ⟨l.toArray⟩∧w'=w.drew.freeze ⟨g,0,none⟩ l.length
def Hb2 (P:Program) (sig:Nat→Option Nat):Prop:=∀f T k,Ak8 (sig f)=some (T,k)→Ch3 P f T k
structure Contract (P:Program) (sig:Nat→Option Nat) (fn:Fns):Prop where
 says:∀f n vs rs,fn f n vs=some rs→Says P sig f n vs rs
 bld:Hb2 P sig
section
variable {P:Program} {sig:Nat→Option Nat} {fn:Fns} {w0:Fr} {Oe:Nat→Option Nat} {η:List PV} {σ:St} {a:Act} {tm:Array Value} {w:World} {β:Nat→Nat} {hv:Nat→Value} {O:Nat→Option Nat} {G:Option E} {o:Oper} {ws:List W}
theorem Rel.belowO {w':World} {O':Nat→Option Nat} (h:Rel w0 Oe η σ tm w β hv O) (hb:Blw w.heap.size w w') (hO:∀c,c<w.heap.size→O' c=O c) (hout:∀c,w'.heap.size≤c→O' c=none):Rel w0 Oe η σ tm w' β hv O'∧(Bg w O).Le (Bg w' O'):=by
 have hM:(Bg w O).Le (Bg w' O'):=Gy (fun c hc _=>hb.block c hc) (fun c hc lim hl=>⟨lim,by rw [←hO c hc];exact hl,Ac _⟩) (fun c hc hn=>by rw [hO c hc];exact hn)
 have hl:(Cx.mk η (Bg w O) β hv σ.m).Le ⟨η,Bg w' O',β,hv,σ.m⟩:=⟨fun _ _ h=>h,hM⟩
 have hs0:w0.heap.size≤w.heap.size:=h.bel.size
 refine ⟨⟨h.bel.then hb,fun c hc hx=>by rw [hO c (E3 hc hs0)];exact h.ext c hc hx,hout,A7.le hl (fun s=>At.of (fun _ _ h=>h) s) _ _ h.tmps,fun s b hs=> ?_,fun s1 s2 b1 b2 h1 h2 h12 k1 k2=> ?_,h.t0⟩,hM⟩
 ·have hbl:=h.mem s b hs
  exact hbl.le hl (fun s=>At.of (fun _ _ h=>h) s) (fun hh=>hb.block _ (hbl.lt hh).2) (fun hh=>hO _ (hbl.lt hh).2)
 ·exact h.inj s1 s2 b1 b2 h1 h2 h12 ((Has.congr (C:=⟨η,Bg w O,β,hv,σ.m⟩) rfl rfl).1 k1) ((Has.congr (C:=⟨η,Bg w O,β,hv,σ.m⟩) rfl rfl).1 k2)
theorem Fv4 {w:World} {O:Nat→Option Nat} {B:Nat→Prop} {e sz:Nat} {v:Value} {xs:List PV} {us:List Value} (hsz:0<sz) (how:Own w B e sz v xs.length us) (hel:Hm (Bg w O) sz xs us):
  Rep (Bg w fun c=>if B5 v=some c then none else O c) (.l sz xs) v:=by
 have hM:(Bg w O).Le (Bg w fun c=>if B5 v=some c then none else O c):=Gy (fun _ _ _=>rfl) (fun c _ lim hl=>by
  split at hl
  ·cases hl
  ·exact ⟨lim,hl,Ac _⟩) (fun c _ hn=>by
  split
  ·rfl
  ·exact hn)
 rcases how.2 with ⟨b,rfl,hn⟩|⟨g,cap,cur,rfl,e1c,e2,e3,e4,e5,e6,e7⟩
 ·have hx:xs=[]:=Bv hn
  subst hx
  exact Rep.lnil _ _ _ _
 ·have hg:B5 (.slice (some ⟨g,0,none⟩) xs.length cap)=some g:=by simp only [B5,if_neg (show¬cap=0 by omega)]
  have get:∀(i:Nat) (x:PV) (j:Nat) (c:PV),xs[i]? =some x→x.cells[j]? =some c→∃u,us[i*sz+j]? =some u∧One u∧Rep (Bg w O) c u:=fun i x j c hx hc=>(hel i x hx).2 j c hc
  refine .l sz xs _ cap ⟨g,0,none⟩ (fun i j=>us.getD (i*sz+j) undef) e4 (fun _=>rfl) (fun i x hx=>(hel i x hx).1) (fun i x j c hx hc=> ?_) (fun i x j c hx hc=> ?_) (fun i x j c hx hc=> ?_)
  ·obtain ⟨u,k1,k2,k3⟩:=get i x j c hx hc
   simp only [Bf,k1,Cn]
   refine Ew (how.cells hg _ _ k1) fun lim hl=> ?_
   rw [add_lit] at hl
   simp only [hg,if_true] at hl;cases hl
  ·obtain ⟨u,k1,k2,k3⟩:=get i x j c hx hc
   simp only [Bf,k1,Cn];exact k2
  ·obtain ⟨u,k1,k2,k3⟩:=get i x j c hx hc
   simp only [Bf,k1,Cn];exact k3.mono hM
theorem Dg7.plain {own:Option Nat} {rs:List PV} {v:Value} {w':World} (h:Dg7 P own w O rs v w') (hO:∀c,w.heap.size≤c→O c=none):Blw w.heap.size w w'∧∃O',(∀c,c<w.heap.size→O' c=O c)∧(∀c,w'.heap.size≤c→O' c=none)∧K5 (Bg w' O') rs v:=by
 obtain ⟨hb,O',h1,h2,h3⟩:=h
 refine ⟨hb,?_⟩
 generalize rkOf own=k at h3
 cases k with
 |plain=>exact ⟨O',h1,h2,h3⟩
 |full nl m=>exact ⟨O',h1,h2,h3.1⟩
 |own e=>
  obtain ⟨h0,xs,us,rfl,h4,h5,h6⟩:=h3
  refine ⟨fun c=>if B5 v=some c then none else O' c,fun c hc=> ?_,fun c hc=> ?_,Fv4 h0 h4 h5⟩
  ·dsimp only
   rw [if_neg,h1 c hc]
   intro hg
   have:=(h4.lt c hg).1
   omega
  ·dsimp only
   split
   ·rfl
   ·exact h2 c hc
theorem Rep.flat {M M':Vw} {p:PV} {v:Value} (h:Rep M p v) (hp:p.flat=true):Rep M' p v:=by
 induction h with
 |b x=>exact .b x
 |i k n=>exact .i k n
 |s x y h=>exact .s x y h
 |a cs vs hl h1 _ ih=>
  refine .a cs vs hl h1 fun j c v hc hv=>ih j c v hc hv ?_
  have:∀(l:List PV),PV.flat.flats l=true→∀c,c∈l→c.flat=true:=by
   intro l
   induction l with
   |nil=>intro _ c hc;simp at hc
   |cons x l ih=>
    intro h c hc
    simp only [PV.flat.flats,Aq] at h
    rcases Ah.1 hc with rfl|hc
    ·exact h.1
    ·exact ih h.2 c hc
  simp only [PV.flat] at hp
  exact this cs hp c (A6 hc)
 |u _=>simp [PV.flat] at hp
 |l=>simp [PV.flat] at hp
 |f=>simp [PV.flat] at hp
 |m=>simp [PV.flat] at hp
 |pt=>simp [PV.flat] at hp
theorem Rh:∀(l:List PV),PV.flat.flats l=true→∀c,c∈l→c.flat=true
 |[],_,c,hc=>by simp at hc
 |x::l,h,c,hc=>by
  simp only [PV.flat.flats,Aq] at h
  rcases Ah.1 hc with rfl|hc
  ·exact h.1
  ·exact Rh l h.2 c hc
theorem K5.flat {M M':Vw} {rs:List PV} {v:Value} (h:K5 M rs v) (hf:PV.flat.flats rs=true):K5 M' rs v:=by
 unfold K5 at h ⊢
 split at h
 ·rename_i p;exact h.flat (Rh _ hf _ (.head _))
 ·obtain ⟨vs,h1,h2,h3⟩:=h
  exact ⟨vs,h1,h2,fun j p u hp hu=>(h3 j p u hp hu).flat (Rh _ hf _ (A6 hp))⟩
end
end Go.X
/- Calls, as operations. -/
namespace Go.X
open Go Go.RowKit
section
variable {P:Program} {sig:Nat→Option Nat} {fn:Fns} {w0:Fr} {Oe:Nat→Option Nat} {η:List PV} {σ:St} {a:Act} {tm:Array Value} {w:World} {β:Nat→Nat} {hv:Nat→Value} {O:Nat→Option Nat} {G:Option E} {o:Oper} {ws:List W}
theorem Rel.setN (h:Rel w0 Oe η σ tm w β hv O) (n:Nat):Rel w0 Oe η (σ.eff ⟨σ.m,n,none⟩) tm w β hv O:=⟨h.bel,h.ext,h.out,h.tmps,h.mem,h.inj,h.t0⟩
def Tgt (M:Vw) (f:Nat) (caps:List PV) (v:Value):Prop:=
 ∃cv:Array Value,v= .func (.func f) #[] cv∧cv.size=caps.length∧∀(j:Nat) (p:PV) (u:Value),caps[j]? =some p→cv[j]? =some u→Gv M p.cells u
theorem Tgt.static (M:Vw) (f:Nat):Tgt M f [] (.func (.func f) #[] #[]):=⟨#[],rfl,rfl,fun j p u h=>by simp at h⟩
theorem Tgt.of_rep {M:Vw} {f:Nat} {caps:List PV} {v:Value} (h:Rep M (.f f caps) v):Tgt M f caps v:=by
 cases h with
 |f _ _ cv ads el hl hcv hM h1 h=>
  refine ⟨cv,rfl,hl,fun j p u hp hu=> ?_⟩
  have hj:=(Ak.1 hp).1
  rw [hcv j hj] at hu
  injection hu with hu
  exact ⟨ads j,el j,hu.symm,fun k c hc=>hM j p k c hp hc,fun k c hc=>h1 j p k c hp hc,fun k c hc=>h j p k c hp hc⟩
theorem Fy {c:Call} {x:Operand} {f:Nat} {cv:Array Value} {R:Value→World→Prop} (ho:o.op= .call c) (hc:c.callee= .value x) (hx:a.eval x= .func (.func f) #[] cv) (h:Hd P f (c.args.map a.eval++cv) w R):Db P o a w R:=by
 have e:(execOp a.eval o).run P w=(callFunc f (c.args.map a.eval++cv)).run P w:=by
  simp [execOp,ho,resolve,hc,hx,Deferred.ofValue,invoke]
 rcases h with ⟨v,w',h1,h2⟩|⟨w',h1,h2⟩
 ·exact .inl ⟨v,w',by rw [e];exact h1,h2⟩
 ·exact .inr (.inr ⟨_,_,w',by rw [e];exact h1,h2⟩)
theorem od {C:Cx} {η1 rs ζ:List PV} {n:Nat} {single:Bool} {v:Value} (hη:C.η=η1++rs++ζ) (hn:η1.length=n) (hs:single=true→rs.length=1) (hs2:single=false→rs.length≠1) (hr:K5 C.M rs v):Ap C (Ac9 n rs.length single) v:=by
 have get:∀j p,rs[j]? =some p→C.η[n+j]? =some p:=by
  intro j p hp
  have hj:=(Ak.1 hp).1
  rw [hη,Ar,A5 (by omega),←hn,Nat.add_sub_cancel_left,A8 hj]
  exact hp
 cases single with
 |true=>
  have h1:=hs rfl
  match rs,h1 with
  |[p],_=>
   have hr':Rep C.M p v:=hr
   simp only [Ac9,if_true,Ap,E.ev]
   exact ⟨p,get 0 p rfl,hr'⟩
 |false=>
  have h1:=hs2 rfl
  have hr':∃vs:Array Value,v= .tuple vs∧vs.size=rs.length∧∀(j:Nat) (p:PV) (u:Value),rs[j]? =some p→vs[j]? =some u→Rep C.M p u:=by
   unfold K5 at hr
   split at hr
   ·exact absurd rfl h1
   ·exact hr
  obtain ⟨vs,rfl,h2,h3⟩:=hr'
  simp only [Ac9,Ab,if_false,Ap]
  refine ⟨vs,rfl,A7.mk (by simp [h2]) fun j x u hx hu=> ?_⟩
  simp only [By,Aw] at hx
  obtain ⟨k,hk,rfl⟩:=hx
  have hj:j<rs.length:=by have:=(Ak.1 hk).1;simpa using this
  rw [Cj hj] at hk;injection hk with hk;subst hk
  simp only [Ap,E.ev]
  have hp:rs[j]? =some rs[j]:=Ay hj
  exact ⟨rs[j],get j _ hp,h3 j _ u hp (by rw [←Ad];exact hu)⟩
theorem G4 {flat:Bool} {m:Nat} {η1 η2:List PV} {r:Option (List PV)} (h:results flat m η1 r=some η2):∃rs,r=some rs∧rs.length=m∧(flat=true→PV.flat.flats rs=true)∧η2=η1++rs:=by
 simp only [results,Aj] at h
 obtain ⟨rs,hr,h⟩:=h
 split at h
 ·rename_i hc
  injection h with h
  exact ⟨rs,hr,hc.1,hc.2,h.symm⟩
 ·cases h
theorem T8 {m:Nat} {η1 η2 ζ:List PV} {r:Option (List PV)} (h:E1 η1 m G r=some η2) (hη:η=η2++ζ) (hp:r=some η2→∃ζ,η2=η1++ζ) (hG:GOk η G):r=some η2:=by
 unfold E1 at h
 split at h
 ·exact h
 ·rename_i g
  simp only [Aj] at h
  obtain ⟨v,hv,h⟩:=h
  split at h
  ·exact h
  ·injection h with h
   have:=E.ev_mono η1 (List.replicate m .u++ζ) g _ hv
   rw [←Ar,h,←hη,hG g rfl] at this
   cases this
  ·cases h
theorem Ny (P:Program) (nl:Bool) (n mask:Nat):∀(l:List TypeId) (j:Nat),(Gm P nl n mask j l).length=l.length
 |[],_=>rfl
 |_::r,j=>by simp [Gm,Ny P nl n mask r (j+1)]
theorem fullCells_get {P:Program} {nl:Bool} {n mask:Nat}:∀(l:List TypeId) (j0 j:Nat) (x:SV),(Gm P nl n mask j0 l)[j]? =some x→Chk η (Nx P nl n mask j0 l)→
  (mask.testBit (j0+j)=false∧x= .e (.proj (j0+j) (.v n)))∨(mask.testBit (j0+j)=true∧nl=true∧∃sz,x= .nil sz)∨(mask.testBit (j0+j)=true∧∃sz q,x= .lit sz (.proj (j0+j) (.v n))∧(E.app sz (.proj (j0+j) (.v n)) (.c (.l sz []))).ev η=some q)
 |[],j0,j,x,h,_=>by simp [Gm] at h
 |t::r,j0,0,x,h,hk=>by
  simp only [Gm,Cc,Option.some.injEq] at h
  rw [Dl]
  split at h
  ·rename_i hb
   cases nl with
   |true=>exact .inr (.inl ⟨hb,rfl,_,by simpa using h.symm⟩)
   |false=>
    simp only [Ab,if_false] at h
    obtain ⟨q,hq⟩:=hk (.app (Ls P t) (.proj j0 (.v n)) (.c (.l (Ls P t) []))) (by simp [Nx,hb])
    exact .inr (.inr ⟨hb,_,q,h.symm,hq⟩)
  ·rename_i hb
   exact .inl ⟨by simpa using hb,h.symm⟩
 |t::r,j0,j+1,x,h,hk=>by
  simp only [Gm,C7] at h
  have:=fullCells_get r (j0+1) j x h (fun y hy=>hk y (by simp only [Nx];exact Bh _ hy))
  rw [show j0+1+j=j0+(j+1) by omega] at this
  exact this
def Fs2 (P:Program) (sig:Nat→Option Nat) (n:Nat) (η:List PV) (ty s f:Nat) (flat:Bool) (r:SV) (ε:Eff) (r':SV) (ε':Eff):Prop:=
 (r'=r∧ε'=ε)∨(∃e,rkOf (sig f)= .own e∧r'= .h s∧ε'=Gb ε.m ε.n s (.arr e (Ag P e) (.v n) false))∨
 ∃nl mask,rkOf (sig f)= .full nl mask∧flat=false∧Is P ty=true∧r'= .ag (Gm P nl n mask 0 (Jg P 20 ty))∧ε'=ε∧(∃q,(E.fit (Jg P 20 ty).length (.v n)).ev η=some q)∧Chk η (Nx P nl n mask 0 (Jg P 20 ty))
theorem Fg2 (hC:Contract P sig fn) {c:Call} {x:Operand} {svs:List SV} {es:List E} {ss more:List Nat} {flat single:Bool} {m:Nat} {η1 ζ rs vs caps:List PV} {f s:Nat} {r:SV} {ε:Eff} (ho:o.op= .call c) (hc:c.callee= .value x)
  (h:Rel w0 Oe η σ a.tmps w β hv O) (hargs:A7 ⟨η,Bg w O,β,hv,σ.m⟩ svs (c.args.map a.eval).toList) (hes:d4 σ.m svs=some (es,ss)) (hvs:E.evs η es=some vs)
  (htgt:∀O1,(Bg w O).Le (Bg w O1)→(∀s,s∈more→Kk ⟨η,Bg w O,β,hv,σ.m⟩ O1 s)→Tgt (Bg w O1) f caps (a.eval x))
  (hfn:fn f vs.length (vs++caps)=some rs) (hlt:vs.length<TAG) (hm:rs.length=m) (hfl:flat=true→PV.flat.flats rs=true) (hη:η=η1++rs++ζ) (hn:η1.length=σ.n) (hs1:single=true→m=1) (hs2:single=false→m≠1)
  {ty:Nat} (hsi:Is P ty=true→m=1) (hres:Fs2 P sig σ.n η ty s f flat (Ac9 σ.n m single) ⟨if flat then σ.m else Ks (ss++more) σ.m,σ.n+m,none⟩ r ε):
  Db P o a w (Fs w0 Oe η σ a.tmps ε r):=by
 obtain ⟨O1,hrel,hM,hop,_⟩:=h.frz (ss++more) (n:=σ.n+m)
 obtain ⟨ps,q1,q2,q3⟩:=N1 h hM hes hargs (fun s hs=>hop s (by simp [hs]))
 rw [hvs] at q1;injection q1 with q1;subst q1
 obtain ⟨cv,hx,hcv,hcaps⟩:=htgt O1 hM (fun s hs=>hop s (by simp [hs]))
 have hsz:(c.args.map a.eval).size=vs.length:=by rw [q2,Bn]
 have hgiven:Given w O1 vs.length (vs++caps) (c.args.map a.eval++cv):=by
  refine ⟨hrel.out,by rw [Mm,Az,hsz,hcv],fun j p v hj hp hu=> ?_,fun j p v hj hp hu=> ?_⟩
  ·rw [A8 hj] at hp
   rw [Cv (by omega)] at hu
   exact q3 j p v hp (by rw [Ad];exact hu)
  ·rw [A5 hj] at hp
   rw [Array.getElem?_append_right (by omega),hsz] at hu
   exact hcaps _ p v hp hu
 refine Fy ho hc hx (((hC.says f _ _ rs hfn).plain hlt w O1 _ hgiven).mono fun v w' hback=> ?_)
 subst hm
 rcases hres with ⟨rfl,rfl⟩|⟨e,hsig,rfl,rfl⟩|⟨nl,mask,hsig,rfl,hsg,rfl,rfl,⟨q0,hq0⟩,hkw⟩
 ·obtain ⟨hb,O1',k1,k2,k3⟩:=hback.plain hrel.out
  cases flat with
  |true=>
   simp only [if_true]
   have hrel2:Rel w0 Oe η (σ.eff ⟨σ.m,σ.n+rs.length,none⟩) a.tmps w' β hv O:=(h.below hb).setN _
   refine ⟨β,hv,O,hrel2,od (C:=⟨η,Bg w' O,β,hv,σ.m⟩) hη hn hs1 hs2 (k3.flat (hfl rfl))⟩
  |false=>
   simp only [Ab,if_false]
   obtain ⟨hrel2,hM2⟩:=hrel.belowO hb k1 k2
   exact ⟨β,hv,O1',hrel2,od (C:=⟨η,Bg w' O1',β,hv,_⟩) hη hn hs1 hs2 k3⟩
 ·obtain ⟨hb,O1',k1,k2,k3⟩:=hback
  rw [hsig] at k3
  obtain ⟨h0,xs,us,rfl,k4,k5,k6⟩:=k3
  have hx1:(E.v σ.n).ev η=some (.l (Ag P e) xs):=by
   simp only [E.ev]
   rw [hη,Ar,A5 (by omega),←hn,Cl2];rfl
  cases flat with
  |true=>
   have:=hfl rfl
   simp [PV.flat.flats,PV.flat] at this
  |false=>
   simp only [Ab,if_false]
   obtain ⟨β',hv',r1,r2⟩:=hrel.own (n:=σ.n+1) (s:=s) (e:=e) (ro:=false) (x:= .v σ.n) hb k1 k2 k6 h0 hx1 k4 k5
   refine ⟨β',hv',O1',r1,?_⟩
   simp only [Ap];exact r2.symm
 ·obtain ⟨hb,O1',k1,k2,k3⟩:=hback
  rw [hsig] at k3
  obtain ⟨k3,k4⟩:=k3
  simp only [Ab,if_false]
  obtain ⟨hrel2,hM2⟩:=hrel.belowO hb k1 k2
  refine ⟨β,hv,O1',hrel2,?_⟩
  have hl1:=hsi hsg
  match rs,hl1 with
  |[p],_=>
   have hp:(E.v σ.n).ev η=some p:=by
    simp only [E.ev]
    rw [hη,Ar,A5 (by omega),←hn,Cl2];rfl
   have k3':Rep (Bg w' O1') p v:=k3
   simp only [E.ev,Aj] at hq0
   obtain ⟨p',hp',hq0⟩:=hq0
   have hp2:η[σ.n]? =some p:=by simpa only [E.ev] using hp
   rw [hp2] at hp';injection hp' with hp';subst hp'
   cases p with
   |a cs=>
    simp only at hq0
    split at hq0
    ·rename_i hcl
     cases k3' with
     |a _ vs hl h1 hrep=>
      simp only [Ap]
      refine ⟨vs,rfl,h1,A7.mk (by rw [Ny];simp [hl,hcl]) fun j x u hx hu=> ?_⟩
      rw [Ad] at hu
      have hj:j<cs.length:=by rw [←hl];exact (B3.1 hu).1
      have hc:cs[j]? =some cs[j]:=Ay hj
      have hr:=hrep j _ u hc hu
      have hev:(E.proj j (.v σ.n)).ev η=some cs[j]:=by
       simp only [E.ev,hp2,Ax]
       exact hc
      rcases fullCells_get _ 0 j x hx hkw with ⟨_,rfl⟩|⟨hbit,hnl,sz,rfl⟩|⟨hbit,sz,q,rfl,hq⟩
      ·rw [Ek]
       simp only [Ap]
       exact ⟨_,hev,hr⟩
      ·rw [Ek] at hbit
       obtain ⟨vs',b,k,hvv,hvj,hn2⟩:=k4 j hbit
       obtain ⟨rfl,rfl⟩:=hn2 hnl
       injection hvv with hvv
       subst hvv
       rw [hu] at hvj
       simp only [Ap];injection hvj
      ·rw [Ek] at hbit hq ⊢
       simp only [E.ev,hp2,Ax] at hq
       have hc':(PV.a cs).cells[j]? =some cs[j]:=hc
       rw [hc'] at hq
       simp only [Ax] at hq
       obtain ⟨vs',b,k,hvv,hvj,_⟩:=k4 j hbit
       injection hvv with hvv
       subst hvv
       rw [hu] at hvj
       injection hvj with hvj
       subst hvj
       generalize hcj:cs[j]=c at hr hev hq
       unfold H2 at hq
       split at hq
       ·rename_i s1 xs s2 ys heq
        split at hq
        ·rename_i hcond
         obtain ⟨rfl,_,_⟩:=hcond
         simp only [Ap]
         cases hr with
         |l _ _ _ _ ad el hc hb0 hsz hM3 h3 h4=>
          exact ⟨xs,b,hev,rfl, .l _ _ _ _ ad el hc hb0 hsz hM3 h3 h4⟩
        ·cases hq
       ·cases hq
    ·cases hq0
   |_=>simp at hq0
end
end Go.X
/- Operations with maps. -/
namespace Go.X
open Go Go.RowKit
theorem Fk9 (y y':ByteArray):(y==y')=(y.data.toList==y'.data.toList):=by
 cases y with|mk a=>cases y' with|mk b=>
 show (a==b)=_
 rcases a with ⟨a⟩
 rcases b with ⟨b⟩
 simp
theorem mfind_now {M:Vw} {x:List UInt8} {y:ByteArray} (hy:y.data.toList=x):∀(es:List (PV×PV)) (ents:List MapEntry) (i:Nat) (r:Option PV),ents.length=es.length→
  (∀(j:Nat) (e:PV×PV) (z:MapEntry),es[j]? =some e→ents[j]? =some z→Rep M e.1 z.key)→V5 (.s x) es=some r→
  (r=none∧Instr.findNow .string (.string y) ents i=some none)∨
  ∃j z e,Instr.findNow .string (.string y) ents i=some (some (i+j,z.val))∧ents[j]? =some z∧es[j]? =some e∧r=some e.2
 |[],[],i,r,_,_,h=>by
  simp only [V5,Option.some.injEq] at h
  exact .inl ⟨h.symm,rfl⟩
 |e::es,z::ents,i,r,hl,hk,h=>by
  have k0:=hk 0 e z rfl rfl
  have hk':∀(j:Nat) (e:PV×PV) (z:MapEntry),es[j]? =some e→ents[j]? =some z→Rep M e.1 z.key:=fun j e' z' h1 h2=>hk (j+1) e' z' (by simpa using h1) (by simpa using h2)
  simp only [V5] at h
  cases hc:e.1 with
  |s x'=>
   rw [hc] at k0
   obtain ⟨y',hz,hy'⟩:=k0.str
   simp only [hc,aw] at h
   have hs:Instr.sameNow .string (.string y) z.key=some (x==x'):=by
    rw [hz];simp only [Instr.sameNow];rw [Fk9,hy,hy']
   cases hb:(x==x') with
   |true=>
    rw [hb] at h hs
    simp only [Option.some.injEq] at h
    refine .inr ⟨0,z,e,?_,rfl,rfl,h.symm⟩
    simp only [Instr.findNow,hs,Dl]
   |false=>
    rw [hb] at h hs
    simp only at h
    rcases mfind_now hy es ents (i+1) r (by simpa using hl) hk' h with ⟨h1,h2⟩|⟨j,z',e',h1,h2,h3,h4⟩
    ·exact .inl ⟨h1,by simp only [Instr.findNow,hs,h2]⟩
    ·refine .inr ⟨j+1,z',e',?_,by simpa using h2,by simpa using h3,h4⟩
     simp only [Instr.findNow,hs,h1]
     rw [Eb,Cl3 1 j]
  |_=>simp [hc,aw] at h
 |[],_::_,_,_,hl,_,_=>by simp at hl
 |_::_,[],_,_,hl,_,_=>by simp at hl
theorem mput_now {M:Vw} {x:List UInt8} {y:ByteArray} {v:PV} (hy:y.data.toList=x):∀(es:List (PV×PV)) (ents:List MapEntry) (i:Nat) (es':List (PV×PV)),ents.length=es.length→
  (∀(j:Nat) (e:PV×PV) (z:MapEntry),es[j]? =some e→ents[j]? =some z→Rep M e.1 z.key)→Dn3 (.s x) v es=some es'→
  (Instr.findNow .string (.string y) ents i=some none∧es'=es++[(.s x,v)])∨
  ∃j z,Instr.findNow .string (.string y) ents i=some (some (i+j,z.val))∧ents[j]? =some z∧z.key= .string y∧es'=es.set j (.s x,v)
 |[],[],i,es',_,_,h=>by
  simp only [Dn3,Option.some.injEq] at h
  exact .inl ⟨rfl,h.symm⟩
 |e::es,z::ents,i,es',hl,hk,h=>by
  have k0:=hk 0 e z rfl rfl
  have hk':∀(j:Nat) (e:PV×PV) (z:MapEntry),es[j]? =some e→ents[j]? =some z→Rep M e.1 z.key:=fun j e' z' h1 h2=>hk (j+1) e' z' (by simpa using h1) (by simpa using h2)
  simp only [Dn3] at h
  cases hc:e.1 with
  |s x'=>
   rw [hc] at k0
   obtain ⟨y',hz,hy'⟩:=k0.str
   simp only [hc,aw] at h
   have hs:Instr.sameNow .string (.string y) z.key=some (x==x'):=by
    rw [hz];simp only [Instr.sameNow];rw [Fk9,hy,hy']
   cases hb:(x==x') with
   |true=>
    have hyy:y=y':=by
     have:(y==y')=true:=by rw [Fk9,hy,hy',hb]
     exact (MapKept.bytes_beq _ _).1 this
    rw [hb] at h hs
    simp only [Option.some.injEq] at h
    refine .inr ⟨0,z,?_,rfl,by rw [hz,hyy],by rw [←h];rfl⟩
    simp only [Instr.findNow,hs,Dl]
   |false=>
    rw [hb] at h hs
    simp only [Aw] at h
    obtain ⟨es1,hm1,rfl⟩:=h
    rcases mput_now hy es ents (i+1) es1 (by simpa using hl) hk' hm1 with ⟨h1,rfl⟩|⟨j,z',h1,h2,h3,rfl⟩
    ·exact .inl ⟨by simp only [Instr.findNow,hs,h1],rfl⟩
    ·refine .inr ⟨j+1,z',?_,by simpa using h2,h3,rfl⟩
     simp only [Instr.findNow,hs,h1]
     rw [Eb,Cl3 1 j]
  |_=>simp [hc,aw] at h
 |[],_::_,_,_,hl,_,_=>by simp at hl
 |_::_,[],_,_,hl,_,_=>by simp at hl
theorem Yk {P:Program} {t e:TypeId} (h:Yq P t=some e):∃k,P.underlying t=some (.map k e)∧P.underlying k=some .string:=by
 unfold Yq at h
 split at h
 ·rename_i k e' hu
  split at h
  ·rename_i hk
   injection h with h;subst h
   exact ⟨k,hu,hk⟩
  ·cases h
 ·cases h
theorem Cl5 {P:Program} {t:TypeId} {z:E} {w:World} (h:Cl6 P t=some z) (C:Cx):∃v p,(zeroValue t).run P w= .ok v w∧One v∧z.ev C.η=some p∧Rep C.M p v:=by
 unfold Cl6 at h
 split at h
 ·rename_i i hi
  split at h
  ·rename_i v hv
   split at h
   ·rename_i h1
    obtain ⟨p,hp,hr⟩:=SV.asE_ok h (N3 C (Ls P t) v)
    exact ⟨v,p,by simp [zeroValue,typeInfo,hi,hv],h1,hp,hr⟩
   ·cases h
  ·cases h
 ·cases h
section
variable {P:Program} {w0:Fr} {Oe:Nat→Option Nat} {η:List PV} {σ:St} {a:Act} {tm:Array Value} {w:World} {β:Nat→Nat} {hv:Nat→Value} {O:Nat→Option Nat} {G:Option E} {o:Oper} {ws:List W}
theorem Fx6 (h:Rel w0 Oe η σ tm w β hv O) {sv:SV} {x:E} {v:Value} (hx:Hz1 σ.m sv=some x) (hr:Ap ⟨η,Bg w O,β,hv,σ.m⟩ sv v) {es:List (PV×PV)} (hev:x.ev η=some (.m es)):
  ∃r ents clock,v= .map (some r)∧w.heap[r]? =some (.map ents clock)∧MapRep (Bg w O) es ents:=by
 unfold Hz1 at hx
 split at hx
 ·injection hx with hx;subst hx
  simp only [Ap] at hr
  obtain ⟨p,hp,hpr⟩:=hr
  have hp':E.ev η _=some p:=hp
  rw [hev] at hp';injection hp' with hp';subst hp'
  cases hpr with
  |m _ r ents hr hl hk hv h1=>
   obtain ⟨_,clock,hh⟩:=U5 hr
   exact ⟨r,ents,clock,rfl,hh,hl,hk,hv,h1⟩
 ·split at hx
  ·rename_i s y ro hb
   injection hx with hx;subst hx
   obtain ⟨_,_,es',ents,clock,g1,g2,g3⟩:=h.mem _ _ hb
   have g1':E.ev η _=some (.m es'):=g1
   rw [hev] at g1';injection g1' with g1';injection g1' with g1';subst g1'
   simp only [Ap] at hr
   exact ⟨_,ents,clock,hr,g2,g3⟩
  ·cases hx
 ·cases hx
theorem Fx5 {x k z:E} {q:PV} (h:(E.mget x k z).ev η=some q):∃es kp zp r,x.ev η=some (.m es)∧k.ev η=some kp∧z.ev η=some zp∧V5 kp es=some r∧q=r.getD zp:=by
 simp only [E.ev,Aj] at h
 obtain ⟨p,hp,kp,hkp,zp,hzp,h⟩:=h
 unfold Z7 at h
 split at h
 ·rename_i es
  split at h
  ·obtain ⟨r,hr,hq⟩:=Aw.1 h
   exact ⟨es,kp,zp,r,hp,hkp,hzp,hr,hq.symm⟩
  ·cases h
 ·cases h
theorem Ar3 {t k e:TypeId} {m x:Operand} {sv:SV} {em ex z:E} (ho:o.op= .lookup t m x false) (ht:P.underlying t=some (.map k e)) (hkt:P.underlying k=some .string)
  (h:Rel w0 Oe η σ a.tmps w β hv O) (hG:GOk η G) (hm:opd P σ G 0 m=some sv) (hme:Hz1 σ.m sv=some em) (hx:Fv P σ G 0 x=some ex) (hz:Cl6 P e=some z)
  (hk:Chk η [F0 G (.mget em ex z),F0 G (.slen ex)]):Db P o a w (Fs w0 Oe η σ a.tmps (Fb σ) (.e (.mget em ex z))):=by
 have hr:=D8 (ds:=a.defers) (C:=⟨η,Bg w O,β,hv,σ.m⟩) hG rfl hm h.tmps
 obtain ⟨kp,hkp,hkr⟩:=Dq (ds:=a.defers) (C:=⟨η,Bg w O,β,hv,σ.m⟩) hG rfl hx h.tmps
 have hkp':ex.ev η=some kp:=hkp
 obtain ⟨q,hq⟩:=hk.g hG (.head _)
 obtain ⟨l,hl⟩:=hk.g hG (.tail _ (.head _))
 obtain ⟨es,kp',zp,r,q1,q2,q3,q4,q5⟩:=Fx5 hq
 rw [hkp'] at q2;injection q2 with q2;subst q2
 have hks:∃xs,kp= .s xs:=by
  simp only [E.ev,hkp',Ax] at hl
  cases kp<;>simp [Ot] at hl
  exact ⟨_,rfl⟩
 obtain ⟨xs,rfl⟩:=hks
 obtain ⟨y,hy,hyx⟩:=hkr.str
 obtain ⟨rr,ents,clock,hmv,hheap,hrep⟩:=Fx6 h hme hr q1
 obtain ⟨zv,zp',hz1,hz2,hz3,hz4⟩:=Cl5 (w:=w) hz ⟨η,Bg w O,β,hv,σ.m⟩
 have hz3':z.ev η=some zp':=hz3
 rw [q3] at hz3';injection hz3' with hz3';subst hz3'
 have hm':a.eval m= .map (some rr):=hmv
 have hx':a.eval x= .string y:=hy
 have hch:∀em,(Instr.checkKey em 10000 k (.string y)).run P w= .ok () w:=fun em=>by
  rw [show (10000:Nat)=9999+1 from rfl]
  unfold Instr.checkKey
  simp [run_underlying hkt,Result.andThen]
 have hfk:∀u,Instr.findNow .string (.string y) ents.toList 0=some u→(Instr.findKey k (.string y) ents.toList).run P w= .ok u w:=fun u hu=>by
  simp [Instr.findKey,run_underlying hkt,Result.andThen,hu]
 rcases mfind_now (M:=Bg w O) hyx es ents.toList 0 r (by simpa using hrep.len) (fun j e z h1 h2=>hrep.key j e z h1 (by simpa using h2)) q4 with ⟨rfl,h1⟩|⟨j,z',e',h1,h2,h3,rfl⟩
 ·refine Db.value (v:=zv) (w':=w) ?_ (Fs.keep h ?_)
  ·simp [execOp,ho,hm',hx',Instr.lookup,run_underlying ht,MapKept.run_getObj_map hheap,hch,hfk _ h1,hz1,Result.andThen]
  ·simp only [Ap]
   exact ⟨_,hq,by rw [q5];exact hz4⟩
 ·refine Db.value (v:=z'.val) (w':=w) ?_ (Fs.keep h ?_)
  ·simp [execOp,ho,hm',hx',Instr.lookup,run_underlying ht,MapKept.run_getObj_map hheap,hch,hfk _ h1,Result.andThen]
  ·simp only [Ap]
   exact ⟨_,hq,by rw [q5];exact hrep.val j e' z' h3 (by simpa using h2)⟩
theorem yn {t:TypeId} {s:Nat} (ho:o.op= .makeMap t none) (h:Rel w0 Oe η σ a.tmps w β hv O):
  Db P o a w (Fs w0 Oe η σ a.tmps (Gb σ.m σ.n s (.map (.c (.m [])) false)) (.mh s)):=by
 obtain ⟨β',O',hβ,hrel⟩:=h.alloc (s:=s) (b:= .map (.c (.m [])) false) (n:=σ.n) (.map #[] 0) fun β' O' hb _ hO _=>by
  refine ⟨by show w0.ok (β' s);rw [hb];exact .inl h.bel.size,fun _=>by show O' (β' s)=_;rw [hb];exact hO,[],#[],0,rfl,?_,⟨rfl,fun j e z h1=>by simp at h1,fun j e z h1=>by simp at h1,fun j e z h1=>by simp at h1⟩⟩
  show (w.alloc _).heap[β' s]? =_
  rw [hb];exact heap_alloc_new w _
 refine Db.value (v:= .map (some w.heap.size)) (w':=w.alloc (.map #[] 0)) ?_ ⟨β',hv,O',hrel,?_⟩
 ·simp [execOp,ho,Instr.makeMap]
 ·simp only [Ap,hβ]
theorem Y4 {t k e:TypeId} {m x y:Operand} {s:Nat} {em ex ev:E} (ho:o.op= .mapUpdate t m x y) (ht:P.underlying t=some (.map k e)) (hkt:P.underlying k=some .string)
  (h:Rel w0 Oe η σ a.tmps w β hv O) (hG:GOk η G) (hm:opd P σ G 0 m=some (.mh s)) (hb:mget σ.m s=some (.map em false)) (hx:Fv P σ G 0 x=some ex) (hy:Fv P σ G 0 y=some ev)
  (hk:Chk η [.chk (.mset em ex ev), .chk (.slen ex), .chk (.scal ev)]):Db P o a w (Fs w0 Oe η σ a.tmps ⟨H5 σ.m s (.map (.mset em ex ev) false),σ.n,none⟩ .und):=by
 have hr:=D8 (ds:=a.defers) (C:=⟨η,Bg w O,β,hv,σ.m⟩) hG rfl hm h.tmps
 simp only [Ap] at hr
 obtain ⟨kp,hkp,hkr⟩:=Dq (ds:=a.defers) (C:=⟨η,Bg w O,β,hv,σ.m⟩) hG rfl hx h.tmps
 obtain ⟨vp,hvp,hvr⟩:=Dq (ds:=a.defers) (C:=⟨η,Bg w O,β,hv,σ.m⟩) hG rfl hy h.tmps
 have hkp':ex.ev η=some kp:=hkp
 have hvp':ev.ev η=some vp:=hvp
 obtain ⟨q,hq⟩:=hk _ (.head _)
 obtain ⟨l,hl⟩:=hk _ (.tail _ (.head _))
 obtain ⟨l2,hl2⟩:=hk _ (.tail _ (.tail _ (.head _)))
 have hks:∃xs,kp= .s xs:=by
  simp only [E.ev,hkp',Ax] at hl
  cases kp<;>simp [Ot] at hl
  exact ⟨_,rfl⟩
 obtain ⟨xs,rfl⟩:=hks
 have hsc:vp.scal=true:=by
  simp only [E.ev,hvp',Ax] at hl2
  by_cases hs:vp.scal=true
  ·exact hs
  ·simp [hs] at hl2
 obtain ⟨yk,hyk,hyx⟩:=hkr.str
 obtain ⟨g1,g2,es,ents,clock,g3,g4,g5⟩:=h.mem s _ hb
 have g3':em.ev η=some (.m es):=g3
 have g4':w.heap[β s]? =some (.map ents clock):=g4
 have hq':=hq
 simp only [E.ev,g3',hkp',hvp',Ax,Z6,Bw7,if_true,Aw] at hq'
 obtain ⟨es',q4,rfl⟩:=hq'
 have hm':a.eval m= .map (some (β s)):=hr
 have hx':a.eval x= .string yk:=hyk
 have hch:∀em,(Instr.checkKey em 10000 k (.string yk)).run P w= .ok () w:=fun em=>by
  rw [show (10000:Nat)=9999+1 from rfl]
  unfold Instr.checkKey
  simp [run_underlying hkt,Result.andThen]
 have hfk:∀u,Instr.findNow .string (.string yk) ents.toList 0=some u→(Instr.findKey k (.string yk) ents.toList).run P w= .ok u w:=fun u hu=>by
  simp [Instr.findKey,run_underlying hkt,Result.andThen,hu]
 have fin:∀ents' clock',MapRep (Bg w O) es' ents'→(execOp a.eval o).run P w= .ok .skip {w with heap:=w.heap.setIfInBounds (β s) (.map ents' clock')}→Db P o a w (Fs w0 Oe η σ a.tmps ⟨H5 σ.m s (.map (.mset em ex ev) false),σ.n,none⟩ .und):=by
  intro ents' clock' hrep hrun
  have hset:=MapKept.heap_set (o':= .map ents' clock') g4'
  refine .inr (.inl ⟨_,hrun,β,hv,O,?_,by simp only [Ap]⟩)
  have hM:(Bg w O).Le (Bg {w with heap:=w.heap.setIfInBounds (β s) (.map ents' clock')} O):=
   Gy (fun c _ hc=>hset.2 c (fun e=>by subst e;exact absurd (hc 0 (g2 rfl)) (by omega))) (fun c _ lim hl=>⟨lim,hl,Ac _⟩) (fun c _ hn=>hn)
  have hbs:w0.ok (β s):=g1
  refine h.put hb trivial (g2 rfl) (h.bel.turn hbs rfl rfl rfl (Ac _) (by simp) fun k _ hk=>hset.2 k hk) (by simp) (fun c hc=>hset.2 c hc) (fun e sz x ro xs hh=>by cases hh) ⟨g1,g2,es',ents',clock',hq,hset.1,hrep.mono hM⟩
 rcases mput_now (M:=Bg w O) hyx es ents.toList 0 es' (by simpa using g5.len) (fun j e z h1 h2=>g5.key j e z h1 (by simpa using h2)) q4 with ⟨h1,rfl⟩|⟨j,z',h1,h2,h3,rfl⟩
 ·refine fin (ents.push ⟨.string yk,a.eval y,clock⟩) (clock+1) ?_ ?_
  ·have hlen:=g5.len
   have get:∀(j:Nat) (e:PV×PV) (z:MapEntry),(es++[(PV.s xs,vp)])[j]? =some e→(ents.push ⟨.string yk,a.eval y,clock⟩)[j]? =some z→(es[j]? =some e∧ents[j]? =some z)∨(e=(PV.s xs,vp)∧z=⟨.string yk,a.eval y,clock⟩):=by
    intro j e z h1 h2
    by_cases hj:j<es.length
    ·rw [A8 hj] at h1
     rw [Array.getElem?_push,if_neg (by omega)] at h2
     exact .inl ⟨h1,h2⟩
    ·by_cases hj2:j=es.length
     ·subst hj2
      rw [A5 (Ac _)] at h1
      rw [Array.getElem?_push,if_pos hlen.symm] at h2
      simp at h1 h2
      exact .inr ⟨h1.symm,h2.symm⟩
     ·rw [dz (by simp;omega)] at h1;cases h1
   refine ⟨by simp [hlen],fun j e z h1 h2=> ?_,fun j e z h1 h2=> ?_,fun j e z h1 h2=> ?_⟩
   ·rcases get j e z h1 h2 with ⟨h3,h4⟩|⟨rfl,rfl⟩
    ·exact g5.key j e z h3 h4
    ·exact .s _ _ hyx
   ·rcases get j e z h1 h2 with ⟨h3,h4⟩|⟨rfl,rfl⟩
    ·exact g5.val j e z h3 h4
    ·exact hvr
   ·rcases get j e z h1 h2 with ⟨h3,h4⟩|⟨rfl,rfl⟩
    ·exact g5.one j e z h3 h4
    ·exact hvr.one hsc
  ·simp [execOp,ho,hm',hx',Instr.mapUpdate,run_underlying ht,MapKept.run_getObj_map g4',hch,hfk _ h1,MapKept.run_setObj_map _ g4',Result.andThen]
 ·have h2':ents[j]? =some z':=by simpa using h2
  have hj:j<ents.size:=(B3.1 h2').1
  refine fin (ents.modify j fun e=>{e with key:= .string yk,val:=a.eval y}) clock ?_ ?_
  ·have hlen:=g5.len
   have get:∀(i:Nat) (e:PV×PV) (z:MapEntry),(es.set j (PV.s xs,vp))[i]? =some e→(ents.modify j fun e=>{e with key:= .string yk,val:=a.eval y})[i]? =some z→(es[i]? =some e∧ents[i]? =some z)∨(e=(PV.s xs,vp)∧z.key= .string yk∧z.val=a.eval y):=by
    intro i e z h1 h2
    rw [Fh] at h2
    rw [C0] at h1
    by_cases hij:j=i
    ·subst hij
     rw [if_pos rfl,if_pos (by omega)] at h1
     rw [if_pos rfl,h2'] at h2
     simp at h1 h2
     exact .inr ⟨h1.symm,by rw [←h2],by rw [←h2]⟩
    ·rw [if_neg hij] at h1 h2
     exact .inl ⟨h1,h2⟩
   refine ⟨by simp [hlen],fun j e z h1 h2=> ?_,fun j e z h1 h2=> ?_,fun j e z h1 h2=> ?_⟩
   ·rcases get j e z h1 h2 with ⟨h3,h4⟩|⟨rfl,h3,h4⟩
    ·exact g5.key j e z h3 h4
    ·rw [h3];exact .s _ _ hyx
   ·rcases get j e z h1 h2 with ⟨h3,h4⟩|⟨rfl,h3,h4⟩
    ·exact g5.val j e z h3 h4
    ·rw [h4];exact hvr
   ·rcases get j e z h1 h2 with ⟨h3,h4⟩|⟨rfl,h3,h4⟩
    ·exact g5.one j e z h3 h4
    ·rw [h4];exact hvr.one hsc
  ·have hsb:Instr.sameBits 10000 (.string yk) (.string yk)=true:=by
    rw [show (10000:Nat)=9999+1 from rfl];simp only [Instr.sameBits];exact (MapKept.bytes_beq _ _).2 rfl
   simp [execOp,ho,hm',hx',Instr.mapUpdate,run_underlying ht,MapKept.run_getObj_map g4',hch,hfk _ h1,h2',h3,Instr.keyThatStays,hsb,MapKept.run_setObj_map _ g4',Result.andThen]
end
end Go.X
/- Calls that turn an array of one's own. -/
namespace Go.X
open Go Go.RowKit
section
variable {P:Program} {sig:Nat→Option Nat} {fn:Fns} {w0:Fr} {Oe:Nat→Option Nat} {η:List PV} {σ:St} {a:Act} {tm:Array Value} {w:World} {β:Nat→Nat} {hv:Nat→Value} {O:Nat→Option Nat} {G:Option E} {o:Oper} {ws:List W}
theorem Rel.turned {w':World} {O':Nat→Option Nat} {s e0 sz0:Nat} {x0:E} (h:Rel w0 Oe η σ tm w β hv O) (h0:mget σ.m s=some (.arr e0 sz0 x0 false))
  (hb:Bel ⟨w,some (hv s)⟩ w') (hO':∀c,c<w.heap.size→B5 (hv s)≠some c→O' c=O c):
  Bel w0 w'∧(Bg w O).Le (Bg w' O')∧(∀c,c<w0.heap.size→w0.x≠some c→O' c=Oe c)∧
  (∀s' b',s'≠s→mget σ.m s'=some b'→Has ⟨η,Bg w O,β,hv,σ.m⟩ s' b'→B5 (hv s)≠some (β s')∧w'.heap[β s']? =w.heap[β s']? ∧O' (β s')=O (β s'))∧
  (∀g,B5 (hv s)=some g→g=β s∧w0.ok g∧O g=some 0∧g<w.heap.size):=by
 obtain ⟨_,xs0,us0,_,how0,_,hsh⟩:=h.mem s _ h0
 have hg0:∀g,B5 (hv s)=some g→g=β s∧w0.ok g∧O g=some 0∧g<w.heap.size:=by
  intro g hg
  obtain ⟨h1,lim,h2,_,h3⟩:=hsh g hg
  obtain ⟨h4,h5⟩:=how0.lt g hg
  exact ⟨h1,h4,by rw [h2,h3 rfl],h5⟩
 have hsz:w0.heap.size≤w.heap.size:=h.bel.size
 have hblk:∀c,c<w.heap.size→B5 (hv s)≠some c→w'.heap[c]? =w.heap[c]? :=fun c hc hx=>hb.block c hc hx
 refine ⟨⟨hb.os.trans h.bel.os,hb.tape.trans h.bel.tape,hb.output.trans h.bel.output,Dy h.bel.drawn hb.drawn,Dy hsz hb.size,fun k hk hx=> ?_⟩,Gy (fun c hc hl=> ?_) (fun c hc lim hl=> ?_) (fun c hc hn=> ?_),fun c hc hx=> ?_,fun s' b' hs hb' hh=> ?_,hg0⟩
 ·have hne:B5 (hv s)≠some k:=fun e=>by
   obtain ⟨_,h4,_,_⟩:=hg0 k e
   rcases h4 with h4|h4
   ·have:w0.w.heap.size≤k:=h4
    omega
   ·exact hx h4
  rw [hblk k (E3 hk hsz) hne]
  exact h.bel.block k hk hx
 ·refine hblk c hc fun e=> ?_
  have:=hl 0 (hg0 c e).2.2.1
  omega
 ·by_cases e:B5 (hv s)=some c
  ·exact ⟨0,(hg0 c e).2.2.1,C4 _⟩
  ·exact ⟨lim,by rw [←hO' c hc e];exact hl,Ac _⟩
 ·have e:B5 (hv s)≠some c:=fun e=>by
   rw [(hg0 c e).2.2.1] at hn;cases hn
  rw [hO' c hc e];exact hn
 ·have hne:B5 (hv s)≠some c:=fun e=>by
   obtain ⟨_,h4,_,_⟩:=hg0 c e
   rcases h4 with h4|h4
   ·have:w0.w.heap.size≤c:=h4
    have:c<w0.w.heap.size:=hc
    omega
   ·exact hx h4
  rw [hO' c (E3 hc hsz) hne]
  exact h.ext c hc hx
 ·have hne:B5 (hv s)≠some (β s'):=fun e=>by
   have h1:=(hg0 _ e).1
   have hh2:Has ⟨η,Bg w O,β,hv,σ.m⟩ s (.arr e0 sz0 x0 false):=by
    show B5 (hv s)=some (β s)
    rw [e,h1]
   exact h.inj s' s b' _ hb' h0 hs hh hh2 h1
  have hlt:=((h.mem s' b' hb').lt hh).2
  exact ⟨hne,hblk _ hlt hne,hO' _ hlt hne⟩
theorem Rel.retake {w':World} {O':Nat→Option Nat} {s e0 sz0 e sz n:Nat} {x0 x:E} {v:Value} {xs:List PV} {vs:List Value} (h:Rel w0 Oe η σ tm w β hv O) (h0:mget σ.m s=some (.arr e0 sz0 x0 false))
  (hb:Bel ⟨w,some (hv s)⟩ w') (hO':∀c,c<w.heap.size→B5 (hv s)≠some c→O' c=O c) (hout:∀c,w'.heap.size≤c→O' c=none) (hO0:∀g,B5 v=some g→O' g=some 0)
  (hsz:0<sz) (hx:x.ev η=some (.l sz xs)) (how:Own w' (Fr.mk w (some (hv s))).ok e sz v xs.length vs) (hel:Hm (Bg w' O') sz xs vs):
  ∃β' hv',Rel w0 Oe η (σ.eff (Gb σ.m n s (.arr e sz x false))) tm w' β' hv' O'∧hv' s=v:=by
 let β':=fun s'=>if s'=s then (B5 v).getD 0 else β s'
 let hv':=fun s'=>if s'=s then v else hv s'
 have hβ:∀s',s'≠s→β' s'=β s':=fun s' hs=>if_neg hs
 have hhv:∀s',s'≠s→hv' s'=hv s':=fun s' hs=>if_neg hs
 have hβs:β' s=(B5 v).getD 0:=if_pos rfl
 have hhvs:hv' s=v:=if_pos rfl
 obtain ⟨t1,t2,t3,t4,t5⟩:=h.turned h0 hb hO'
 have hs0:w0.heap.size≤w.heap.size:=h.bel.size
 refine ⟨β',hv',h.fresh t1 t2 hβ hhv (fun s' b' hs hb' hh=>(t4 s' b' hs hb' hh).2) t3 hout ?_ (fun s' b' hs hb' hh hh2=> ?_),hhvs⟩
 ·refine ⟨hsz,xs,vs,hx,?_,hel,fun g hg=> ?_⟩
  ·show Own w' w0.ok e sz (hv' s) xs.length vs
   rw [hhvs]
   refine how.mono fun g hg=> ?_
   rcases hg with hg|hg
   ·exact .inl (Dy hs0 hg)
   ·exact (t5 g hg).2.1
  ·have hg':B5 (hv' s)=some g:=hg
   rw [hhvs] at hg'
   refine ⟨?_,0,hO0 g hg',C4 _,fun _=>rfl⟩
   show g=β' s
   rw [hβs,hg'];rfl
 ·have hlt:β s'<w.heap.size:=((h.mem s' b' hb').lt hh).2
  have hh2':B5 (hv' s)=some (β' s):=hh2
  rw [hhvs] at hh2'
  intro e1
  rw [←e1] at hh2'
  rcases (how.lt _ hh2').1 with h9|h9
  ·have:w.heap.size≤β s':=h9
   omega
  ·exact (t4 s' b' hs hb' hh).1 h9
theorem Rel.turn {w':World} {O':Nat→Option Nat} {s e0 sz0 n:Nat} {x0 x:E} {xs0 xs:List PV} {vs:List Value} (h:Rel w0 Oe η σ tm w β hv O) (h0:mget σ.m s=some (.arr e0 sz0 x0 false))
  (hx0:x0.ev η=some (.l sz0 xs0)) (hb:Bel ⟨w,some (hv s)⟩ w') (hO':∀c,c<w.heap.size→B5 (hv s)≠some c→O' c=O c) (hout:∀c,w'.heap.size≤c→O' c=none) (hO0:∀g,B5 (hv s)=some g→O' g=some 0)
  (hx:x.ev η=some (.l sz0 xs)) (how:Own w' (fun _=>True) e0 sz0 (hv s) xs.length vs) (hel:Hm (Bg w' O') sz0 xs vs):
  Rel w0 Oe η (σ.eff ⟨H5 σ.m s (.arr e0 sz0 x false),n,none⟩) tm w' β hv O':=by
 obtain ⟨t1,t2,t3,t4,t5⟩:=h.turned h0 hb hO'
 obtain ⟨hsz,xs1,us1,q1,how1,_,hsh⟩:=h.mem s _ h0
 have q1':x0.ev η=some (.l sz0 xs1):=q1
 rw [hx0] at q1'
 injection q1' with q1'
 injection q1' with _ q1'
 subst q1'
 have hlen:xs.length=xs0.length:=by
  rcases how.2 with ⟨a1,e1,n1⟩|⟨g1,c1,cur1,e1,_⟩<;>rcases how1.2 with ⟨a2,e2,n2⟩|⟨g2,c2,cur2,e2,_⟩
  ·omega
  ·have e2':hv s=_:=e2
   rw [e1] at e2';injection e2' with _ e3 _;omega
  ·have e2':hv s=_:=e2
   rw [e1] at e2';injection e2' with _ e3 _;omega
  ·have e2':hv s=_:=e2
   rw [e1] at e2';injection e2' with _ e3 _
 let b:Blk:= .arr e0 sz0 x false
 have hne:∀s',s'≠s→mget (H5 σ.m s b) s'=mget σ.m s':=fun s' hs=>G5 σ hs b
 have hsame:mget (H5 σ.m s b) s=some b:=Jp σ s b
 have hl:(Cx.mk η (Bg w O) β hv σ.m).Le ⟨η,Bg w' O',β,hv,H5 σ.m s b⟩:=⟨fun _ _ h=>h,t2⟩
 have hat:∀s',(Cx.mk η (Bg w O) β hv σ.m).At ⟨η,Bg w' O',β,hv,H5 σ.m s b⟩ s':=fun s'=>
  ⟨rfl,rfl,fun e sz y ro zs h1 h2=>by
   by_cases hs:s'=s
   ·subst hs
    have h1':mget σ.m s'=some (.arr e sz y ro):=h1
    rw [h0] at h1'
    cases h1'
    have h2':x0.ev η=some (.l sz0 zs):=h2
    rw [hx0] at h2'
    cases h2'
    exact ⟨e0,x,false,xs,hsame,hx,by omega⟩
   ·exact ⟨e,y,ro,zs,by show mget (H5 σ.m s b) s'=_;rw [hne s' hs];exact h1,h2,Ac _⟩⟩
 refine ⟨t1,t3,hout,A7.le hl hat _ _ h.tmps,fun s' b' hs'=> ?_,fun s1 s2 b1 b2 h1 h2 h12 hh1 hh2=> ?_,h.t0⟩
 ·by_cases hs:s'=s
  ·subst hs
   have:mget (H5 σ.m s' b) s'=some b':=hs'
   rw [hsame] at this
   injection this with this
   subst this
   refine ⟨hsz,xs,vs,hx,?_,hel,fun g hg=>⟨(t5 g hg).1,0,hO0 g hg,C4 _,fun _=>rfl⟩⟩
   refine ⟨how.1,?_⟩
   rcases how.2 with h1|⟨g,cap,cur,e1,e2,_,e4⟩
   ·exact .inl h1
   ·have hg:B5 (hv s')=some g:=by
     have e1':hv s'= .slice (some ⟨g,0,none⟩) xs.length cap:=e1
     rw [e1'];simp only [B5,if_neg (show¬cap=0 by omega)]
    exact .inr ⟨g,cap,cur,e1,e2,(t5 g hg).2.1,e4⟩
  ·have hg:mget (H5 σ.m s b) s'=some b':=hs'
   rw [hne s' hs] at hg
   exact (h.mem s' b' hg).le hl hat (fun hh=>(t4 s' b' hs hg hh).2.1) (fun hh=>(t4 s' b' hs hg hh).2.2)
 ·have g1:mget (H5 σ.m s b) s1=some b1:=h1
  have g2:mget (H5 σ.m s b) s2=some b2:=h2
  have z:∀s' b',mget (H5 σ.m s b) s'=some b'→Has ⟨η,Bg w' O',β,hv,H5 σ.m s b⟩ s' b'→∃b'',mget σ.m s'=some b''∧Has ⟨η,Bg w O,β,hv,σ.m⟩ s' b'':=by
   intro s' b' hg hh
   by_cases hs:s'=s
   ·subst hs
    rw [hsame] at hg
    injection hg with hg
    subst hg
    exact ⟨_,h0,hh⟩
   ·rw [hne s' hs] at hg
    exact ⟨b',hg,(Has.congr (C:=⟨η,Bg w O,β,hv,σ.m⟩) rfl rfl).1 hh⟩
  obtain ⟨c1,k1,k2⟩:=z s1 b1 g1 hh1
  obtain ⟨c2,k3,k4⟩:=z s2 b2 g2 hh2
  exact h.inj s1 s2 c1 c2 k1 k3 h12 k2 k4
theorem By8 {k:Option Nat} {e:Nat} {r:Bool} (h:T4 k=some (e,r)):bw k=none:=by
 cases k with
 |none=>rfl
 |some k=>
  simp only [T4,Ax] at h
  split at h
  ·rename_i hk
   simp only [bw,Ax]
   have a2:FUL=549755813888:=rfl
   have a3:MU=1099511627776:=rfl
   rw [if_neg (by omega)]
  ·cases h
theorem Fx0 {k:Option Nat} {e:Nat} (h:bw k=some e):T4 k=none∧rkOf k= .own e:=by
 cases k with
 |none=>simp [bw] at h
 |some k=>
  simp only [bw,Ax] at h
  split at h
  ·rename_i hk
   injection h with h
   subst h
   simp only [T4,rkOf,Ax]
   have a1:FAR=274877906944:=rfl
   have a2:FUL=549755813888:=rfl
   have a3:MU=1099511627776:=rfl
   obtain ⟨hk1,hk2⟩:=hk
   refine ⟨if_neg (by omega),?_⟩
   rw [if_neg (by omega),if_pos (by omega)]
  ·cases h
theorem Gh3 (hC:Contract P sig fn) {c:Call} {f e s:Nat} {r:SV} {ε:Eff} {η1 η2 ζ:List PV} (ho:o.op= .call c) (hc:c.callee= .value (.func f)) (hfa:bw (sig f)=some e)
  (h:Rel w0 Oe η σ a.tmps w β hv O) (hG:GOk η G) (hx:Fb0 P σ G s f e (args P σ G c.args.toList c.argTypes.toList)=some (ws,r,ε))
  (hw:Dx fn η1 ws=some η2) (hη:η=η2++ζ) (hn:η1.length=σ.n):Db P o a w (Fs w0 Oe η σ a.tmps ε r):=by
 obtain ⟨hmu,hrk⟩:=Fx0 hfa
 unfold Fb0 at hx
 split at hx
 ·cases hx
 ·split at hx
  ·rename_i a0 ar has
   split at hx
   ·rename_i sz x es ss ha0 hes
    split at hx
    ·rename_i hcond
     obtain ⟨rfl,hlt⟩:=hcond
     simp only [Option.some.injEq,Prod.mk.injEq] at hx
     obtain ⟨rfl,rfl,rfl⟩:=hx
     have hargs:A7 ⟨η,Bg w O,β,hv,σ.m⟩ (a0::ar) (c.args.map a.eval).toList:=by
      have:=Od (ds:=a.defers) (C:=⟨η,Bg w O,β,hv,σ.m⟩) hG rfl h.tmps has
      simpa using this
     simp only [A7] at hargs
     obtain ⟨v0,vr,hcs,hv0,hrest⟩:=hargs
     have hfull:∃xs b,x.ev η=some (.l (Ag P e) xs)∧v0= .slice b xs.length xs.length∧Rep (Bg w O) (.l (Ag P e) xs) v0:=by
      cases a0<;>simp only [Option.some.injEq,Prod.mk.injEq,reduceCtorEq] at ha0
      ·obtain ⟨h1,h2⟩:=ha0
       subst h1;subst h2
       simp only [Ap] at hv0
       exact ⟨[],none,by simp only [E.ev],hv0,by rw [hv0];exact Rep.lnil _ _ _ _⟩
      ·obtain ⟨h1,h2⟩:=ha0
       subst h1;subst h2
       simp only [Ap] at hv0
       exact hv0
     obtain ⟨xs,b,hxe,hvb,hrep⟩:=hfull
     obtain ⟨O1,hrel,hM,hop,_⟩:=h.frz ss (n:=σ.n+1)
     obtain ⟨ps,q1,q2,q3⟩:=N1 h hM hes hrest (fun s hs=>hop s (by simpa using hs))
     have hws:(W.mcall f (x::es)).ev fn η1=some η2:=by simpa [Dx] using hw
     simp only [W.ev,Aj] at hws
     obtain ⟨vs,hvs,hres⟩:=hws
     obtain ⟨rs,hfn,hrl,_,rfl⟩:=G4 hres
     have hvs':E.evs η (x::es)=some vs:=by rw [hη,Ar];exact E.evs_mono _ _ _ _ hvs
     simp only [E.evs,hxe,q1,Ax,A0,Option.some.injEq] at hvs'
     subst hvs'
     obtain ⟨e',hfa',hcon⟩:=((hC.says f _ _ rs hfn).turns (Nat.le_add_left _ _)).resolve_left (fun ⟨e1,r1,h1,_⟩=>by rw [hmu] at h1;cases h1)
     rw [hfa] at hfa'
     injection hfa' with hfa'
     subst hfa'
     have hsize:(c.args.map a.eval).size=(PV.l (Ag P e) xs::ps).length:=by
      rw [←Bn,hcs];simp [q2]
     have hgiven:Given w O1 ((PV.l (Ag P e) xs::ps).length+TAG - TAG) (.l (Ag P e) xs::ps) (c.args.map a.eval):=by
      rw [Uh]
      refine ⟨hrel.out,hsize,fun j p v hj hp hu=> ?_,fun j p v hj hp hu=> ?_⟩
      ·rw [←Ad,hcs] at hu
       cases j with
       |zero=>
        simp at hp hu
        subst hp;subst hu
        exact hrep.mono hM
       |succ j=>exact q3 j p v (by simpa using hp) (by simpa using hu)
      ·have:=(Ak.1 hp).1
       omega
     have harg0:(c.args.map a.eval)[0]? =some (.slice b xs.length xs.length):=by
      rw [←Ad,hcs,←hvb];rfl
     refine Fy (f:=f) (cv:= #[]) ho hc rfl ?_
     rw [Un]
     refine (hcon w O1 _ b xs hgiven rfl harg0).mono fun v w' hback=> ?_
     obtain ⟨hb,O1',k1,k2,k3⟩:=hback
     rw [hrk] at k3
     obtain ⟨h0,ys,us,rfl,k4,k5,k6⟩:=k3
     have hx1:(E.v σ.n).ev η=some (.l (Ag P e) ys):=by
      simp only [E.ev]
      rw [hη,Ar,A5 (by omega),←hn,Cl2];rfl
     obtain ⟨β',hv',r1,r2⟩:=hrel.own (n:=σ.n+1) (s:=s) (e:=e) (ro:=false) (x:= .v σ.n) hb k1 k2 k6 h0 hx1 k4 k5
     refine ⟨β',hv',O1',r1,?_⟩
     simp only [Ap];exact r2.symm
    ·cases hx
   ·cases hx
  ·cases hx
theorem Gg9 (hC:Contract P sig fn) {c:Call} {f e:Nat} {rr:Bool} {r:SV} {ε:Eff} {η1 η2 ζ:List PV} (ho:o.op= .call c) (hc:c.callee= .value (.func f)) (hmu:T4 (sig f)=some (e,rr))
  (h:Rel w0 Oe η σ a.tmps w β hv O) (hG:GOk η G) (hx:Fw9 P σ G f e rr (args P σ G c.args.toList c.argTypes.toList)=some (ws,r,ε))
  (hw:Dx fn η1 ws=some η2) (hη:η=η2++ζ) (hn:η1.length=σ.n):Db P o a w (Fs w0 Oe η σ a.tmps ε r):=by
 unfold Fw9 at hx
 split at hx
 ·cases hx
 ·split at hx
  ·rename_i s0 ar has
   split at hx
   ·rename_i e0 sz0 x es ss hs0 hes
    split at hx
    ·rename_i hcond
     obtain ⟨rfl,rfl,hss,hlt⟩:=hcond
     have hargs:A7 ⟨η,Bg w O,β,hv,σ.m⟩ (.h s0::ar) (c.args.map a.eval).toList:=by
      have:=Od (ds:=a.defers) (C:=⟨η,Bg w O,β,hv,σ.m⟩) hG rfl h.tmps has
      simpa using this
     simp only [A7,Ap] at hargs
     obtain ⟨v0,vr,hcs,hv0,hrest⟩:=hargs
     subst hv0
     obtain ⟨O1,hrel,hM,hop,_⟩:=h.frz ss (n:=σ.n+1)
     obtain ⟨ps,q1,q2,q3⟩:=N1 h hM hes hrest (fun s hs=>hop s (by simpa using hs))
     have hs1:mget (Ks ss σ.m) s0=some (.arr e0 (Ag P e0) x false):=by rw [M7 hss];exact hs0
     obtain ⟨hsz,xs,us,hxe,how,hel,hsh⟩:=hrel.mem s0 _ hs1
     have hxe':x.ev η=some (.l (Ag P e0) xs):=hxe
     have hws:(W.mcall f (x::es)).ev fn η1=some η2:=by
      have hw':Dx fn η1 [.mcall f (x::es)]=some η2:=by
       cases rr<;>simp only [Ab,if_true,if_false,Option.some.injEq,Prod.mk.injEq] at hx<;>rw [←hx.1] at hw<;>exact hw
      simpa [Dx] using hw'
     simp only [W.ev,Aj] at hws
     obtain ⟨vs,hvs,hres⟩:=hws
     obtain ⟨rs,hfn,hrl,_,rfl⟩:=G4 hres
     have hvs':E.evs η (x::es)=some vs:=by rw [hη,Ar];exact E.evs_mono _ _ _ _ hvs
     simp only [E.evs,hxe',q1,Ax,A0,Option.some.injEq] at hvs'
     subst hvs'
     obtain ⟨e',r',hmu',hcon⟩:=((hC.says f _ _ rs hfn).turns (Nat.le_add_left _ _)).resolve_right (fun ⟨e1,h1,_⟩=>by rw [By8 hmu] at h1;cases h1)
     rw [hmu] at hmu'
     injection hmu' with hmu'
     injection hmu' with he' hr'
     subst he';subst hr'
     have hsize:(c.args.map a.eval).size=(.l (Ag P e0) xs::ps).length:=by
      rw [←Bn,hcs];simp [q2]
     have hgiv:GivenM P e0 w O1 ((.l (Ag P e0) xs::ps).length+TAG - TAG) (.l (Ag P e0) xs::ps) (c.args.map a.eval) (hv s0) xs us:=by
      refine ⟨hrel.out,hsize,by simp,rfl,?_,hsz,how.mono (fun _ _=>trivial),hel,fun g hg=> ?_,fun j p v hj1 hj2 hp hv1=> ?_,fun j p v hj hp _=> ?_⟩
      ·rw [←Ad,hcs];rfl
      ·obtain ⟨_,lim,h2,_,h3⟩:=hsh g hg
       rw [h2,h3 rfl]
      ·rw [←Ad,hcs] at hv1
       cases j with
       |zero=>omega
       |succ j=>exact q3 j p v (by simpa using hp) (by simpa using hv1)
      ·have:=(Ak.1 hp).1
       omega
     have hfx:a.eval (.func f)= .func (.func f) #[] #[]:=rfl
     refine Fy (cv:= #[]) ho hc hfx ?_
     rw [Un]
     refine (hcon w O1 _ _ xs us hgiv).mono fun v w' hback=> ?_
     obtain ⟨hb,O',k1,k2,ys,us',rfl,hel',hr1,hr2⟩:=hback
     have hx1:(E.v σ.n).ev η=some (.l (Ag P e0) ys):=by
      simp only [E.ev]
      rw [hη,Ar,A5 (by omega),←hn,Cl2];rfl
     cases rr with
     |true=>
      simp only [if_true,Option.some.injEq,Prod.mk.injEq] at hx
      obtain ⟨_,rfl,rfl⟩:=hx
      obtain ⟨k3,k4⟩:=hr1 rfl
      obtain ⟨β',hv',r1,r2⟩:=hrel.retake (n:=σ.n+1) (x:= .v σ.n) hs1 hb k1 k2 k4 hsz hx1 k3 hel'
      exact ⟨β',hv',O',r1,by simp only [Ap];exact r2.symm⟩
     |false=>
      simp only [Ab,if_false,Option.some.injEq,Prod.mk.injEq] at hx
      obtain ⟨_,rfl,rfl⟩:=hx
      obtain ⟨rfl,k3,k4⟩:=hr2 rfl
      have r1:=hrel.turn (n:=σ.n+1) (x:= .v σ.n) hs1 hxe' hb k1 k2 k4 hx1 k3 hel'
      exact ⟨β,hv,O',r1,by simp only [Ap];exact ⟨#[],rfl,by simp only [A7]⟩⟩
    ·cases hx
   ·cases hx
  ·cases hx
end
end Go.X
/- Beginnings and ends of own arrays. -/
namespace Go.X
open Go Go.RowKit
section
variable {P:Program} {sig:Nat→Option Nat} {fn:Fns} {w0:Fr} {Oe:Nat→Option Nat} {η:List PV} {σ:St} {a:Act} {tm:Array Value} {w:World} {β:Nat→Nat} {hv:Nat→Value} {O:Nat→Option Nat} {G:Option E} {o:Oper} {ws:List W}
theorem K8 {t e:TypeId} (h:G0 P t=some e):P.underlying t=some (.slice e):=by
 unfold G0 at h
 split at h
 ·rename_i hu;rw [hu];injection h with h;rw [h]
 ·cases h
theorem Fq8 {t e:TypeId} (hu:P.underlying t=some (.slice e)) (hsz:Ag P e≠0) (b:Option Addr) (n cap m:Nat) (k:IntKind) (h1:m≤n) (h2:n≤cap):(Instr.slice t (.slice b n cap) none (some (.int k (m:Int))) none).run P w= .ok (.slice b m cap) w:=by
 have hrun:=H6 (P:=P) (w:=w) (b:=true) (len:=n) (cap:=cap) (low:=none) (high:=some (.int k (m:Int))) (max:=none) (l:=0) (h:=m) (m:=cap) rfl ⟨_,rfl⟩ rfl (C4 _) (by omega) (Ac _)
 have hz:∀(z:Option Addr),(if cap=0 then z else z.map (·.add (0*Ag P e)))=z:=by
  intro z
  split
  ·rfl
  ·cases z with
   |none=>rfl
   |some ad=>simp [Go.Addr.add]
 simp only [Instr.slice,Sem.run_bind,run_underlying hu,Result.andThen,hrun,Eg (P:=P) (w:=w) (t:=e) rfl hsz,Sem.run_pure,hz,Nat.sub_zero]
theorem Fq7 {t e:TypeId} (hu:P.underlying t=some (.slice e)) (hsz:Ag P e≠0) (b:Option Addr) (n cap m:Nat) (k:IntKind) (h1:m≤n) (h2:n≤cap):(Instr.slice t (.slice b n cap) (some (.int k (m:Int))) none none).run P w= .ok (Av2 (Ag P e) m (.slice b n cap)) w:=by
 have hrun:=H6 (P:=P) (w:=w) (b:=true) (len:=n) (cap:=cap) (low:=some (.int k (m:Int))) (high:=none) (max:=none) (l:=m) (h:=n) (m:=cap) rfl ⟨rfl,rfl⟩ ⟨_,rfl⟩ h1 h2 (Ac _)
 simp only [Instr.slice,Sem.run_bind,run_underlying hu,Result.andThen,hrun,Eg (P:=P) (w:=w) (t:=e) rfl hsz,Sem.run_pure,Av2]
theorem fc {t:TypeId} {x:Operand} {lo hi mx:Option Operand} {s0:Nat} {r:SV} {ε:Eff} (ho:o.op= .slice t x lo hi mx) (h:Rel w0 Oe η σ a.tmps w β hv O) (hG:GOk η G) (hx:opd P σ G t x=some (.h s0))
  (hs:Oj P σ G t s0 (lo.map (Fv P σ G 0)) (hi.map (Fv P σ G 0)) mx.isSome=some (ws,r,ε)) (hk:Chk η ws):Db P o a w (Fs w0 Oe η σ a.tmps ε r):=by
 have hr:=D8 (ds:=a.defers) (C:=⟨η,Bg w O,β,hv,σ.m⟩) hG rfl hx h.tmps
 simp only [Ap] at hr
 have hx1:a.eval x=hv s0:=hr
 unfold Oj at hs
 split at hs
 ·-- the beginning
  rename_i e e0 sz y eh te mg hlo hhi0 hmx
  split at hs
  ·rename_i hcond
   obtain ⟨rfl,rfl,hsz0,hG0⟩:=hcond
   have hlo':lo=none:=Option.map_eq_none_iff.1 hlo
   have hmx':mx=none:=by cases mx<;>simp_all
   obtain ⟨hh,hhi',heh⟩:=Aw.1 hhi0
   subst hlo';subst hmx';subst hhi'
   ·simp only [Option.some.injEq,Prod.mk.injEq] at hs
    obtain ⟨rfl,rfl,rfl⟩:=hs
    have hu:=K8 te
    have hsize:=Eg (P:=P) (w:=w) (t:=e0) rfl hsz0
    obtain ⟨hpos,xs,vs,g1,g2,g3,g4⟩:=h.mem s0 _ mg
    have g1':y.ev η=some (.l (Ag P e0) xs):=g1
    obtain ⟨q,hq⟩:=hk.g1 hG
    have hq':=hq
    obtain ⟨p,hp,hpr⟩:=Dq (ds:=a.defers) (C:=⟨η,Bg w O,β,hv,σ.m⟩) hG rfl heh h.tmps
    have hp':eh.ev η=some p:=hp
    simp only [E.ev,g1',hp',Ax] at hq'
    unfold Ht at hq'
    split at hq'
    ·rename_i sz' zs k1 l1 k2 n1 heq1 heq2
     injection heq1 with j1 j2
     subst j1;subst j2
     injection heq2 with j3 j4
     subst j3;subst j4
     rw [if_pos rfl] at hq'
     split at hq'
     ·rename_i hb
      injection hq' with hq'
      have hhi:a.eval hh= .int k2 (n1.toNat:Int):=by
       have:a.eval hh= .int k2 n1:=hpr.int
       rw [this];congr 1;omega
      have hnn:n1.toNat≤xs.length:=by omega
      have htl:(xs.take n1.toNat).length=n1.toNat:=by rw [Al];omega
      have hqe:(E.lsl (Ag P e0) y (.c (.i .i64 0)) eh).ev η=some (.l (Ag P e0) (xs.take n1.toNat)):=by
       rw [hq,←hq'];simp
      have hlv:vs.length=xs.length*Ag P e0:=g2.1
      have hel:Hm (Bg w O) (Ag P e0) (xs.take n1.toNat) (vs.take (n1.toNat*Ag P e0)):=by
       intro i z hz
       rw [Bb] at hz
       split at hz
       ·rename_i hi
        obtain ⟨k1,k2⟩:=g3 i z hz
        refine ⟨k1,fun j c hc=> ?_⟩
        obtain ⟨u,u1,u2,u3⟩:=k2 j c hc
        refine ⟨u,?_,u2,u3⟩
        have hj:j<Ag P e0:=by rw [←k1];exact (Ak.1 hc).1
        rw [Bb,if_pos]
        ·exact u1
        ·have:(i+1)*Ag P e0≤n1.toNat*Ag P e0:=Bz _ hi
         rw [B7,Fz] at this
         omega
       ·cases hz
      have fin:∀(b:Option Addr) (cap:Nat),hv s0= .slice b xs.length cap→xs.length≤cap→Own w (Fr.mk w (some (hv s0))).ok e0 (Ag P e0) (.slice b n1.toNat cap) n1.toNat (vs.take (n1.toNat*Ag P e0))→(∀g,B5 (.slice b n1.toNat cap)=some g→B5 (hv s0)=some g)→Db P o a w (Fs w0 Oe η σ a.tmps (Gb σ.m σ.n s0 (.arr e0 (Ag P e0) (.lsl (Ag P e0) y (.c (.i .i64 0)) eh) false)) (.h s0)):=by
       intro b cap hb1 hcap hown hblk
       obtain ⟨β',hv',r1,r2⟩:=h.retake (n:=σ.n) (s:=s0) (e:=e0) (sz:=Ag P e0) (x:= .lsl (Ag P e0) y (.c (.i .i64 0)) eh) (v:= .slice b n1.toNat cap) (xs:=xs.take n1.toNat) (vs:=vs.take (n1.toNat*Ag P e0)) (w':=w) (O':=O) mg (Bel.refl ⟨w,some (hv s0)⟩) (fun _ _ _=>rfl) h.out (fun g hg=>by
        obtain ⟨_,lim,h2,_,h3⟩:=g4 g (hblk g hg)
        rw [h2,h3 rfl]) hpos hqe (by rw [htl];exact hown) hel
       refine Db.value (v:= .slice b n1.toNat cap) (w':=w) ?_ ⟨β',hv',O,r1,by simp only [Ap];exact r2.symm⟩
       simp only [execOp,ho,Instr.sliceAt,Option.map_none,A0,hhi,hx1,hb1,Sem.run_bind,run_underlying hu,Fq8 hu hsz0 b xs.length cap n1.toNat k2 hnn hcap,Result.andThen,Sem.run_pure]
      rcases g2.2 with ⟨b,e1,e2⟩|⟨g,cap,cur,e1,e1c,e2,e3,e4,e5,e6,e7⟩
      ·have hn0:n1.toNat=0:=by omega
       have e1':hv s0= .slice b 0 0:=e1
       refine fin b 0 (by rw [e2];exact e1') (by omega) ⟨by simp [hn0], .inl ⟨b,by rw [hn0],hn0⟩⟩ (fun g hg=>by rw [e1'];rw [hn0] at hg;exact hg)
      ·have e1':hv s0= .slice (some ⟨g,0,none⟩) xs.length cap:=e1
       have hbk:B5 (hv s0)=some g:=by rw [e1'];simp only [B5,if_neg (show¬cap=0 by omega)]
       have hmul:n1.toNat*Ag P e0≤xs.length*Ag P e0:=Bz _ hnn
       refine fin (some ⟨g,0,none⟩) cap e1' e4 ⟨by rw [Al];omega, .inr ⟨g,cap,cur,rfl,e1c, .inr hbk,e3,by omega,e5,e6,?_⟩⟩ (fun g' hg'=> ?_)
       ·rw [←e7,Av9,Md hmul]
       ·simp only [B5,if_neg (show¬cap=0 by omega),Option.some.injEq] at hg'
        rw [hbk,hg']
     ·cases hq'
    ·cases hq'
  ·cases hs
 ·-- the end
  rename_i e e0 sz y ro el te mg hlo0 hhi0 hmx
  split at hs
  ·rename_i hcond
   obtain ⟨rfl,hsz0⟩:=hcond
   have hhi':hi=none:=Option.map_eq_none_iff.1 hhi0
   have hmx':mx=none:=by cases mx<;>simp_all
   obtain ⟨ll,hlo',hel⟩:=Aw.1 hlo0
   subst hlo';subst hmx';subst hhi'
   ·simp only [Option.some.injEq,Prod.mk.injEq] at hs
    obtain ⟨rfl,rfl,rfl⟩:=hs
    have hu:=K8 te
    have hsize:=Eg (P:=P) (w:=w) (t:=e) rfl hsz0
    obtain ⟨hpos,xs,vs,g1,g2,g3,g4⟩:=h.mem s0 _ mg
    have g1':y.ev η=some (.l (Ag P e) xs):=g1
    obtain ⟨q,hq⟩:=hk.g1 hG
    have hq':=hq
    obtain ⟨p,hp,hpr⟩:=Dq (ds:=a.defers) (C:=⟨η,Bg w O,β,hv,σ.m⟩) hG rfl hel h.tmps
    have hp':el.ev η=some p:=hp
    simp only [E.ev,g1',hp',Ax,Gq] at hq'
    unfold Ht at hq'
    split at hq'
    ·rename_i sz' zs k1 l1 k2 n1 heq1 heq3
     injection heq1 with j1 j2
     subst j1;subst j2
     injection heq3 with j3 j4
     subst j4
     rw [if_pos rfl] at hq'
     split at hq'
     ·rename_i hb
      have hlo:a.eval ll= .int k1 (l1.toNat:Int):=by
       have:a.eval ll= .int k1 l1:=hpr.int
       rw [this];congr 1;omega
      have fin:∀(b:Option Addr) (cap:Nat),hv s0= .slice b xs.length cap→xs.length≤cap→Db P o a w (Fs w0 Oe η σ a.tmps (Fb σ) (.suf s0 el)):=by
       intro b cap hb1 hcap
       refine Db.value (v:=Av2 (Ag P e) l1.toNat (hv s0)) (w':=w) ?_ (.keep h ?_)
       ·simp only [execOp,ho,Instr.sliceAt,Option.map_none,A0,hlo,hx1,hb1,run_underlying hu]
        simp only [Sem.run_bind,run_underlying hu,Fq7 hu hsz0 b xs.length cap l1.toNat k1 (by omega) hcap,Result.andThen,Sem.run_pure]
       ·simp only [Ap]
        exact ⟨e0,Ag P e,y,ro,xs,k1,l1,mg,g1',hp',hb.1,by omega,rfl⟩
      rcases g2.2 with ⟨b,e1,e2⟩|⟨g,cap,cur,e1,e1c,e2,e3,e4,e5,e6,e7⟩
      ·exact fin b 0 (by rw [e2];exact e1) (by omega)
      ·exact fin _ cap e1 e4
     ·cases hq'
    ·cases hq'
  ·cases hs
 ·cases hs
theorem Cc0 {g n cap:Nat} (h:0<cap):B5 (.slice (some ⟨g,0,none⟩) n cap)=some g:=by
 simp only [B5,if_neg (show¬cap=0 by omega)]
theorem Ur {z:Array Value} {n sz i j:Nat} {u:Value} (hz:z.size=sz) (hi:i<n) (hj:j<sz) (hu:z[j]? =some u):(Builtin.zeroCells z n)[i*sz+j]? =some u:=by
 have hlt:i*sz+j<n*z.size:=by
  have:(i+1)*sz≤n*sz:=Bz _ hi
  rw [B7,Fz] at this
  rw [hz];omega
 have hmod:(i*sz+j) % z.size=j:=by rw [hz,Em,Xh,D2 hj]
 simp only [Builtin.zeroCells,Um,Aw1,hlt,if_true,A0,hmod]
 rw [Array.getElem!_eq_getD,A9,hu];rfl
theorem Ac5 {t ty e:TypeId} (hu:P.underlying t=some (.slice e)) {ti:TypeInfo} {zv:Value} (hi:P.info? e=some ti) (hzz:ti.zero=some zv) (ad:Addr) (d cap:Nat) {w':World} (hst:(storeCells ad (Builtin.zeroCells zv.cells (d+1)).toList).run P w= .ok () w'):
  (Builtin.clear_ #[t] ty #[.slice (some ad) (d+1) cap]).run P w= .ok (.tuple #[]) w':=by
 simp [Builtin.clear_,run_underlying hu,zeroValue,typeInfo,hi,hzz,hst]
theorem Dx3 {c:Call} {x:Operand} {t:TypeId} {sv r:SV} {ε:Eff} (ho:o.op= .call c) (hc:c.callee= .builtin .clear) (ha:c.args.toList=[x]) (hty:c.argTypes.toList=[t])
  (h:Rel w0 Oe η σ a.tmps w β hv O) (hG:GOk η G) (hx:opd P σ G t x=some sv) (hs:ir P σ G t sv=some (ws,r,ε)) (hk:Chk η ws):Db P o a w (Fs w0 Oe η σ a.tmps ε r):=by
 have hr:=D8 (ds:=a.defers) (C:=⟨η,Bg w O,β,hv,σ.m⟩) hG rfl hx h.tmps
 unfold ir at hs
 split at hs
 ·rename_i e s i te
  split at hs
  ·rename_i e0 sz y zs mg hzs
   split at hs
   ·rename_i z hz
    dsimp only at hs
    split at hs
    ·rename_i hcond
     obtain ⟨rfl,rfl,hsz0,hG0⟩:=hcond
     simp only [Option.some.injEq,Prod.mk.injEq] at hs
     obtain ⟨rfl,rfl,rfl⟩:=hs
     have hu:=K8 te
     obtain ⟨hpos,xs,vs,g1,g2,g3,g4⟩:=h.mem s _ mg
     have g1':y.ev η=some (.l (Ag P e0) xs):=g1
     simp only [Ap] at hr
     obtain ⟨e2,sz2,x2,ro2,xs2,k,iv,h1,h2,h3,h4,h5,h6⟩:=hr
     rw [mg] at h1
     injection h1 with h1
     injection h1 with _ j1 j2 _
     subst j1;subst j2
     rw [g1'] at h2
     injection h2 with h2
     injection h2 with _ h2
     subst h2
     have h3':i.ev η=some (.i k iv):=h3
     have h6':a.eval x=Av2 (Ag P e0) iv.toNat (hv s):=h6
     obtain ⟨ti,zv,hi,hzz,hzsz,hz1,hzr⟩:=F9 (C:=⟨η,Bg w O,β,hv,σ.m⟩) hzs
     have his:Ag P e0=ti.size:=by simp [Ag,hi]
     obtain ⟨pz,hpz,hpzc⟩:=Rk (C:=⟨η,Bg w O,β,hv,σ.m⟩) hzr hz1 hz
     have hpz':z.ev η=some pz:=hpz
     obtain ⟨q,hq⟩:=hk.g1 hG
     have hq':=hq
     have hlv:vs.length=xs.length*Ag P e0:=g2.1
     have hmx:xs.length≤maxLen:=by
      rcases g2.2 with ⟨b,e1,e2⟩|⟨g,cap,cur,e1,e1c,e2,e3,e4,e5,e6,e7⟩
      ·rw [e2];exact C4 _
      ·exact Dy e4 e5
     simp only [E.ev,g1',h3',hpz',Ax,Gq,Ht,if_true] at hq'
     rw [if_pos ⟨Ib1 _,h4,by omega⟩] at hq'
     simp only [Ax,X.bin] at hq'
     split at hq'
     ·rename_i hk64
      have hk64':k= .i64:=hk64.symm
      subst hk64'
      have hw:IntKind.i64.wrap ((xs.length:Int) - iv)=((xs.length - iv.toNat:Nat):Int):=by
       rw [IntWalk.i64_in _ ⟨by omega,by simp only [maxLen] at hmx;omega⟩]
       omega
      simp only [Fc,Ax,hw,Kf] at hq'
      split at hq'
      ·rename_i hrep
       simp only [Ax,Gf,H2] at hq'
       split at hq'
       ·injection hq' with hq'
        have hcont:(E.app (Ag P e0) (.lsl (Ag P e0) y (.c (.i .i64 0)) i) (.rep (Ag P e0) (.bin .sub (.len y) i) z)).ev η=some (.l (Ag P e0) (xs.take iv.toNat++List.replicate (xs.length - iv.toNat) pz)):=by
         rw [hq,←hq'];simp
        have hkn:iv.toNat≤xs.length:=h5
        have hlen:(xs.take iv.toNat++List.replicate (xs.length - iv.toNat) pz).length=xs.length:=by simp;omega
        let Z:List Value:=(Builtin.zeroCells zv.cells (xs.length - iv.toNat)).toList
        have hZl:Z.length=(xs.length - iv.toNat)*Ag P e0:=by
         show (Builtin.zeroCells zv.cells (xs.length - iv.toNat)).toList.length=_
         simp [Builtin.zeroCells,hzsz,his]
        let us:List Value:=vs.take (iv.toNat*Ag P e0)++Z
        have hkm:iv.toNat*Ag P e0≤xs.length*Ag P e0:=Bz _ hkn
        have htk:(vs.take (iv.toNat*Ag P e0)).length=iv.toNat*Ag P e0:=by rw [Al];omega
        have hsum:iv.toNat*Ag P e0+(xs.length - iv.toNat)*Ag P e0=xs.length*Ag P e0:=by rw [←B7];congr 1;omega
        have hul:us.length=xs.length*Ag P e0:=by
         show (vs.take (iv.toNat*Ag P e0)++Z).length=_
         rw [Az,htk,hZl,hsum]
        have hel:∀M',(Bg w O).Le M'→Hm M' (Ag P e0) (xs.take iv.toNat++List.replicate (xs.length - iv.toNat) pz) us:=by
         intro M' hM j p hp
         have hb1:(xs.take iv.toNat).length=iv.toNat:=by rw [Al];omega
         by_cases hj:j<iv.toNat
         ·rw [A8 (by omega),Bb,if_pos hj] at hp
          obtain ⟨k1,k2⟩:=g3 j p hp
          refine ⟨k1,fun m cc hcc=> ?_⟩
          obtain ⟨u,u1,u2,u3⟩:=k2 m cc hcc
          have hm:m<Ag P e0:=by rw [←k1];exact (Ak.1 hcc).1
          have hlt:j*Ag P e0+m<iv.toNat*Ag P e0:=by
           have:(j+1)*Ag P e0≤iv.toNat*Ag P e0:=Bz _ hj
           rw [B7,Fz] at this
           omega
          refine ⟨u,?_,u2,u3.mono hM⟩
          show (vs.take (iv.toNat*Ag P e0)++Z)[j*Ag P e0+m]? =some u
          rw [A8 (by omega),Bb,if_pos hlt];exact u1
         ·rw [A5 (by omega),Ih,hb1] at hp
          split at hp
          ·rename_i hj2
           injection hp with hp
           subst hp
           refine ⟨hrep.2.2,fun m cc hcc=> ?_⟩
           have hm:m<Ag P e0:=by rw [←hrep.2.2];exact (Ak.1 hcc).1
           obtain ⟨u,u1,u2,u3⟩:=hpzc (by rw [hrep.2.2,hzsz,his]) m cc hcc
           refine ⟨u,?_,u2,u3.mono hM⟩
           have hjk:iv.toNat*Ag P e0≤j*Ag P e0:=Bz _ (by omega)
           show (vs.take (iv.toNat*Ag P e0)++Z)[j*Ag P e0+m]? =some u
           rw [A5 (by omega),htk]
           have e9:j*Ag P e0+m - iv.toNat*Ag P e0=(j - iv.toNat)*Ag P e0+m:=by rw [Nat.sub_mul];omega
           rw [e9]
           show (Builtin.zeroCells zv.cells (xs.length - iv.toNat)).toList[(j - iv.toNat)*Ag P e0+m]? =some u
           rw [Ad]
           exact Ur (by rw [hzsz,his]) hj2 hm u1
          ·cases hp
        have hargs:c.args= #[x]:=by rw [←Cd (xs:=c.args),ha]
        have htys:c.argTypes= #[t]:=by rw [←Cd (xs:=c.argTypes),hty]
        have hres:Ap ⟨η,Bg w O,β,hv,σ.m⟩ (.tup []) (.tuple #[]):=by simp only [Ap];exact ⟨#[],rfl,by simp only [A7]⟩
        have fin:∀w',(Builtin.clear_ #[t] o.type #[a.eval x]).run P w= .ok (.tuple #[]) w'→Bel ⟨w,some (hv s)⟩ w'→w'.heap.size=w.heap.size→Own w' (fun _=>True) e0 (Ag P e0) (hv s) (xs.take iv.toNat++List.replicate (xs.length - iv.toNat) pz).length us→
          Db P o a w (Fs w0 Oe η σ a.tmps ⟨H5 σ.m s (.arr e0 (Ag P e0) (.app (Ag P e0) (.lsl (Ag P e0) y (.c (.i .i64 0)) i) (.rep (Ag P e0) (.bin .sub (.len y) i) z)) false),σ.n,none⟩ (.tup [])):=by
         intro w' hrun hbel hsz' hown
         obtain ⟨_,t2,_,_,_⟩:=h.turned mg hbel (O':=O) (fun _ _ _=>rfl)
         have hrel:=h.turn (n:=σ.n) (x:= .app (Ag P e0) (.lsl (Ag P e0) y (.c (.i .i64 0)) i) (.rep (Ag P e0) (.bin .sub (.len y) i) z)) mg g1' hbel (O':=O) (fun _ _ _=>rfl) (fun cc hcc=>h.out cc (by omega)) (fun g hg=>by
          obtain ⟨_,lim,h2,_,h3⟩:=g4 g hg
          rw [h2,h3 rfl]) hcont hown (hel _ t2)
         refine Db.value (v:= .tuple #[]) (w':=w') ?_ ⟨β,hv,O,hrel,by simp only [Ap];exact ⟨#[],rfl,by simp only [A7]⟩⟩
         simp [execOp,ho,resolve,hc,hargs,htys,invoke,builtin,hrun]
        rcases g2.2 with ⟨b,e1,e2⟩|⟨g,cap,cur,e1,e1c,e2,e3,e4,e5,e6,e7⟩
        ·have e1':hv s= .slice b 0 0:=e1
         have hiv:iv.toNat=0:=by omega
         refine fin w ?_ (Bel.refl ⟨w,some (hv s)⟩) rfl ?_
         ·rw [h6',e1',hiv]
          simp only [Av2,if_true]
          cases b<;>simp [Builtin.clear_,run_underlying hu]
         ·rw [hlen]
          exact ⟨hul, .inl ⟨b,e1',e2⟩⟩
        ·have e1':hv s= .slice (some ⟨g,0,none⟩) xs.length cap:=e1
         have hbk:B5 (hv s)=some g:=by rw [e1'];exact Cc0 e1c
         by_cases hfull:iv.toNat=xs.length
         ·-- nothing is behind it
          have hZ0:Z=[]:=Bv (by rw [hZl,hfull];simp)
          have hus:us=vs:=by
           show vs.take (iv.toNat*Ag P e0)++Z=vs
           rw [hZ0,hfull,←hlv];simp
          refine fin w ?_ (Bel.refl ⟨w,some (hv s)⟩) rfl ?_
          ·rw [h6',e1',hfull]
           simp only [Av2,Cl2]
           split<;>simp [Builtin.clear_,run_underlying hu]
          ·rw [hlen,hus]
           exact g2.mono fun _ _=>trivial
         ·have hlt:iv.toNat<xs.length:=by omega
          have hst:=run_storeCells_at P g (iv.toNat*Ag P e0) e0 Z 0 cur w e3 (by rw [hZl,e6];have:xs.length*Ag P e0≤cap*Ag P e0:=Bz _ e4;omega) (by
           intro u hu'
           obtain ⟨j,hj⟩:=List.mem_iff_getElem?.1 hu'
           have hj':(Builtin.zeroCells zv.cells (xs.length - iv.toNat))[j]? =some u:=by rw [←Ad];exact hj
           have hjl:j<(xs.length - iv.toNat)*zv.cells.size:=by
            have:=(B3.1 hj').1
            simpa [Builtin.zeroCells] using this
           simp only [Builtin.zeroCells,Um,Aw1,hjl,if_true,A0,Option.some.injEq] at hj'
           have hpos2:0<zv.cells.size:=by rw [hzsz,←his];exact hpos
           have hmod:j % zv.cells.size<zv.cells.size:=Nat.mod_lt _ hpos2
           rw [getElem!_pos zv.cells _ hmod] at hj'
           rw [←hj']
           exact hz1 _ (by simp))
          simp only [Dl] at hst
          let row:Array Value:=(cur.toList.take (iv.toNat*Ag P e0)++Z++cur.toList.drop (iv.toNat*Ag P e0+Z.length)).toArray
          have hbel:Bel ⟨w,some (hv s)⟩ (w.setRow g row):=(Bel.refl ⟨w,some (hv s)⟩).turn (g:=g) (.inr hbk) rfl rfl rfl (Ac _) (by simp) (fun cc _ hcc=>setRow_other w g cc row hcc)
          refine fin (w.setRow g row) ?_ hbel (by simp) ?_
          ·rw [h6',e1']
           simp only [Av2]
           rw [if_neg (by omega)]
           obtain ⟨d,hd⟩:∃d,xs.length - iv.toNat=d+1:=⟨xs.length - iv.toNat - 1,by omega⟩
           have had:(⟨g,0,none⟩:Addr).add (iv.toNat*Ag P e0)=⟨g,iv.toNat*Ag P e0,none⟩:=by rw [add_lit,Ek]
           simp only [A0,had]
           rw [hd]
           refine Ac5 hu hi hzz _ d _ ?_
           rw [←hd]
           exact hst
          ·rw [hlen]
           have hcl:cur.toList.length=cap*Ag P e0:=by simpa using e6
           have hxc:xs.length*Ag P e0≤cap*Ag P e0:=Bz _ e4
           refine ⟨hul, .inr ⟨g,cap,row,e1',e1c,trivial,setRow_heap w g cur row e0 _ e3,e4,e5,?_,?_⟩⟩
           ·show (cur.toList.take (iv.toNat*Ag P e0)++Z++cur.toList.drop (iv.toNat*Ag P e0+Z.length)).toArray.size=_
            simp only [If,Az,Al,Bs,hZl]
            omega
           ·show List.take (xs.length*Ag P e0) (cur.toList.take (iv.toNat*Ag P e0)++Z++cur.toList.drop (iv.toNat*Ag P e0+Z.length))=vs.take (iv.toNat*Ag P e0)++Z
            have e8:vs.take (iv.toNat*Ag P e0)=cur.toList.take (iv.toNat*Ag P e0):=by rw [←e7,Av9,Md hkm]
            rw [e8]
            have e9:(cur.toList.take (iv.toNat*Ag P e0)++Z).length=xs.length*Ag P e0:=by
             rw [Az,Al,hZl];omega
            rw [←e9,List.take_left]
       ·cases hq'
      ·cases hq'
     ·cases hq'
    ·cases hs
   ·cases hs
  ·cases hs
 ·cases hs
end
end Go.X
/- strings.Builder: its methods, called. -/
namespace Go.X
open Go Go.RowKit
section
variable {P:Program} {sig:Nat→Option Nat} {fn:Fns} {w0:Fr} {Oe:Nat→Option Nat} {η:List PV} {σ:St} {a:Act} {tm:Array Value} {w:World} {β:Nat→Nat} {hv:Nat→Value} {O:Nat→Option Nat} {G:Option E} {o:Oper} {ws:List W}
theorem Rel.eqm {m':List (Nat×Blk)} {n:Nat} (h:Rel w0 Oe η σ tm w β hv O) (he:∀s,mget σ.m s=mget m' s):Rel w0 Oe η ⟨σ.t,m',n⟩ tm w β hv O:=by
 have hl:(Cx.mk η (Bg w O) β hv σ.m).Le ⟨η,Bg w O,β,hv,m'⟩:=⟨fun _ _ h=>h,Vw.Le.refl _⟩
 have hat:∀s,(Cx.mk η (Bg w O) β hv σ.m).At ⟨η,Bg w O,β,hv,m'⟩ s:=fun s=>⟨rfl,rfl,fun e sz x ro xs h1 h2=>⟨e,x,ro,xs,by rw [←he];exact h1,h2,Ac _⟩⟩
 exact ⟨h.bel,h.ext,h.out,A7.le hl hat _ _ h.tmps,fun s b hs=>(h.mem s b (by rw [he];exact hs)).le hl hat (fun _=>rfl) (fun _=>rfl),
  fun s1 s2 b1 b2 h1 h2 h12 k1 k2=>h.inj s1 s2 b1 b2 (by rw [he];exact h1) (by rw [he];exact h2) h12 ((Has.congr (C:=⟨η,Bg w O,β,hv,σ.m⟩) rfl rfl).1 k1) ((Has.congr (C:=⟨η,Bg w O,β,hv,σ.m⟩) rfl rfl).1 k2),h.t0⟩
theorem O6 {e:TypeId} (h:Ag P e≠0):∃i,P.info? e=some i:=by
 cases hi:P.info? e with
 |some i=>exact ⟨i,rfl⟩
 |none=>simp [Ag,hi] at h
theorem Fq0 {tb ts ty e:TypeId} {s:ByteArray} (ht:P.underlying tb=some (.slice e)) (hs:P.underlying ts=some .string) (hsz:Ag P e=1):SrcR P w O tb ts ty e (Ck s.data.toList) (.string s) (Lib.strCells s):=by
 have hlen:(Ck s.data.toList).length=s.size:=by simp [Ck]
 have size:∀i,P.info? e=some i→i.size=1:=fun i hi=>by simpa [Ag,hi] using hsz
 have hnews:(Lib.strCells s).length=s.size:=Lib.strCells_length s
 have hmap:(s.data.map fun b=>Value.int .u8 b.toNat)=(Lib.strCells s).toArray:=by
  apply Array.ext'
  simp [Lib.strCells]
 have pos:Ck s.data.toList≠[]→0<s.size:=fun h=>by rw [←hlen];exact Bw.2 h
 refine ⟨by rw [hnews,hlen,hsz,Av8],fun u hu=>Lib.strCells_oneCell s u hu,?_,fun hy b n cap hn=> ?_,fun hy hlim i z b hi hz hbb=> ?_,fun hy i g sLen sCap cur hi hg hroom hfit=> ?_,fun hy i z ad0 sLen sCap olds hi hz hbb hlo holds hgr hlim=> ?_⟩
 ·intro i x hx
  rw [hsz]
  simp only [Ck,By,Aw] at hx
  obtain ⟨c,hc,rfl⟩:=hx
  refine ⟨rfl,fun j q hq=> ?_⟩
  cases j with
  |zero=>
   simp [PV.cells] at hq
   subst hq
   exact ⟨.int .u8 c.toNat,by simp only [Lib.strCells,Av8,Dl,By,hc,A0],rfl, .i .u8 _⟩
  |succ j=>simp [PV.cells] at hq
 ·obtain ⟨i,hi⟩:=O6 (P:=P) (e:=e) (by omega)
  have hm:s.size=0:=by rw [←hlen,hy];rfl
  have hn0:Lib.strCells s=[]:=Bv (by rw [hnews];exact hm)
  have hf:=Lib.run_firstCells_string (P:=P) w i.size s
  rw [hm,hn0] at hf
  cases b<;>simp [Builtin.append_,run_underlying ht,run_underlying hs,sizeOf,typeInfo,hi,Builtin.lenOf,hm,hn,hf,storeCells]
 ·rw [hlen] at hlim ⊢
  have h0:=pos hy
  simp only [LIM] at hlim
  have hb2:s.size*i.bytes≤1073741824*65536:=Gc hlim hbb
  cases b with
  |none=>
   rw [run_append_nil_string (P:=P) w tb ts ty e i z ht hs hi hz s h0 (by omega) (by omega),hmap]
  |some ad=>
   have:=Lib.run_append_grow_string (P:=P) w tb ts ty e i z ht hs hi hz ad 0 0 [] (by simp) (fun j v hj=>by simp at hj) s (by omega) (by omega) (growslice_fits (by omega) (by rw [Ek];omega))
   simpa using this
 ·rw [hlen] at hroom ⊢
  have hi1:=size i hi
  rw [hnews,hi1] at hfit
  have:=Lib.run_append_room_string (P:=P) w tb ts ty e i ht hs hi hi1 g sLen sCap cur hg s hroom (by omega)
  rw [hi1,hnews,Av8]
  exact this
 ·rw [hlen] at hgr hlim ⊢
  simp only [LIM] at hlim
  have hb2:(sLen+s.size)*i.bytes≤1073741824*65536:=Gc hlim hbb
  exact Lib.run_append_grow_string (P:=P) w tb ts ty e i z ht hs hi hz ad0 sLen sCap olds hlo holds s hgr (by omega) (growslice_fits (by omega) (by omega))
theorem Rel.drop {w':World} {O':Nat→Option Nat} {s e0 sz0 n:Nat} {x0:E} (h:Rel w0 Oe η σ tm w β hv O) (h0:mget σ.m s=some (.arr e0 sz0 x0 false))
  (hb:Bel ⟨w,some (hv s)⟩ w') (hO':∀c,c<w.heap.size→B5 (hv s)≠some c→O' c=O c) (hout:∀c,w'.heap.size≤c→O' c=none):
  Rel w0 Oe η (σ.eff ⟨Kp s (Rw σ.m s),n,some s⟩) tm w' β hv O':=by
 obtain ⟨t1,t2,t3,t4,_⟩:=h.turned h0 hb hO'
 have hne:∀s',s'≠s→mget (Kp s (Rw σ.m s)) s'=(mget σ.m s').map (Blk.kill s):=fun s' hs=>by rw [Lx,Hk hs]
 have hsame:mget (Kp s (Rw σ.m s)) s=none:=by rw [Lx,I7];rfl
 have hl:(Cx.mk η (Bg w O) β hv σ.m).Le ⟨η,Bg w' O',β,hv,Kp s (Rw σ.m s)⟩:=⟨fun _ _ h=>h,t2⟩
 have hat:∀s',s'≠s→(Cx.mk η (Bg w O) β hv σ.m).At ⟨η,Bg w' O',β,hv,Kp s (Rw σ.m s)⟩ s':=fun s' hs=>
  ⟨rfl,rfl,fun e sz x ro xs h1 h2=>⟨e,x,ro,xs,by show mget (Kp s (Rw σ.m s)) s'=_;rw [hne s' hs,h1];rfl,h2,Ac _⟩⟩
 have hkhas:∀s' b',(Has ⟨η,Bg w' O',β,hv,Kp s (Rw σ.m s)⟩ s' (b'.kill s)↔Has ⟨η,Bg w O,β,hv,σ.m⟩ s' b'):=by
  intro s' b'
  cases b' with
  |box _ _=>exact Iff.rfl
  |map _ _=>exact Iff.rfl
  |arr _ _ _ _=>exact Iff.rfl
 refine ⟨t1,t3,hout,A7.kill hl hat _ _ h.tmps,fun s' b' hs'=> ?_,fun s1 s2 b1 b2 h1 h2 h12 hh1 hh2=> ?_,fun v hv0 ht=>h.t0 v hv0 (Bw5 ht)⟩
 ·have hg:mget (Kp s (Rw σ.m s)) s'=some b':=hs'
  by_cases hs:s'=s
  ·subst hs
   rw [hsame] at hg
   cases hg
  ·rw [hne s' hs] at hg
   obtain ⟨b'',hb'',rfl⟩:=Aw.1 hg
   exact (h.mem s' b'' hb'').kill hl hat hs (fun hh=>(t4 s' b'' hs hb'' hh).2.1) (fun hh=>(t4 s' b'' hs hb'' hh).2.2)
 ·have g1:mget (Kp s (Rw σ.m s)) s1=some b1:=h1
  have g2:mget (Kp s (Rw σ.m s)) s2=some b2:=h2
  have n1:s1≠s:=fun e=>by subst e;rw [hsame] at g1;cases g1
  have n2:s2≠s:=fun e=>by subst e;rw [hsame] at g2;cases g2
  rw [hne s1 n1] at g1
  rw [hne s2 n2] at g2
  obtain ⟨b1',hb1',rfl⟩:=Aw.1 g1
  obtain ⟨b2',hb2',rfl⟩:=Aw.1 g2
  exact h.inj s1 s2 b1' b2' hb1' hb2' h12 ((hkhas s1 b1').1 hh1) ((hkhas s2 b2').1 hh2)
theorem Rel.bldr {b T:Nat} {x:SV} (h:Rel w0 Oe η σ tm w β hv O) (hb:mget σ.m b=some (.box [.slf b T,x] false)):
  ∃p u,w.heap[β b]? =some (.cells #[p,u] T (0,0))∧(p= .pointer none∨p= .pointer (some ⟨β b,0,none⟩))∧Ap ⟨η,Bg w O,β,hv,σ.m⟩ x u∧One u∧O (β b)=some 0∧w0.ok (β b):=by
 obtain ⟨g1,g2,vs,T',g3,g4,g5,g6⟩:=h.mem b _ hb
 have hT:T'=T:=g6 b T rfl
 subst hT
 simp only [A7,Ap] at g5
 obtain ⟨p,r,hr,hp,u,r',hr',hu,rfl⟩:=g5
 subst hr'
 have hvs:vs= #[p,u]:=by rw [←Cd (xs:=vs),hr]
 subst hvs
 exact ⟨p,u,g3,hp,hu,g4 u (by simp),g2 rfl,g1⟩
theorem Rel.mark {b T:Nat} {x:SV} {p u:Value} (h:Rel w0 Oe η σ tm w β hv O) (hb:mget σ.m b=some (.box [.slf b T,x] false)) (hbk:w.heap[β b]? =some (.cells #[p,u] T (0,0))) (hp:p= .pointer none∨p= .pointer (some ⟨β b,0,none⟩)) (hu:Ap ⟨η,Bg w O,β,hv,σ.m⟩ x u) (h1:One u) (hO:O (β b)=some 0) (hok:w0.ok (β b)):
  ∃w1,cn (β b) p w w1∧Rel w0 Oe η σ tm w1 β hv O:=by
 rcases hp with rfl|rfl
 ·refine ⟨_, .inl ⟨rfl,rfl⟩,?_⟩
  have hother:∀c,c≠β b→(w.setCell ⟨β b,0,none⟩ (.pointer (some ⟨β b,0,none⟩))).heap[c]? =w.heap[c]? :=fun c hc=>Below.heap_setCell _ _ _ _ (fun e=>hc e)
  have hM:(Bg w O).Le (Bg (w.setCell ⟨β b,0,none⟩ (.pointer (some ⟨β b,0,none⟩))) O):=Gy (fun c _ hc=>hother c (fun e=>by subst e;exact absurd (hc 0 hO) (by omega))) (fun c _ lim hl=>⟨lim,hl,Ac _⟩) (fun c _ hn=>hn)
  have hr:=h.put (n:=σ.n) (w':=w.setCell ⟨β b,0,none⟩ (.pointer (some ⟨β b,0,none⟩))) (b:= .box [.slf b T,x] false) hb trivial hO
   (h.bel.turn hok rfl rfl rfl (Ac _) (by simp [World.setCell]) fun k _ hk=>hother k hk) (by simp [World.setCell]) hother (fun e sz x ro xs hh=>by cases hh)
   ⟨hok,fun _=>hO,#[.pointer (some ⟨β b,0,none⟩),u],T,by simp [World.setCell,Fh,hbk],fun v hv=>by
    simp only [Ah,List.not_mem_nil,or_false] at hv
    rcases hv with rfl|rfl
    ·rfl
    ·exact h1,by
    simp only [A7]
    refine ⟨_,_,rfl, .inr rfl,_,_,rfl,?_,rfl⟩
    refine Ap.le (C:=⟨η,Bg w O,β,hv,σ.m⟩) (C':=⟨η,Bg (w.setCell ⟨β b,0,none⟩ (.pointer (some ⟨β b,0,none⟩))) O,β,hv,H5 σ.m b (.box [.slf b T,x] false)⟩) ⟨fun _ _ h=>h,hM⟩ (fun s'=>⟨rfl,rfl,fun e sz y ro xs h1 h2=> ?_⟩) _ _ hu
    by_cases hss:s'=b
    ·subst hss
     have h1':mget σ.m s'=some (.arr e sz y ro):=h1
     rw [hb] at h1';cases h1'
    ·exact ⟨e,y,ro,xs,by show mget (H5 σ.m b _) s'=_;rw [show mget (H5 σ.m b (.box [.slf b T,x] false)) s'=mget σ.m s' from G5 σ hss _];exact h1,h2,Ac _⟩,fun s' T' hh=>by injection hh with hh;injection hh⟩
  refine (hr.eqm (m':=σ.m) (n:=σ.n) fun s'=> ?_:_)
  show mget (H5 σ.m b _) s'=_
  by_cases hss:s'=b
  ·subst hss;rw [show mget (H5 σ.m s' (.box [.slf s' T,x] false)) s'=some _ from Jp σ s' _,hb]
  ·exact G5 σ hss _
 ·exact ⟨w, .inr ⟨rfl,rfl⟩,h⟩
theorem Rel.laid {b T s e n:Nat} {x:E} {y:SV} (h:Rel w0 Oe η σ tm w β hv O) (hb:mget σ.m b=some (.box [.slf b T,y] false)) (hs:mget σ.m s=some (.arr e 1 x false)):
  ∃ao m c,hv s= .slice ao m c∧(∃q u',w.heap[β b]? =some (.cells #[q,u'] T (0,0)))∧Rel w0 Oe η (σ.eff ⟨H5 σ.m b (.box [.slf b T, .h s] false),n,none⟩) tm (w.setCell ⟨β b,1,none⟩ (.slice ao m c)) β hv O:=by
 obtain ⟨_,xs,vs,_,how,_,_⟩:=h.mem s _ hs
 obtain ⟨ao,m,c,hvs⟩:∃ao m c,hv s= .slice ao m c:=by
  rcases how.2 with ⟨ad,e1,_⟩|⟨g,cap,cur,e1,_⟩
  ·exact ⟨ad,0,0,e1⟩
  ·exact ⟨_,_,_,e1⟩
 obtain ⟨p,u,hbk,hp,hu,h1,hO,hok⟩:=h.bldr hb
 refine ⟨ao,m,c,hvs,⟨p,u,hbk⟩,?_⟩
 have hother:∀k,k≠β b→(w.setCell ⟨β b,1,none⟩ (.slice ao m c)).heap[k]? =w.heap[k]? :=fun k hc=>Below.heap_setCell _ _ _ _ (fun e=>hc e)
 refine h.put hb trivial hO (h.bel.turn hok rfl rfl rfl (Ac _) (by simp [World.setCell]) fun k _ hk=>hother k hk) (by simp [World.setCell]) hother (fun e sz x ro xs hh=>by cases hh)
   ⟨hok,fun _=>hO,#[p, .slice ao m c],T,by simp [World.setCell,Fh,hbk],fun v hv=>by
    simp only [Ah,List.not_mem_nil,or_false] at hv
    rcases hv with rfl|rfl
    ·rcases hp with rfl|rfl<;>rfl
    ·rfl,by
    simp only [A7]
    refine ⟨_,_,rfl,hp,_,_,rfl,hvs.symm,rfl⟩,fun s' T' hh=>by injection hh with hh;injection hh⟩
end
end Go.X
/- Calls of strings.Builder's methods. -/
namespace Go.X
open Go Go.RowKit
section
variable {P:Program} {sig:Nat→Option Nat} {fn:Fns} {w0:Fr} {Oe:Nat→Option Nat} {η:List PV} {σ:St} {a:Act} {tm:Array Value} {w:World} {β:Nat→Nat} {hv:Nat→Value} {O:Nat→Option Nat} {G:Option E} {o:Oper} {ws:List W}
theorem Sj {T e:Nat} (h:Pq P T=some e):P.underlying e=some (.int .u8)∧Ag P e=1∧C6 P e=true∧∃zs,G9 P e=some zs:=by
 unfold Pq at h
 split at h
 ·split at h
  ·split at h
   ·split at h
    ·rename_i hc
     injection h with h
     subst h
     obtain ⟨_,h1,h2,h3,h4⟩:=hc
     refine ⟨?_,h2,h3,Cq.1 h4⟩
     unfold zn at h1
     split at h1
     ·rename_i hu;exact hu
     ·cases h1
    ·cases h
   ·cases h
  ·cases h
 ·cases h
theorem Dz3 {s b k:Nat} (hne:b≠s):∀{j:Nat} {l:List SV},l[j]? =some (.bp b k)→(SV.kills s l)[j]? =some (.bp b k):=by
 intro j l
 induction l generalizing j with
 |nil=>intro h;simp at h
 |cons x l ih=>
  intro h
  cases j with
  |zero=>
   simp only [Cc,Option.some.injEq] at h
   subst h
   simp only [SV.kills,SV.kill,Cc,if_neg hne]
  |succ j=>
   simp only [SV.kills,C7] at h ⊢
   exact ih h
theorem Rel.bpAt {b k s:Nat} {m':List (Nat×Blk)} {n:Nat} {w':World} {β':Nat→Nat} {hv':Nat→Value} {O':Nat→Option Nat} (h:Rel w0 Oe η σ tm w β hv O) (hk:σ.t[k]? =some (.bp b 0)) (hne:b≠s) (h':Rel w0 Oe η (σ.eff ⟨m',n,some s⟩) tm w' β' hv' O'):β' b=β b:=by
 obtain ⟨v,h1,h2⟩:=h.tmps.get k _ hk
 obtain ⟨v',h3,h4⟩:=h'.tmps.get k _ (Dz3 hne hk)
 rw [h1] at h3
 injection h3 with h3
 subst h3
 simp only [Ap] at h2 h4
 rw [h2] at h4
 injection h4 with h4
 injection h4 with h4
 injection h4 with h4
 exact h4.symm
theorem um {b s T e k:Nat} {buf r:SV} {src:E} {ws0:List W} {ε:Eff} {tb ts:TypeId} {u vx:Value} (h:Rel w0 Oe η σ tm w β hv O) (hb:mget σ.m b=some (.box [.slf b T,buf] false)) (he:Pq P T=some e) (hk:σ.t[k]? =some (.bp b 0))
  (hw:b9 σ s b T e buf src ws0=some (ws,r,ε)) (hck:Chk η ws) (hu:Ap ⟨η,Bg w O,β,hv,σ.m⟩ buf u) (hsrc:∀ys,src.ev η=some (.l 1 ys)→∃news,SrcR P w O tb ts tb e ys vx news):
  ∃ao n' c' w2 β' hv' O',(Builtin.append_ #[tb,ts] tb #[u,vx]).run P w= .ok (.slice ao n' c') w2∧(∃q u',w2.heap[β b]? =some (.cells #[q,u'] T (0,0)))∧Rel w0 Oe η (σ.eff ε) tm (w2.setCell ⟨β b,1,none⟩ (.slice ao n' c')) β' hv' O'∧r= .und:=by
 obtain ⟨_,hsz,hsm,zs,hzs⟩:=Sj he
 obtain ⟨i,z,hi,hzz,hzz2,_,_⟩:=F9 (C:=⟨η,Bg w O,β,hv,σ.m⟩) hzs
 have fin:∀(s1:Nat) (x:E),s1≠b→ε=⟨H5 (Gb σ.m σ.n s1 (.arr e 1 x false)).m b (.box [.slf b T, .h s1] false),σ.n,some s1⟩→r= .und→
   (∃v' w' β' hv' O',(Builtin.append_ #[tb,ts] tb #[u,vx]).run P w= .ok v' w'∧Rel w0 Oe η (σ.eff (Gb σ.m σ.n s1 (.arr e (Ag P e) x false))) tm w' β' hv' O'∧hv' s1=v')→
   ∃ao n' c' w2 β' hv' O',(Builtin.append_ #[tb,ts] tb #[u,vx]).run P w= .ok (.slice ao n' c') w2∧(∃q u',w2.heap[β b]? =some (.cells #[q,u'] T (0,0)))∧Rel w0 Oe η (σ.eff ε) tm (w2.setCell ⟨β b,1,none⟩ (.slice ao n' c')) β' hv' O'∧r= .und:=by
  rintro s1 x hne rfl hr ⟨v',w',β',hv',O',hrun,hrel,hv1⟩
  rw [hsz] at hrel
  have hβ:β' b=β b:=h.bpAt hk (Ne.symm hne) hrel
  have hb2:mget (σ.eff (Gb σ.m σ.n s1 (.arr e 1 x false))).m b=some (.box [.slf b T,buf.kill s1] false):=by
   show mget (Gb σ.m σ.n s1 (.arr e 1 x false)).m b=_
   rw [show mget (Gb σ.m σ.n s1 (.arr e 1 x false)).m b=(mget σ.m b).map (Blk.kill s1) from Jr σ (Ne.symm hne) _,hb]
   simp only [A0,Blk.kill,SV.kills,SV.kill,if_neg (Ne.symm hne)]
  have hs2:mget (σ.eff (Gb σ.m σ.n s1 (.arr e 1 x false))).m s1=some (.arr e 1 x false):=Kn σ s1 _
  obtain ⟨ao,m,c,e1,e2,e3⟩:=hrel.laid (n:=σ.n) hb2 hs2
  rw [hβ] at e2 e3
  rw [←hv1,e1] at hrun
  exact ⟨ao,m,c,w',β',hv',O',hrun,e2,e3,hr⟩
 have appd:∀(y:E) (xs:List PV),y.ev η=some (.l 1 xs)→(∃q,(E.app 1 y src).ev η=some q)→∃ys news,SrcR P w O tb ts tb e ys vx news∧(E.app 1 y src).ev η=some (.l 1 (xs++ys))∧xs.length+ys.length≤LIM:=by
  rintro y xs hy ⟨q,hq⟩
  have hq':=hq
  simp only [E.ev,hy,Ax,Aj] at hq'
  obtain ⟨p,hp,hq'⟩:=hq'
  unfold H2 at hq'
  split at hq'
  ·rename_i heq1
   injection heq1 with heq1 heq2
   subst heq1;subst heq2
   split at hq'
   ·rename_i hcond
    obtain ⟨_,rfl,hlim⟩:=hcond
    injection hq' with hq'
    obtain ⟨news,hn⟩:=hsrc _ hp
    exact ⟨_,news,hn,by rw [hq,hq'],hlim⟩
   ·cases hq'
  ·cases hq'
 unfold b9 at hw
 split at hw
 ·split at hw
  ·cases hw
  ·rename_i hne
   simp only [Option.some.injEq,Prod.mk.injEq] at hw
   obtain ⟨rfl,rfl,rfl⟩:=hw
   refine fin s _ hne rfl rfl ?_
   obtain ⟨ys,news,h1,h2,h3⟩:=appd _ [] rfl (hck _ (Bh _ (B4.2 rfl)))
   simp only [Ap] at hu
   subst hu
   exact I5 (b:=none) h hsm hi hzz hzz2 h1 (by rw [hsz];simpa using h2) (by simpa using h3)
 ·rename_i s0
  split at hw
  ·cases hw
  ·rename_i hne
   split at hw
   ·rename_i e0 sz y hb0
    split at hw
    ·cases hw
    ·rename_i hcond
     simp only [not_or,Decidable.not_not] at hcond
     obtain ⟨rfl,rfl⟩:=hcond
     simp only [Option.some.injEq,Prod.mk.injEq] at hw
     obtain ⟨rfl,rfl,rfl⟩:=hw
     refine fin s0 _ hne rfl rfl ?_
     obtain ⟨_,xs,_,g1,_⟩:=h.mem s0 _ hb0
     have g1':y.ev η=some (.l 1 xs):=g1
     obtain ⟨ys,news,h1,h2,h3⟩:=appd _ xs g1' (hck _ (Bh _ (B4.2 rfl)))
     simp only [Ap] at hu
     subst hu
     exact Uc h hsm hi hzz hzz2 (by rw [hsz];exact hb0) (by rw [hsz];exact g1') h1 (by rw [hsz];exact h2) h3
   ·cases hw
 ·cases hw
theorem bk (w:World) (ad:Addr) (n k:Nat) (hk:k≠ad.block):(w.freeze ad n).heap[k]? =w.heap[k]? :=by
 unfold World.freeze
 split
 ·rfl
 ·simp only [Fh]
  rw [if_neg (fun h=>hk h.symm)]
theorem g9 (w:World) (ad:Addr) (n:Nat):(w.freeze ad n).heap.size=w.heap.size:=by
 unfold World.freeze
 split
 ·rfl
 ·simp only [Array.size_modify]
theorem ij (w:World) (ad:Addr) (n:Nat):(w.freeze ad n).os=w.os∧(w.freeze ad n).tape=w.tape∧(w.freeze ad n).output=w.output∧(w.freeze ad n).drawn=w.drawn:=by
 unfold World.freeze
 split<;>exact ⟨rfl,rfl,rfl,rfl⟩
theorem Gh5 (hC:Contract P sig fn) {c:Call} {f T k s:Nat} {r:SV} {ε:Eff} (ho:o.op= .call c) (hc:c.callee= .value (.func f)) (hbl:Ak8 (sig f)=some (T,k))
  (h:Rel w0 Oe η σ a.tmps w β hv O) (hG:GOk η G) (hx:Fn8 P σ G s T k (args P σ G c.args.toList c.argTypes.toList)=some (ws,r,ε)) (hk:Chk η ws):Db P o a w (Fs w0 Oe η σ a.tmps ε r):=by
 have hsay:=hC.bld f T k hbl
 have hfx:a.eval (.func f)= .func (.func f) #[] #[]:=rfl
 unfold Fn8 at hx
 split at hx
 ·cases hx
 ·rename_i hG0
  split at hx
  ·rename_i b ar has
   have hG':G=none:=by cases G<;>simp_all
   subst hG'
   have hargs:A7 ⟨η,Bg w O,β,hv,σ.m⟩ (.bp b 0::ar) (c.args.map a.eval).toList:=by
    have:=Od (ds:=a.defers) (C:=⟨η,Bg w O,β,hv,σ.m⟩) hG rfl h.tmps has
    simpa using this
   simp only [A7,Ap] at hargs
   obtain ⟨v0,vr,hcs,rfl,hrest⟩:=hargs
   have hloc:∃j:Nat,σ.t[j]? =some (SV.bp b 0):=by
    cases hl:c.args.toList with
    |nil=>rw [hl] at has;simp [args] at has
    |cons x xs=>
     rw [hl] at has
     simp only [args] at has
     split at has
     ·rename_i y ys h1 _
      simp only [Option.some.injEq,List.cons.injEq] at has
      obtain ⟨rfl,_⟩:=has
      cases x with
      |tmp j=>
       simp only [opd,Aj] at h1
       obtain ⟨sv,h2,h3⟩:=h1
       unfold Cm5 at h3
       split at h3
       ·simp [V8] at h3
       ·injection h3 with h3;subst h3;exact ⟨j,h2⟩
      |const v=>
       simp only [opd,Option.some.injEq] at h1
       cases v<;>simp [N4] at h1
       split at h1<;>cases h1
      |func g=>simp [opd] at h1
      |global g=>simp [opd] at h1
     ·cases has
   obtain ⟨j,hj⟩:=hloc
   split at hx
   ·rename_i b' T' buf hb
    split at hx
    ·cases hx
    ·rename_i hcond
     simp only [not_or,Decidable.not_not] at hcond
     obtain ⟨rfl,rfl⟩:=hcond
     split at hx
     ·cases hx
     ·rename_i e he
      obtain ⟨hu8,hsz,hsm,_⟩:=Sj he
      obtain ⟨p,u,hbk,hp,hu,h1,hO,hok⟩:=h.bldr hb
      obtain ⟨w1,hm,hrel1⟩:=h.mark hb hbk hp hu h1 hO hok
      have hu1:∀(w':World),(∀s0,buf= .h s0∨buf= .nil 0∨True)→Ap ⟨η,Bg w O,β,hv,σ.m⟩ buf u→(∃s0,buf= .h s0)∨(∃n,buf= .nil n)→Ap ⟨η,Bg w' O,β,hv,σ.m⟩ buf u:=by
       rintro w' _ hq (⟨s0,rfl⟩|⟨n,rfl⟩)
       ·simp only [Ap] at hq ⊢;exact hq
       ·simp only [Ap] at hq ⊢;exact hq
      have kinds:∀{src:E} {ws0:List W},b9 σ s b' T' e buf src ws0=some (ws,r,ε)→(∃s0,buf= .h s0)∨(∃n,buf= .nil n):=by
       intro src ws0 hw
       unfold b9 at hw
       split at hw
       ·exact .inr ⟨_,rfl⟩
       ·exact .inl ⟨_,rfl⟩
       ·cases hw
      split at hx
      ·-- WriteString
       rename_i x
       simp only [A7,Ap] at hrest
       obtain ⟨v1,vr',rfl,⟨q,hq,hqr⟩,rfl⟩:=hrest
       obtain ⟨tb,ts,e',he',htb,hts,hrun⟩:=hsay
       rw [he] at he'
       injection he' with he'
       subst he'
       obtain ⟨p1,hp1⟩:∃p1,(E.s2b x).ev η=some p1:=by
        unfold b9 at hx
        split at hx
        ·split at hx
         ·cases hx
         ·simp only [Option.some.injEq,Prod.mk.injEq] at hx
          obtain ⟨rfl,_,_⟩:=hx
          obtain ⟨q2,hq2⟩:=hk _ (Bh _ (B4.2 rfl))
          simp only [E.ev,Ax,Aj] at hq2
          obtain ⟨p2,hp2,_⟩:=hq2
          exact ⟨p2,by simpa only [E.ev,Aj] using hp2⟩
        ·split at hx
         ·cases hx
         ·split at hx
          ·split at hx
           ·cases hx
           ·simp only [Option.some.injEq,Prod.mk.injEq] at hx
            obtain ⟨rfl,_,_⟩:=hx
            obtain ⟨q2,hq2⟩:=hk _ (Bh _ (B4.2 rfl))
            simp only [E.ev,Aj] at hq2
            obtain ⟨_,_,p2,hp2,_⟩:=hq2
            exact ⟨p2,by simpa only [E.ev,Aj] using hp2⟩
          ·cases hx
        ·cases hx
       have hq':x.ev η=some q:=hq
       have hstr:∃l,q= .s l∧p1= .l 1 (Ck l):=by
        simp only [E.ev,hq',Ax] at hp1
        unfold wz at hp1
        split at hp1
        ·split at hp1
         ·injection hp1 with hp1;exact ⟨_,rfl,hp1.symm⟩
         ·cases hp1
        ·cases hp1
       obtain ⟨l,rfl,rfl⟩:=hstr
       obtain ⟨str,hv1,hl⟩:∃str:ByteArray,v1= .string str∧str.data.toList=l:=by
        cases hqr with
        |s _ y hy=>exact ⟨y,rfl,hy⟩
       subst hv1
       obtain ⟨ao,n',c',w2,β',hv',O',r1,r2,r3,rfl⟩:=um (ws:=ws) (tb:=tb) (ts:=ts) (vx:= .string str) hrel1 hb he hj hx hk (hu1 w1 (fun _=> .inr (.inr trivial)) hu (kinds hx)) (fun ys hys=>by
        rw [hp1] at hys
        injection hys with hys
        injection hys with _ hys
        subst hys
        rw [←hl]
        exact ⟨_,Fq0 htb hts hsz⟩)
       refine Fy (cv:= #[]) ho hc hfx ?_
       have hargs:c.args.map a.eval++ #[]= #[.pointer (some ⟨β b',0,none⟩), .string str]:=by rw [Un,←Cd (xs:=c.args.map a.eval),hcs]
       rw [hargs]
       refine (hrun w w1 w2 (β b') p u str ao n' c' hbk hm r1 r2).mono fun v w' hw'=> ?_
       subst hw'
       exact ⟨β',hv',O',r3,by simp only [Ap]⟩
      ·-- WriteByte
       rename_i x
       simp only [A7,Ap] at hrest
       obtain ⟨v1,vr',rfl,⟨q,hq,hqr⟩,rfl⟩:=hrest
       obtain ⟨tb,e',he',htb,hrun⟩:=hsay
       rw [he] at he'
       injection he' with he'
       subst he'
       have hmem:W.chk (.b2s (.lit 1 [x]))∈ws:=by
        unfold b9 at hx
        split at hx
        ·split at hx
         ·cases hx
         ·simp only [Option.some.injEq,Prod.mk.injEq] at hx
          obtain ⟨rfl,_,_⟩:=hx
          simp
        ·split at hx
         ·cases hx
         ·split at hx
          ·split at hx
           ·cases hx
           ·simp only [Option.some.injEq,Prod.mk.injEq] at hx
            obtain ⟨rfl,_,_⟩:=hx
            simp
          ·cases hx
        ·cases hx
       obtain ⟨q2,hq2⟩:=hk _ hmem
       have hq':x.ev η=some q:=hq
       simp only [E.ev,E.evs,hq',Ax,A0,Jq,Q5,List.all_cons,List.all_nil,J6] at hq2
       obtain ⟨n,rfl⟩:∃n,q= .i .u8 n:=by
        split at hq2
        ·simp only [Ax,j5,Aw] at hq2
         obtain ⟨bs,hbs,_⟩:=hq2
         obtain ⟨ns,hns,_⟩:=Ly hbs
         cases ns with
         |nil=>simp at hns
         |cons n ns=>simp at hns;exact ⟨n,hns.1⟩
        ·simp at hq2
       have hv1:v1= .int .u8 n:=hqr.int
       subst hv1
       let w1':=w1.alloc (.cells #[.int .u8 n] e)
       obtain ⟨hrel2,_⟩:=hrel1.belowO (w':=w1') (O':=O) ((Blw.refl _ _).alloc (Ac _) _) (fun _ _=>rfl) (fun c hc=>hrel1.out c (by rw [show w1'.heap.size=w1.heap.size+1 by simp [w1']] at hc;omega))
       have hcell:w1'.cell? ⟨w1.heap.size,0,none⟩=some (.int .u8 n):=by
        rw [cell_of_row w1' w1.heap.size 0 #[.int .u8 n] e (0,0) (heap_alloc_new w1 _)];rfl
       have hsrc:Src w1' O (Ag P e) [.i .u8 n] (.slice (some ⟨w1.heap.size,0,none⟩) 1 1) [.int .u8 n]:=by
        rw [show Src w1' O (Ag P e)=Src w1' O 1 by rw [hsz]]
        refine ⟨rfl,fun u hu=>by simp at hu;subst hu;rfl,fun i x hx=> ?_,_,_,rfl,fun _=>⟨_,rfl,fun j u hj=> ?_⟩⟩
        ·cases i with
         |zero=>
          simp at hx;subst hx
          refine ⟨rfl,fun j c hc=> ?_⟩
          cases j with
          |zero=>simp [PV.cells] at hc;subst hc;exact ⟨_,rfl,rfl, .i .u8 n⟩
          |succ j=>simp [PV.cells] at hc
         |succ i=>simp at hx
        ·cases j with
         |zero=>simp at hj;subst hj;simpa [Go.Addr.add] using hcell
         |succ j=>simp at hj
       obtain ⟨i0,hi0⟩:=O6 (P:=P) (e:=e) (by omega)
       obtain ⟨ao,n',c',w2,β',hv',O',r1,r2,r3,rfl⟩:=um (ws:=ws) (tb:=tb) (ts:=tb) (vx:= .slice (some ⟨w1.heap.size,0,none⟩) 1 1) hrel2 hb he hj hx hk (hu1 w1' (fun _=> .inr (.inr trivial)) hu (kinds hx)) (fun ys hys=>by
        simp only [E.ev,E.evs,hq',Ax,A0,Jq,Q5,List.all_cons,List.all_nil,J6] at hys
        split at hys
        ·injection hys with hys
         injection hys with _ hys
         subst hys
         exact ⟨_,hsrc.runs htb (by rw [hi0];rfl)⟩
        ·cases hys)
       refine Fy (cv:= #[]) ho hc hfx ?_
       have hargs:c.args.map a.eval++ #[]= #[.pointer (some ⟨β b',0,none⟩), .int .u8 n]:=by rw [Un,←Cd (xs:=c.args.map a.eval),hcs]
       rw [hargs]
       refine (hrun w w1 w2 (β b') p u n ao n' c' hbk hm r1 r2).mono fun v w' hw'=> ?_
       subst hw'
       exact ⟨β',hv',O',r3,by simp only [Ap]⟩
      ·-- String
       split at hx
       ·rename_i s0
        split at hx
        ·rename_i e0 sz y hb0
         split at hx
         ·cases hx
         ·rename_i hcond
          simp only [not_or,Decidable.not_not] at hcond
          obtain ⟨rfl,hne,rfl⟩:=hcond
          simp only [Option.some.injEq,Prod.mk.injEq] at hx
          obtain ⟨rfl,rfl,rfl⟩:=hx
          simp only [A7] at hrest
          subst hrest
          obtain ⟨e',he',hrun⟩:=hsay
          rw [he] at he'
          injection he' with he'
          subst he'
          obtain ⟨_,xs,us,g1,g2,g3,g4⟩:=h.mem s0 _ hb0
          have g1':y.ev η=some (.l 1 xs):=g1
          obtain ⟨q,hq⟩:=hk _ (F5 ..)
          obtain ⟨q2,hq2⟩:=hk _ (Mh _ (B4.2 rfl))
          have hq':=hq
          simp only [E.ev,g1',Ax,j5,Aw] at hq'
          obtain ⟨l,hl,rfl⟩:=hq'
          obtain ⟨ns,rfl,hls,hrg⟩:=Ly hl
          have hne0:l≠[]:=by
           rintro rfl
           have hq3:(E.sidx (.b2s y) (.c (.i .i64 0))).ev η=((E.b2s y).ev η).bind fun p=>Ql p (.i .i64 0):=by simp [E.ev]
           rw [hq3,hq] at hq2
           simp [Ql] at hq2
          have hlen:l.length=(ns.map (PV.i .u8)).length:=by rw [hls];simp
          have hus:us=Lib.byteCells l:=by
           refine List.ext_getElem? fun i=> ?_
           by_cases hi:i<ns.length
           ·obtain ⟨_,k2⟩:=g3 i (.i .u8 (ns[i])) (by simp [hi])
            obtain ⟨uu,u1,_,u3⟩:=k2 0 (.i .u8 (ns[i])) rfl
            rw [Av8,Dl] at u1
            have hr:=hrg (ns[i]) (Dh hi)
            rw [u1,u3.int,hls]
            simp only [Lib.byteCells,List.map_map,By,Ay hi,A0,Function.comp_apply]
            congr 2
            have:(UInt8.ofNat (ns[i]).toNat).toNat=(ns[i]).toNat:=by
             rw [UInt8.toNat_ofNat']
             exact D2 (by omega)
            rw [this];omega
           ·have h2:us.length=ns.length:=by have:=g2.1;simpa using this
            rw [dz (by omega),dz (by simp [Lib.byteCells,hls];omega)]
          simp only [Ap] at hu
          subst hu
          rcases g2.2 with ⟨_,_,e2⟩|⟨g,cap,cur,e1,e1c,e2,e3,e4,e5,e6,e7⟩
          ·exact absurd (Bv (by omega)) hne0
          ·have e1':hv s0= .slice (some ⟨g,0,none⟩) l.length cap:=by rw [hlen];exact e1
           have hgb:B5 (hv s0)=some g:=by rw [e1'];simp only [B5,if_neg (show¬cap=0 by omega)]
           refine Fy (cv:= #[]) ho hc hfx ?_
           have hargs:c.args.map a.eval++ #[]= #[.pointer (some ⟨β b',0,none⟩)]:=by rw [Un,←Cd (xs:=c.args.map a.eval),hcs]
           rw [hargs]
           refine (hrun w (β b') g cap p cur l (by rw [←e1'];exact hbk) e3 hne0 (by omega) e5 (by omega) (by rw [←hus,←e7,hlen,Av8])).mono fun v w' hw'=> ?_
           obtain ⟨rfl,rfl⟩:=hw'
           have hfz:∀k,k≠g→(w.drew.freeze ⟨g,0,none⟩ l.length).heap[k]? =w.heap[k]? :=fun k hk=>bk w.drew ⟨g,0,none⟩ l.length k hk
           have hsize:(w.drew.freeze ⟨g,0,none⟩ l.length).heap.size=w.heap.size:=g9 w.drew _ _
           obtain ⟨z1,z2,z3,z4⟩:=ij w.drew ⟨g,0,none⟩ l.length
           have hbel:Bel ⟨w,some (hv s0)⟩ (w.drew.freeze ⟨g,0,none⟩ l.length):=⟨z1,z2,z3,by rw [z4];exact Nat.le_succ _,by rw [hsize];exact Ac _,fun k _ hk=>hfz k (fun e=>hk (by show B5 (hv s0)=_;rw [hgb,e]))⟩
           exact ⟨β,hv,O,h.drop (n:=σ.n) hb0 hbel (fun _ _ _=>rfl) (fun c hc=>h.out c (by rw [hsize] at hc;exact hc)),by simp only [Ap];exact ⟨_,hq, .s _ _ rfl⟩⟩
        ·cases hx
       ·cases hx
      ·cases hx
   ·cases hx
  ·cases hx
theorem Fv6 {xt yt e:TypeId} {x y:Operand} {ex:E} (ho:o.op= .binOp .eql xt x y yt) (ht:G0 P xt=some e) (hy:Bx3 y=true) (h:Rel w0 Oe η σ a.tmps w β hv O) (hG:GOk η G) (hx:opd P σ G xt x=some (.e ex))
  (hk:Chk η [F0 G (.len ex)]):Db P o a w (Fs w0 Oe η σ a.tmps (Fb σ) (.nilq ex)):=by
 have hu:=K8 ht
 obtain ⟨r,hr⟩:=hk.g1 hG
 have hr0:=D8 (ds:=a.defers) (C:=⟨η,Bg w O,β,hv,σ.m⟩) hG rfl hx h.tmps
 have e0:a.eval=(Act.mk a.tmps a.defers).eval:=rfl
 rw [←e0] at hr0
 simp only [Ap] at hr0
 obtain ⟨p,hp,hpr⟩:=hr0
 have hp':ex.ev η=some p:=hp
 simp only [E.ev,hp',Ax] at hr
 unfold Gq at hr
 split at hr
 ·rename_i sz xs
  have hyv:a.eval y= .slice none 0 0:=by
   unfold Bx3 at hy
   split at hy
   ·rfl
   ·cases hy
  generalize hv1:a.eval x=v1 at hpr
  cases hpr with
  |l _ _ base cap ad el hc hb hs hM h1 hh=>
   refine Db.value (v:= .bool base.isNone) (w':=w) ?_ (.keep h ?_)
   ·have hrun:(binOp .eql xt (.slice base xs.length cap) (.slice none 0 0)).run P w= .ok (.bool base.isNone) w:=by
     have hq:∀d:Nat,(Op.equalIn (d+1) xt (.slice base xs.length cap) (.slice none 0 0)).run P w= .ok base.isNone w:=fun d=>by
      cases base<;>simp [Op.equalIn,run_underlying hu]
     simp only [binOp]
     simp [Op.equal,Op.maxDepth,hq 9999]
    have hgd:(eqGuard .eql xt x y (.slice base xs.length cap) (.slice none 0 0)).run P w= .ok () w:=by simp [eqGuard]
    simp only [execOp,ho,hv1,hyv,Sem.run_bind,hgd,hrun,Result.andThen];rfl
   ·simp only [Ap]
    refine ⟨sz,xs,base.isNone,hp',rfl,fun hn=> ?_⟩
    refine Classical.byContradiction fun hne=> ?_
    have:=hb hne
    subst this
    cases hn
 ·cases hr
end
end Go.X
