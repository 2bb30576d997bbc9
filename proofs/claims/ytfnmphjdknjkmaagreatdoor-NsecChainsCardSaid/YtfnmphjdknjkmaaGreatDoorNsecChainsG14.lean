/- Delegations and names of a zone, as the reference finds them; what exists. -/
import Derived.Test.YtfnmphjdknjkmaaGreatDoorNsecChainsG13
import Derived.Test.YtfnmphjdknjkmaaGreatDoorNsecChainsG9
import Derived.Test.YtfnmphjdknjkmaaGreatDoorNsecChainsG8
import Derived.Test.YtfnmphjdknjkmaaGreatDoorNsecChainsG11
open Bool renaming eq_false_or_eq_true→Bl,and_eq_true→Br,false_eq_true→B5,or_eq_true→Cy,not_eq_true'→Cg,eq_iff_iff→D9,or_eq_false_iff→G7,and_eq_false_iff→H2,eq_false_iff→R6,true_and→Uj
open Classical renaming not_not→Hl
open Int renaming toNat_natCast→F0,lt_irrefl→Ak0
open List renaming getElem?_eq_some_iff→Bp,getElem?_eq_getElem→Bs,length_append→B3,mem_cons→Cj,mem_of_getElem?→Ck,length_take→Cq,length_cons→Cv,append_assoc→Cw,getElem?_append_right→Cc,pairwise_cons→Cd,length_pos_iff→Cl,length_nil→C3,getElem?_map→C4,length_drop→C7,mem_filter→C8,take_append_drop→C9,mem_append→Dw,drop_eq_getElem_cons→Dy,any_eq_true→Dz,nil_append→Dc,take_add_one→Df,getElem?_cons_zero→Dh,mem_singleton→Dr,drop_drop→D5,length_map→D8,length_filter_le→Ef,getElem?_of_mem→Er,getElem?_cons_succ→E1,append_nil→E3,take_of_length_le→E8,mem_map→Fc,filter_cons_of_pos→F8,suffix_iff_eq_drop→G1,mem_of_mem_drop→G5,isSuffixOf_iff_suffix→G6,length_set→Ik,flatMap_cons→Jv,drop_of_length_le→Jx,set_append_right→Ph,getElem?_eq_none_iff→Q4,getElem?_set_ne→R5,length_eq_one_iff→jv,getElem?_set_self→jw,find?_cons_of_pos→jx,find?_cons_of_neg→jy,take_left→Cn4,mem_nil_iff→Em1,filterMap_cons→Gy3,map_append→It5
open Nat renaming le_refl→B7,zero_le→Db,le_trans→En,add_sub_cancel→Kg
open Option renaming bind_some→B0,map_some→Cf,getD_some→Ej
open Option.some renaming injEq→Bn
set_option maxHeartbeats 1000000
set_option linter.defProp false
set_option linter.unusedVariables false
set_option linter.unusedSimpArgs false
namespace Go.X.G
open Go Go.X
def Ad:=And.intro xe<|And.intro EVP EV
def Ac:=And.intro EVC<|And.intro xe<|And.intro EVP EV
def Ab:=And.intro EVM<|And.intro EVC<|And.intro xe<|And.intro EVP EV
def i7 (n:List UInt8) (hn:n.length≤9223372036854775807):S f8 1 [.s n]=some [.s (parentN n),.b (Zz n)]:=by
 refine Hr5 (N:=1) rfl ?_;have k1:=split_ok n hn;have hl:=Gl n;unfold parentN Zz;by_cases h:lbl n=[]
 ·have e:¬(vld n=true∧n≠[46]):=fun⟨h1,h2⟩=>h2 ((Nq h1).1 h);have e2:(vld n && !decide (n=[46]))=false:=by
   rcases Bl (vld n) with h1|h1
   ·have:=(Nq h1).1 h;simp[this]
   ·simp[h1]
  rw[if_neg e,e2];rw[h] at k1;simp(disch:=omega)only[Fr4,k1,Ab,simprocAttr]
  try simp
 ·have h1:vld n=true:=by
   rcases Bl (vld n) with h1|h1
   ·exact h1
   ·exact absurd (l8 h1) h
  have h2:n≠[46]:=fun e=>h ((Nq h1).2 e);have e2:(vld n && !decide (n=[46]))=true:=by simp[h1,h2]
  rw[if_pos ⟨h1,h2⟩,e2];have hp:=Cl.2 h;have ls:I7 1 (Cn (lbl n)) (.i .i64 1) (.i .i64 ((lbl n).length:Int))=some (Cn ((lbl n).drop 1)):=by rw[L5 _ _ _ _ _ (by omega) (by omega) (by omega)];simp
  have k2:=Dg5 ((lbl n).drop 1) (by simp;omega) (fun x hx=>Dn7 n x (G5 hx));have h0:¬((lbl n).length:Int)=0:=by omega
  simp(disch:=omega)only[Fr4,k1,k2,ls,h0,Ab,simprocAttr]
def Ax3 (z:Zone) (n:List UInt8) (hz:z.wf) (hl:z.recs.length≤1000000) (hn:n.length≤9223372036854775807):S Ay8 2 [z.pv,.s n]=some [.s (cutN z n),.b (decide (cutN z n≠[]))]:=by
 refine Jc5 (N:=z.recs.length+1) rfl ?_;have g1:=hz.origin;unfold Lh at g1;have key:Gk5.ev S (z.recs.length+1) [z.pv,.s n]=some (.yld 0 [.s (c6 z n [] z.recs)]):=by
  refine Ed z.recs (fun i (b:List UInt8)=>[.s b,.i .i64 (i:Int)]) (fun i b r=> .yld 0 [.s (c6 z n b r)]) (fun i b=>b=[]∨under n b=true) [] rfl (.inl rfl) (by omega) (fun i b c r hd hi hc hI=> ?_) (fun b hI=> ?_)
  ·left;have g2:=(hz.recs.2 c (Ck hc)).name;unfold Lh at g2;refine⟨if Eg z c && under n c.name && (decide (b=[])||decide ((lbl c.name).length<(lbl b).length)) then c.name else b,?_,Ex4 hI,rfl⟩;by_cases h1:c.typ=2
   ·have k1:=Mr c.name z.origin g2 g1;have k2:=Gy n c.name hn g2;rcases Bl (Fl c.name z.origin) with h3|h3
    ·rcases Bl (under n c.name) with h4|h4
     ·rw[h3] at k1;rw[h4] at k2;by_cases h5:b=[]
      ·simp(disch:=omega)only[pw,hc,h1,h3,h4,h5,k1,k2,Ab,simprocAttr];simp[Eg,h1,h3,h4,h5]
      ·have hb:=hI.resolve_left h5;have k3:=J2 c.name g2;have k4:=J2 b (by have:=Gc (C2.1 hb).2.1;omega);by_cases h6:(lbl c.name).length<(lbl b).length
       ·have h8:((lbl c.name).length:Int)<((lbl b).length:Int):=by omega
        simp(disch:=omega)only[pw,hc,h1,h3,h4,h5,h8,k1,k2,k3,k4,Ab,simprocAttr];simp[Eg,h1,h3,h4,h5,h6]
       ·have h8:¬((lbl c.name).length:Int)<((lbl b).length:Int):=by omega
        simp(disch:=omega)only[pw,hc,h1,h3,h4,h5,h8,k1,k2,k3,k4,Ab,simprocAttr];simp[Eg,h1,h3,h4,h5,h6]
     ·rw[h3] at k1;rw[h4] at k2;simp(disch:=omega)only[pw,hc,h1,h3,h4,k1,k2,Ab,simprocAttr];simp[Eg,h1,h3,h4]
    ·rw[h3] at k1;simp(disch:=omega)only[pw,hc,h1,h3,k1,Ab,simprocAttr];simp[Eg,h1,h3]
   ·simp(disch:=omega)only[pw,hc,h1,Ab,simprocAttr];simp[Eg,h1]
  ·simp(disch:=omega)only[pw,Ab,simprocAttr];simp[c6,Out.goes]
 rw[show c6 z n [] z.recs=cutN z n from rfl] at key;simp(disch:=omega)only[pw,key,Ab,simprocAttr]
 try simp
def o3 (x:List UInt8):List (List UInt8)→List (List UInt8)
 |[]=>[x]
 |y::r=>if Jp y x<0 then y::o3 x r else if y=x then y::r else x::y::r
def N3 (x:List UInt8):List (List UInt8)→Nat
 |[]=>0
 |y::r=>if Jp y x<0 then N3 x r+1 else 0
def Bh7 (x:List UInt8):∀l,N3 x l≤l.length
 |[]=>B7 _
 |y::r=>by have:=Bh7 x r;simp only[N3];split<;>simp;omega
def Eq5 (x:List UInt8):∀(l:List (List UInt8)),o3 x l=match l[N3 x l]? with
  |some y=>if y=x then l else l.take (N3 x l)++[x]++l.drop (N3 x l)
  |none=>l.take (N3 x l)++[x]++l.drop (N3 x l)
 |[]=>rfl
 |y::r=>by
  simp only[o3,N3];by_cases h:Jp y x<0
  ·simp only[if_pos h,E1];rw[Eq5 x r];cases h2:r[N3 x r]? with
   |none=>simp
   |some z=>by_cases h3:z=x<;>simp[h3]
  ·simp only[if_neg h,Dh];by_cases h3:y=x<;>simp[h3]
def Bl4 (x:List UInt8):∀l,(o3 x l).length≤l.length+1
 |[]=>by simp[o3]
 |y::r=>by
  have:=Bl4 x r;simp only[o3];split
  ·simp;omega
  ·split<;>simp
def insN_mem (x z:List UInt8):∀(l:List (List UInt8)),z∈o3 x l↔z=x∨z∈l
 |[]=>by simp[o3]
 |y::r=>by
  have ih:=insN_mem x z r;simp only[o3];split
  ·simp only[Cj,ih];grind
  ·split
   ·rename_i h;subst h;simp only[Cj];grind
   ·simp only[Cj]
def Zx (x:List UInt8):∀(l:List (List UInt8)),l.Pairwise ltN→(o3 x l).Pairwise ltN
 |[],_=>by simp[o3]
 |y::r,h=>by
  obtain⟨h1,h2⟩:=Cd.1 h;have ih:=Zx x r h2;simp only[o3];by_cases c:Jp y x<0
  ·rw[if_pos c];refine Cd.2 ⟨fun w hw=> ?_,ih⟩;rcases (insN_mem x w r).1 hw with rfl|hw
   ·exact(Gs _ _).1 c
   ·exact h1 w hw
  ·rw[if_neg c];by_cases e:y=x
   ·rw[if_pos e];exact h
   ·rw[if_neg e];have hxy:ltN x y:=by
     rcases to_N.tri x y with q|q|q
     ·exact q
     ·exact absurd q.symm e
     ·exact absurd ((Gs _ _).2 q) c
    refine Cd.2 ⟨fun w hw=> ?_,h⟩;rcases Cj.1 hw with rfl|hw
    ·exact hxy
    ·exact to_N.tr _ _ _ hxy (h1 w hw)
def Dg4 (l:List (List UInt8)):List (List UInt8):=l.foldl (fun a x=>o3 x a) []
def Yn (l:List (List UInt8)):Dg4 l=setN l:=by
 have:∀(l a:List (List UInt8)),a.Pairwise ltN→(l.foldl (fun a x=>o3 x a) a).Pairwise ltN∧∀z,z∈l.foldl (fun a x=>o3 x a) a↔z∈a∨z∈l:=by
  intro l
  induction l with
  |nil=>intro a h;exact⟨h,fun z=>by simp⟩
  |cons x r ih=>
   intro a h;obtain⟨h1,h2⟩:=ih (o3 x a) (Zx x a h);refine⟨h1,fun z=> ?_⟩;rw[List.foldl_cons,h2,insN_mem,Cj]
   grind
 obtain⟨h1,h2⟩:=this l [] List.Pairwise.nil;exact Yv to_N _ _ h1 (Q8 l) fun x=>by rw[M4];rw[Dg4,h2 x];simp
def Eg8 (l:List Rec) (g:List (List UInt8)) (i:Nat) (x:Rec) (hx:l[i]? =some x) (hw:x.name.length≤9223372036854775807) (hg:∀r∈g,r.length≤9223372036854775807) (N:Nat) (hN:g.length<N) (hl:g.length≤1000000):
  Ab1.ev S N [B6 l,Cn g,.i .i64 (i:Int)]=some (.yld 2 [.i .i64 (N3 x.name g:Int)]):=by
 have key:Ab1.ev S N [B6 l,Cn g,.i .i64 (i:Int)]=some (.yld 2 [.i .i64 ((0+N3 x.name g:Nat):Int)]):=by
  refine E2 g (fun k=>[.i .i64 (k:Int)]) (fun k r=> .yld 2 [.i .i64 ((k+N3 x.name r:Nat):Int)]) rfl hN (fun k c r hd hk hc=> ?_) ?_
  ·have h1:=J4 c x.name (hg c (Ck hc)) hw;by_cases h:Jp c x.name<0
   ·left;simp(disch:=omega)only[Vh,hc,hx,h1,h,Ab,simprocAttr];refine⟨trivial,?_⟩;simp only[N3,if_pos h];congr 3;push_cast;omega
   ·right;simp(disch:=omega)only[Vh,hc,hx,h1,Ab,simprocAttr];simp[N3,h,Out.goes]
  ·simp(disch:=omega)only[Vh,Ab,simprocAttr];simp[N3,Out.goes]
 simpa using key
def Eg7 (l:List Rec) (hl:l.length≤1000000) (hw:∀r∈l,r.name.length≤9223372036854775807):S wl 1 [B6 l]=some [Cn (setN (l.map Rec.name))]:=by
 refine Hr4 (N:=l.length+1) rfl ?_;have key:Ej0.ev S (l.length+1) [B6 l]=some (.yld 0 [Cn (Dg4 (l.map Rec.name))]):=by
  refine Ed l (fun i (g:List (List UInt8))=>[Cn g,.i .i64 (i:Int)]) (fun i g r=> .yld 0 [Cn ((r.map Rec.name).foldl (fun acc x=>o3 x acc) g)]) (fun i g=>g.length≤i∧∀r∈g,r.length≤9223372036854775807) [] rfl ⟨B7 _,fun r h=>by cases h⟩ (by omega) (fun i g c r hd hi hc hI=> ?_) (fun g hI=> ?_)
  ·left;obtain⟨h1,h2⟩:=hI;have hcw:=hw c (Ck hc);have h3:=Eg8 l g i c hc hcw h2 (l.length+1) (by omega) (by omega);have h4:=Bh7 c.name g;have h5:=Bl4 c.name g;refine⟨o3 c.name g,?_,⟨by omega,fun r hr=> ?_⟩,rfl⟩
   ·rw[Eq5];cases h6:g[N3 c.name g]? with
    |none=>
     have h7:=Q4.1 h6;have h8:N3 c.name g=g.length:=by omega
     simp(disch:=first|omega|(simp;omega))only[Vh,hc,h3,h8,Ab,simprocAttr];simp
    |some y=>
     have h7:=(Bp.1 h6).1;by_cases h9:y=c.name
     ·simp(disch:=omega)only[Vh,hc,h3,h6,h9,Ab,simprocAttr]
     ·simp(disch:=first|omega|(simp;omega))only[Vh,hc,h3,h6,h9,Ab,simprocAttr];simp
   ·rcases (insN_mem c.name r g).1 hr with h|h
    ·subst h;exact hcw
    ·exact h2 r h
  ·simp(disch:=omega)only[Vh,Ab,simprocAttr];simp[Out.goes]
 rw[Yn] at key;simp(disch:=omega)only[Vh,key,Ab,simprocAttr]
def Ym (n:List UInt8):Rec:=⟨n,0,0,⟨false,0,0,[],[],[],0,0,0,0,0,0,0⟩⟩
def Cx8 (z:Zone) (n:List UInt8):List (List UInt8):=if O0 z n=true then [] else if under n z.origin=true then upN z.origin n else []
def Ax7 (n:List UInt8):(parentN n).length≤254:=by
 unfold parentN;split
 ·rename_i h;exact Tz h.1 1
 ·simp
def Dv3 (z:Zone) (acc:List Rec) (n:List UInt8) (p1 p2 p3 p4:PV) (x:Rec) (i:Nat) (N:Nat) (hx:z.recs[i]? =some x) (hxn:x.name=n) (hn:n.length≤9223372036854775807) (ho:z.origin.length≤9223372036854775807) (ha:acc.length≤1000000) (hN:1000<N) (hp1:p1=B6 acc) (hp2:p2= .i .i64 (i:Int)):
  Dp6.ev S N [z.pv,p1,p2,p3,p4]=some (.yld 2 [B6 (acc++(if under n z.origin=true then upN z.origin n else []).map Ym)]):=by
 subst hp1 hp2;have init:E.evs [z.pv,B6 acc,.i .i64 (i:Int),p3,p4] [(.v 1),(.proj 0 (.idx 16 (.proj 1 (.v 0)) (.v 2))),(.c (.i .i64 (0)))]=some [B6 acc,.s n,.i .i64 0]:=by simp(disch:=omega)only[hx,hxn,Ab,simprocAttr]
 rcases Bl (under n z.origin) with hu|hu
 ·rw[if_pos hu];obtain⟨v1,v2,_⟩:=C2.1 hu;have hlb:=Gl n;have h0:jn ((lbl n).drop 0)=n:=Zk v1;generalize hm:(lbl n).length - (lbl z.origin).length=m at*;have hup:∀k,k≤m→(upN z.origin n)[k]? =some (jn ((lbl n).drop k)):=fun k hk=>Ov (by omega);have hul:(upN z.origin n).length=m+1:=by simp[upN,hm]
  have e0:(upN z.origin n).take (m+1)=upN z.origin n:=E8 (by omega);have:=F7 (fn:=S) (N:=N) (η:=[z.pv,B6 acc,.i .i64 (i:Int),p3,p4]) (id:=3) (init:=[(.v 1),(.proj 0 (.idx 16 (.proj 1 (.v 0)) (.v 2))),(.c (.i .i64 (0)))]) (body:=Bs5) (m+1)
   (fun k=>[B6 (acc++((upN z.origin n).take k).map Ym),.s (if k≤m then jn ((lbl n).drop k) else parentN z.origin),.i .i64 (k:Int)])
   (fun _=> .yld 2 [B6 (acc++(upN z.origin n).map Ym)]) ?_ (by omega) (fun k hk=> ?_) ?_
  ·exact this
  ·rw[init,if_pos (Db _),h0];simp
  ·have hk':k≤m:=by omega
   rw[if_pos hk'];have q4:=Tz v1 k;have hcu:under (jn ((lbl n).drop k)) z.origin=true:=((Lv hu).1 (Ck (hup k hk'))).2;have k2:=Gy (jn ((lbl n).drop k)) z.origin (by omega) ho;have k1:=i7 (jn ((lbl n).drop k)) (by omega);rw[hcu] at k2;have q5:((upN z.origin n).take (k+1)).map Ym=((upN z.origin n).take k).map Ym++[Ym (jn ((lbl n).drop k))]:=by rw[Df,hup k hk',It5];rfl
   have q6:(acc++((upN z.origin n).take k).map Ym).length≤1000300:=by rw[B3,D8,Cq];omega
   by_cases hlt:k<m
   ·left;rw[if_pos (by omega)];obtain⟨q1,q2⟩:=qf hu (k:=k) (by omega);rw[q1,q2] at k1;rw[q5,←Cw];generalize acc++((upN z.origin n).take k).map Ym=a at*;refine⟨?_,rfl⟩;generalize jn ((lbl n).drop (k+1))=nx at*;generalize jn ((lbl n).drop k)=cu at*;simp(disch:=omega)only[Xs,k1,k2,Ym,Ab,simprocAttr]
   ·have ek:k=m:=by omega
    subst ek;rw[if_neg (by omega)];have q3:jn ((lbl n).drop k)=z.origin:=(Sl hu (by omega)).2 (by omega);rw[q3] at k1 k2 q5 ⊢;rcases Bl (Zz z.origin) with hp|hp
    ·left;rw[hp] at k1;rw[q5,←Cw];generalize acc++((upN z.origin n).take k).map Ym=a at*;refine⟨?_,rfl⟩;generalize parentN z.origin=nx at*;simp(disch:=omega)only[Xs,k1,k2,Ym,Ab,simprocAttr]
    ·right;rw[hp] at k1;rw[e0] at q5;rw[q5,←Cw];generalize acc++((upN z.origin n).take k).map Ym=a at*;refine⟨?_,rfl⟩;generalize parentN z.origin=nx at*;simp(disch:=omega)only[Xs,k1,k2,Ym,Ab,simprocAttr]
  ·rw[e0,if_neg (by omega)];refine⟨?_,rfl⟩;have k2:=Gy (parentN z.origin) z.origin (by have:=Ax7 z.origin;omega) ho;rw[Df4 v2] at k2;generalize acc++(upN z.origin n).map Ym=a at*;generalize parentN z.origin=nx at*;simp(disch:=omega)only[Xs,k2,Ab,simprocAttr]
 ·rw[hu];have k2:=Gy n z.origin hn ho;rw[hu] at k2;have:=F7 (fn:=S) (N:=N) (η:=[z.pv,B6 acc,.i .i64 (i:Int),p3,p4]) (id:=3) (init:=[(.v 1),(.proj 0 (.idx 16 (.proj 1 (.v 0)) (.v 2))),(.c (.i .i64 (0)))]) (body:=Bs5) 0
   (fun k=>[B6 acc,.s n,.i .i64 0]) (fun _=> .yld 2 [B6 acc]) init (by omega) (fun k hk=>by omega) ?_
  ·rw[if_neg (by simp),List.map_nil,E3];exact this
  ·refine⟨?_,rfl⟩;simp(disch:=omega)only[Xs,k2,Ab,simprocAttr]
def Bf5 (z:Zone) (x:List UInt8):x∈z.recs.flatMap (fun r=>Cx8 z r.name)↔El7 z x:=by
 unfold El7 Cx8;simp only[List.mem_flatMap];constructor
 ·rintro⟨r,hr,h⟩;rcases Bl (O0 z r.name) with h1|h1
  ·rw[if_pos h1] at h;cases h
  ·rcases Bl (under r.name z.origin) with h2|h2
   ·rw[if_neg (by simp[h1]),if_pos h2] at h;obtain⟨h4,h5⟩:=(Lv h2).1 h;exact⟨r,hr,h2,h1,h4,h5⟩
   ·rw[if_neg (by simp[h1]),if_neg (by simp[h2])] at h;cases h
 ·rintro⟨r,hr,h1,h2,h4,h5⟩;exact⟨r,hr,by rw[if_neg (by simp[h2]),if_pos h1];exact(Lv h1).2 ⟨h4,h5⟩⟩
def Bf6 (z:Zone) (n:List UInt8):(Cx8 z n).length≤256:=by
 unfold Cx8;split
 ·simp
 ·split
  ·exact j5 _ _
  ·simp
def Dg3 (l:List (List UInt8)):(l.map Ym).map Rec.name=l:=by rw[List.map_map];exact(List.map_congr_left fun _ _=>rfl).trans (List.map_id l)
def Rk (z:Zone) (hz:z.wf) (hl:z.recs.length≤1000):S Ay9 1 [z.pv]=some [Cn (namesN z)]:=by
 refine Jc8 (N:=z.recs.length+1001) rfl ?_;have g1:=hz.origin;unfold Lh at g1;have key:Gk7.ev S (z.recs.length+1001) [z.pv]=some (.yld 0 [B6 ([]++(z.recs.flatMap fun r=>Cx8 z r.name).map Ym)]):=by
  refine Ed z.recs (fun i (b:List Rec)=>[B6 b,.i .i64 (i:Int)]) (fun i b r=> .yld 0 [B6 (b++(r.flatMap fun r=>Cx8 z r.name).map Ym)]) (fun i b=>b.length≤256*i) [] rfl (Db _) (by omega) (fun i b c r hd hi hc hI=> ?_) (fun b hI=> ?_)
  ·left;have g2:=(hz.recs.2 c (Ck hc)).name;unfold Lh at g2;have k1:=Ax3 z c.name hz (by omega) g2;have hh:=Ac4 z c.name;have hol:=Bf6 z c.name;refine⟨b++(Cx8 z c.name).map Ym,?_,by rw[B3,D8];omega,by simp⟩;have k5:∀p3 p4,Dp6.ev S (z.recs.length+1001) [z.pv,B6 b,.i .i64 (i:Int),p3,p4]=some (.yld 2 [B6 (b++(if under c.name z.origin=true then upN z.origin c.name else []).map Ym)]):=fun p3 p4=>Dv3 z b c.name _ _ p3 p4 c i _ hc rfl g2 g1 (by omega) (by omega) rfl rfl;unfold Cx8;by_cases h1:cutN z c.name=[]
   ·have h2:O0 z c.name=false:=by rw[hh];simp[h1]
    rw[if_neg (by simp[h2])];rw[h1] at k1;generalize b++(if under c.name z.origin=true then upN z.origin c.name else []).map Ym=b' at*;simp(disch:=omega)only[Xs,hc,k1,k5,Ab,simprocAttr]
    try simp(disch:=omega)only[Xs,hc,k1,k5,ne_eq,not_true,decide_false,Ab,simprocAttr]
   ·by_cases h2:cutN z c.name=c.name
    ·have h3:O0 z c.name=false:=by rw[hh];simp[h2]
     rw[if_neg (by simp[h3])];rw[h2] at k1;have h4:decide (c.name≠[])=true:=by rw[h2] at h1;simpa using h1
     rw[h4] at k1;generalize b++(if under c.name z.origin=true then upN z.origin c.name else []).map Ym=b' at*;simp(disch:=omega)only[Xs,hc,k1,k5,Ab,simprocAttr]
    ·have h3:O0 z c.name=true:=by rw[hh];simp[h1,h2]
     rw[if_pos h3];have h4:decide (cutN z c.name≠[])=true:=by simpa using h1
     rw[h4] at k1;simp(disch:=omega)only[Xs,hc,k1,h2,Ab,simprocAttr]
     try simp
  ·simp(disch:=omega)only[Xs,Ab,simprocAttr];simp[Out.goes]
 rw[Dc] at key;have hxl:(z.recs.flatMap fun r=>Cx8 z r.name).length≤256*z.recs.length:=by
  have:∀l:List Rec,(l.flatMap fun r=>Cx8 z r.name).length≤256*l.length:=by
   intro l
   induction l with
   |nil=>simp
   |cons x r ih=>
    have:=Bf6 z x.name;rw[Jv,B3,Cv];omega
  exact this _
 have hxw:∀x∈z.recs.flatMap fun r=>Cx8 z r.name,x.length≤9223372036854775807:=fun x hx=>by obtain⟨r,hr,_,_,h4,_⟩:=(Bf5 z x).1 hx;have:=Gc (C2.1 h4).2.1;omega
 have he:setN (z.recs.flatMap fun r=>Cx8 z r.name)=namesN z:=Bg2 z _ (Bf5 z);generalize (z.recs.flatMap fun r=>Cx8 z r.name)=un at*;have k6:=Eg7 (un.map Ym) (by rw[D8];omega) (fun r hr=>by obtain⟨x,hx,rfl⟩:=Fc.1 hr;exact hxw x hx)
 rw[Dg3,he] at k6;generalize un.map Ym=ur at*;generalize namesN z=nz at*;simp(disch:=omega)only[Xs,key,k6,Ab,simprocAttr]
end Go.X.G
/- What exists in a zone, and what encloses a name; names with another end. -/
namespace Go.X.G
open Go Go.X
def exB (z:Zone) (x:List UInt8):Bool:=z.recs.any fun r=>under r.name z.origin && !O0 z r.name && under r.name x && under x z.origin
def Tl (z:Zone) (x:List UInt8):exB z x=true↔El7 z x:=by unfold exB El7;simp only[Dz,Br,Cg,and_assoc]
def U7 (z:Zone) (x:List UInt8):decide (x∈namesN z)=exB z x:=by rw[D9,Tl,←U0];simp
def Jk (z:Zone) (hl:z.recs.length≤1000):(namesN z).length≤1000000:=by
 have h1:=W5 (Hq5 z);have h2:∀l:List Rec,(l.flatMap fun r=>upN z.origin r.name).length≤256*l.length:=by
  intro l
  induction l with
  |nil=>simp
  |cons x r ih=>
   have:=j5 z.origin x.name;rw[Jv,B3,Cv];omega
 have h3:=h2 (z.recs.filter fun r=>under r.name z.origin && !O0 z r.name);have h4:=Ef (fun r=>under r.name z.origin && !O0 z r.name) z.recs;show (setN (Hq5 z)).length≤1000000;unfold Hq5 at h1 ⊢;omega
def Bt8 (z:Zone) (n:List UInt8) (hz:z.wf) (hl:z.recs.length≤1000):S Dh0 2 [z.pv,.s n]=some [.b (exB z n)]:=by refine Jb5 (N:=1) rfl ?_;have k1:=Xn z hz hl;have k2:=Wx (namesN z) n (Jk z hl);rw[U7] at k2;generalize namesN z=nz at*;simp(disch:=omega)only[Jq4,k1,k2,Ab,simprocAttr]
def Cq9 (z:Zone) (n:List UInt8) (hz:z.wf) (hl:z.recs.length≤1000):S wz 2 [z.pv,.s n]=some [.b (exB z n)]:=by
 have hn:=Jk z hl;refine Hp7 (N:=(namesN z).length+1) rfl ?_;have k1:=Rk z hz hl;rw[←U7];generalize namesN z=nz at*;have key:Dt7.ev S (nz.length+1) [z.pv,.s n,Cn nz]=some (if n∈nz then .ret [.b true] else .yld 0 []):=by
  refine E2 nz (fun i=>[.i .i64 (i:Int)]) (fun i r=>if n∈r then .ret [.b true] else .yld 0 []) rfl (by omega) (fun i c r hd hi hc=> ?_) ?_
  ·by_cases h:c=n
   ·right;simp(disch:=omega)only[qj,hc,h,Ab,simprocAttr];simp[Out.goes]
   ·left;have h2:¬n=c:=fun e=>h e.symm;simp(disch:=omega)only[qj,hc,h,Ab,simprocAttr];simp[h2]
  ·simp(disch:=omega)only[qj,Ab,simprocAttr];simp[Out.goes]
 by_cases h:n∈nz
 ·rw[if_pos h] at key;simp(disch:=omega)only[qj,k1,key,Ab,simprocAttr]
  try simp[h]
 ·rw[if_neg h] at key;simp(disch:=omega)only[qj,k1,key,Ab,simprocAttr]
  try simp[h]
def Cm6 (z:Zone) (n:List UInt8):Option (List UInt8):=(upN z.origin n).find? (exB z)
def encN (z:Zone) (n:List UInt8):List UInt8:=if under n z.origin=true then(Cm6 z n).getD [] else []
def At3 {n:List UInt8} (h:vld n=true):n≠[]:=fun e=>by subst e;simp[vld,nm] at h
def O5 {z:Zone} {n e:List UInt8} (hu:under n z.origin=true) (h:Cm6 z n=some e):under n e=true∧exB z e=true:=by unfold Cm6 at h;have h1:=List.mem_of_find?_eq_some h;have h2:=List.find?_some h;exact⟨((Lv hu).1 h1).1,h2⟩
def Vd (z:Zone) (n:List UInt8) (hz:z.wf) (hl:z.recs.length≤1000) (hn:n.length≤9223372036854775807):S Cz2 2 [z.pv,.s n]=some [.s (encN z n),.b (decide (encN z n≠[]))]:=by
 refine Jc3 (N:=1000) rfl ?_;have g1:=hz.origin;unfold Lh at g1;have k0:=Gj n z.origin hn g1;unfold encN;rcases Bl (under n z.origin) with hu|hu
 ·rw[if_pos hu];rw[hu] at k0;have k1:=Xn z hz hl;have hnl:=Jk z hl;have k2:∀x,S bg 2 [Cn (namesN z),.s x]=some [.b (exB z x)]:=fun x=>by rw[←U7];exact Wx (namesN z) x hnl
  generalize namesN z=nz at*;obtain⟨v1,v2,_⟩:=C2.1 hu;have hlb:=Gl n;have h0:jn ((lbl n).drop 0)=n:=Zk v1;let res:Option (List UInt8)→Out:=fun o=>match o with|some e=> .yld 0 [.s e]|none=> .ret [.s [],.b false]
  have key:Gk3.ev S 1000 [z.pv,.s n,.b true,Cn nz]=some (res (Cm6 z n)):=by
   have:=F7 (fn:=S) (N:=1000) (η:=[z.pv,.s n,.b true,Cn nz]) (id:=1) (init:=[(.v 1)]) (body:=Ed8) ((lbl n).length - (lbl z.origin).length)
    (fun k=>[.s (jn ((lbl n).drop k))]) (fun k=>res (((upN z.origin n).drop k).find? (exB z))) ?_ (by omega) (fun k hk=> ?_) ?_
   ·exact this
   ·rw[h0];simp(disch:=omega)only[Ab,simprocAttr]
   ·have hup:(upN z.origin n)[k]? =some (jn ((lbl n).drop k)):=Ov (Nat.le_of_lt hk);have hd:(upN z.origin n).drop k=jn ((lbl n).drop k)::(upN z.origin n).drop (k+1):=by obtain⟨h1,h2⟩:=Bp.1 hup;rw[Dy h1,h2]
    obtain⟨q1,q2⟩:=qf hu hk;have q3:¬jn ((lbl n).drop k)=z.origin:=fun h=>by have:=(Sl hu (Nat.le_of_lt hk)).1 h;omega
    have q4:=Tz v1 k;have k1:=Qy (jn ((lbl n).drop k)) (by omega);rw[q1,q2] at k1;have k3:=k2 (jn ((lbl n).drop k));rw[hd];generalize jn ((lbl n).drop (k+1))=nx at*;generalize jn ((lbl n).drop k)=cu at*;rcases Bl (exB z cu) with h5|h5
    ·right;rw[h5] at k3;rw[jx h5];refine⟨?_,rfl⟩;simp(disch:=omega)only[Aq3,k3,Ab,simprocAttr];rfl
    ·left;rw[h5] at k3;rw[jy (by simp[h5])];refine⟨?_,rfl⟩;simp(disch:=omega)only[Aq3,k1,k3,q3,Ab,simprocAttr]
   ·have hup:(upN z.origin n)[(lbl n).length - (lbl z.origin).length]? =some (jn ((lbl n).drop ((lbl n).length - (lbl z.origin).length))):=Ov (B7 _);have hd:(upN z.origin n).drop ((lbl n).length - (lbl z.origin).length)=[jn ((lbl n).drop ((lbl n).length - (lbl z.origin).length))]:=by obtain⟨h1,h2⟩:=Bp.1 hup;have h9:(upN z.origin n).drop ((lbl n).length - (lbl z.origin).length+1)=[]:=Jx (by simp[upN]);rw[Dy h1,h2,h9]
    have q3:=(Sl hu (B7 _)).2 rfl;rw[hd,q3];have k3:=k2 z.origin;rcases Bl (exB z z.origin) with h5|h5
    ·rw[h5] at k3;rw[jx h5];refine⟨?_,rfl⟩;simp(disch:=omega)only[Aq3,k3,Ab,simprocAttr];rfl
    ·rw[h5] at k3;rw[jy (by simp[h5]),List.find?_nil];refine⟨?_,rfl⟩;simp(disch:=omega)only[Aq3,k3,Ab,simprocAttr];rfl
  cases he:Cm6 z n with
  |none=>
   rw[he] at key;simp only[res] at key;simp(disch:=omega)only[Aq3,k0,k1,key,Ab,simprocAttr];simp
  |some e=>
   rw[he] at key;simp only[res] at key;have h6:=At3 (C2.1 (O5 hu he).1).2.1;simp(disch:=omega)only[Aq3,k0,k1,key,Ab,simprocAttr];simp[h6]
 ·rw[if_neg (by simp[hu])];rw[hu] at k0;simp(disch:=omega)only[Aq3,k0,Ab,simprocAttr]
  try simp
def bestF (n:List UInt8):List UInt8→List (List UInt8)→List UInt8
 |b,[]=>b
 |b,x::r=>bestF n (if under n x && (decide (b=[])||decide ((lbl b).length<(lbl x).length)) then x else b) r
def Xb (n:List UInt8):∀(l:List (List UInt8)) (b:List UInt8),(b=[]∨under n b=true)→
  (bestF n b l=[]→b=[]∧∀x∈l,under n x=false)∧
  (bestF n b l≠[]→under n (bestF n b l)=true∧(bestF n b l=b∨bestF n b l∈l)∧(b≠[]→(lbl b).length≤(lbl (bestF n b l)).length)∧∀x∈l,under n x=true→(lbl x).length≤(lbl (bestF n b l)).length)
 |[],b,hb=>by simp only[bestF];refine⟨fun h=>⟨h,fun r hr=>by simp at hr⟩,fun h=>⟨hb.resolve_left h,.inl trivial,fun _=>B7 _,fun r hr=>by simp at hr⟩⟩
 |x::rs,b,hb=>by
  simp only[bestF];have hne:under n x=true→x≠[]:=fun h=>At3 (C2.1 h).2.1;by_cases hc:(under n x && (decide (b=[])||decide ((lbl b).length<(lbl x).length)))=true
  ·rw[if_pos hc];simp only[Br,Cy,decide_eq_true_eq] at hc;obtain⟨c2,c3⟩:=hc;obtain⟨h1,h2⟩:=Xb n rs x (.inr c2);refine⟨fun h=>absurd (h1 h).1 (hne c2),fun h=> ?_⟩;obtain⟨g1,g2,g3,g4⟩:=h2 h;refine⟨g1,.inr ?_,fun hb0=> ?_,fun y hy hy2=> ?_⟩
   ·rcases g2 with g2|g2
    ·rw[g2];exact .head _
    ·exact .tail _ g2
   ·have:=g3 (hne c2);rcases c3 with c3|c3
    ·exact absurd c3 hb0
    ·omega
   ·rcases Cj.1 hy with rfl|hy
    ·exact g3 (hne c2)
    ·exact g4 y hy hy2
  ·rw[if_neg hc];obtain⟨h1,h2⟩:=Xb n rs b hb;have hr:under n x=true→b≠[]∧(lbl x).length≤(lbl b).length:=by intro c2;simp only[c2,Uj,Cy,decide_eq_true_eq,not_or,Nat.not_lt] at hc;exact hc
   refine⟨fun h=> ?_,fun h=> ?_⟩
   ·obtain⟨g1,g2⟩:=h1 h;refine⟨g1,fun y hy=> ?_⟩;rcases Cj.1 hy with rfl|hy
    ·rcases Bl (under n y) with h3|h3
     ·exact absurd g1 (hr h3).1
     ·exact h3
    ·exact g2 y hy
   ·obtain⟨g1,g2,g3,g4⟩:=h2 h;refine⟨g1,?_,g3,fun y hy hy2=> ?_⟩
    ·rcases g2 with g2|g2
     ·exact .inl g2
     ·exact .inr (.tail _ g2)
    ·rcases Cj.1 hy with rfl|hy
     ·obtain⟨q1,q2⟩:=hr hy2;have:=g3 q1;omega
     ·exact g4 y hy hy2
def Pl {a b c:List UInt8} (h1:under a b=true) (h2:under b c=true):under a c=true:=by obtain⟨v1,_,s1⟩:=C2.1 h1;obtain⟨_,v3,s2⟩:=C2.1 h2;exact C2.2 ⟨v1,v3,s2.trans s1⟩
def zm (z:Zone) (n:List UInt8):bestF n [] (namesN z)=encN z n:=by
 obtain⟨h1,h2⟩:=Xb n (namesN z) [] (.inl rfl);have hin:∀x,x∈namesN z↔exB z x=true:=fun x=>by rw[←U7];simp
 have hor:∀x,exB z x=true→under x z.origin=true:=fun x hx=>by obtain⟨_,_,_,_,_,h⟩:=(Tl z x).1 hx;exact h
 unfold encN;by_cases hb:bestF n [] (namesN z)=[]
 ·have:=(h1 hb).2;rw[hb];rcases Bl (under n z.origin) with hu|hu
  ·rw[if_pos hu];cases he:Cm6 z n with
   |none=>rfl
   |some e=>
    obtain⟨g1,g2⟩:=O5 hu he;have:=this e ((hin e).2 g2);rw[g1] at this;cases this
  ·rw[if_neg (by simp[hu])]
 ·obtain⟨g1,g2,_,g4⟩:=h2 hb;have g3:exB z (bestF n [] (namesN z))=true:=(hin _).1 (g2.resolve_left hb);have hu:under n z.origin=true:=Pl g1 (hor _ g3);rw[if_pos hu];generalize bestF n [] (namesN z)=b at*;have hm:b∈upN z.origin n:=(Lv hu).2 ⟨g1,hor _ g3⟩;cases he:Cm6 z n with
  |none=>
   unfold Cm6 at he;rw[List.find?_eq_none] at he;exact absurd g3 (he b hm)
  |some e=>
   obtain⟨q1,q2⟩:=O5 hu he;have q3:=g4 e ((hin e).2 q2) q1;have q4:(lbl b).length≤(lbl e).length:=by
    unfold Cm6 at he;obtain⟨_,pa,pb,he2,he3⟩:=List.find?_eq_some_iff_append.1 he;obtain⟨v1,v2,vs⟩:=C2.1 hu;have hbm:=hm;rw[he2] at hbm;rcases Dw.1 hbm with hbm|hbm
    ·have:=he3 b hbm;rw[g3] at this;cases this
    ·rcases Cj.1 hbm with rfl|hbm
     ·exact B7 _
     ·obtain⟨j,hj⟩:=Er hbm;have e1:(upN z.origin n)[pa.length]? =some e:=by rw[he2,Cc (B7 _)];simp
      have e2:(upN z.origin n)[pa.length+1+j]? =some b:=by rw[he2,Cc (by omega),show pa.length+1+j - pa.length=j+1 by omega];simpa using hj
      have l2:=(Bp.1 e2).1;rw[show (upN z.origin n).length=(lbl n).length - (lbl z.origin).length+1 by simp[upN]] at l2;rw[Ov (by omega)] at e1 e2;injection e1 with e1;injection e2 with e2;rw[←e1,←e2,(L2 v1 _).2,(L2 v1 _).2,C7,C7];omega
   obtain⟨_,vb,sb⟩:=C2.1 g1;obtain⟨_,ve,se⟩:=C2.1 q1;rw[G1] at sb se;show b=e;refine On vb ve ?_;rw[sb,se,Nat.le_antisymm q4 q3]
def Vr (z:Zone) (n:List UInt8) (hz:z.wf) (hl:z.recs.length≤1000) (hn:n.length≤9223372036854775807):S Cz1 2 [z.pv,.s n]=some [.s (encN z n),.b (decide (encN z n≠[]))]:=by
 have hnl:=Jk z hl;refine Jb8 (N:=(namesN z).length+1) rfl ?_;have k1:=Rk z hz hl;have hv:∀x∈namesN z,x.length≤254:=fun x hx=>by obtain⟨_,_,_,_,_,h⟩:=(U0 z x).1 hx;exact Gc (C2.1 h).1
 rw[←zm];generalize namesN z=nz at*;have key:Gk0.ev S (nz.length+1) [z.pv,.s n,Cn nz]=some (.yld 0 [.s (bestF n [] nz)]):=by
  refine Ed nz (fun i (b:List UInt8)=>[.s b,.i .i64 (i:Int)]) (fun i b r=> .yld 0 [.s (bestF n b r)]) (fun i b=>b.length≤254) [] rfl (by simp) (by omega) (fun i b c r hd hi hc hI=> ?_) (fun b hI=> ?_)
  ·left;have g2:=hv c (Ck hc);have k2:=Gy n c hn (by omega);refine⟨if under n c && (decide (b=[])||decide ((lbl b).length<(lbl c).length)) then c else b,?_,by split<;>omega,rfl⟩;rcases Bl (under n c) with h1|h1
   ·rw[h1] at k2;by_cases h2:b=[]
    ·simp(disch:=omega)only[Cj0,hc,h1,h2,k2,Ab,simprocAttr];simp
    ·have k3:=J2 b (by omega);have k4:=J2 c (by omega);by_cases h3:(lbl b).length<(lbl c).length
     ·have h4:((lbl b).length:Int)<((lbl c).length:Int):=by omega
      simp(disch:=omega)only[Cj0,hc,h1,h2,h4,k2,k3,k4,Ab,simprocAttr];simp[h3,h2]
     ·have h4:¬((lbl b).length:Int)<((lbl c).length:Int):=by omega
      simp(disch:=omega)only[Cj0,hc,h1,h2,h4,k2,k3,k4,Ab,simprocAttr];simp[h3,h2]
   ·rw[h1] at k2;simp(disch:=omega)only[Cj0,hc,h1,k2,Ab,simprocAttr];simp
  ·simp(disch:=omega)only[Cj0,Ab,simprocAttr];simp[bestF,Out.goes]
 generalize bestF n [] nz=be at*;simp(disch:=omega)only[Cj0,k1,key,Ab,simprocAttr]
 try simp
end Go.X.G
/- Records with names and texts of at most 300 bytes. -/
namespace Go.X.G
open Go Go.X
def c3 (s:List UInt8):List UInt8:=s.take 300
end Go.X.G
/- The laws of zones: what they call. -/
namespace Go.X.G
open Go Go.X
def Ev (o:List UInt8) (l:List Rec):PV.a [.s o,B6 l]=Zone.pv ⟨o,l⟩:=rfl
def Ep (z:Zone):(⟨z.origin,z.recs⟩:Zone)=z:=rfl
end Go.X.G
/- Names with another end; redirections; what records of a name say. -/
namespace Go.X
structure Res where
 kind:Int
 owner:List UInt8
 wild:Bool
 target:List UInt8
 recs:List Rec
 deriving DecidableEq
def Res.cells (x:Res):List PV:=[.i .i64 x.kind,.s x.owner,.b x.wild,.s x.target,B6 x.recs]
def Res.pv (x:Res):PV:= .a x.cells
def Dy7 (x:Res):Dk 0 x.pv=some (.i .i64 x.kind):=rfl
def Dy6 (x:Res):Dk 1 x.pv=some (.s x.owner):=rfl
def Dy5 (x:Res):Dk 2 x.pv=some (.b x.wild):=rfl
def Dy4 (x:Res):Dk 3 x.pv=some (.s x.target):=rfl
def Dy3 (x:Res):Dk 4 x.pv=some (B6 x.recs):=rfl
def Gc3 (x:Res):My 0 5 x.pv=some x.pv:=rfl
def Gn0 (x:Res):Wd 5 x.pv=some x.pv:=rfl
def Fg2 (k:Int) (o:List UInt8) (w:Bool) (t:List UInt8) (l:List Rec):PV.a [.i .i64 k,.s o,.b w,.s t,B6 l]=Res.pv ⟨k,o,w,t,l⟩:=rfl
def sj (l:List Rec) (k:IntKind) (z:Int) (n:List UInt8) (x:Rec) (h0:0≤z) (h3:l[z.toNat]? =some x):
  Q7 16 0 [.s n] (B6 l) (.i k z)=some (B6 (l.set z.toNat {x with name:=n})):=by
 have h4:(l.map Rec.pv)[z.toNat]? =some x.pv:=by rw[C4,h3];rfl
 simp only[Q7,B6,h0,h4,and_self,if_true,B0];have h5:Q9 x.pv 0 [.s n]=some (Rec.pv {x with name:=n}):=rfl;rw[h5];simp[List.map_set]
set_option linter.defProp false in
def EVR:=(And.intro @Dy7 (And.intro @Dy6 (And.intro @Dy5 (And.intro @Dy4 (And.intro @Dy3 (And.intro @Gc3 (And.intro @Gn0 @Fg2)))))))
end Go.X
namespace Go.X.G
open Go Go.X
def replL (n top to:List UInt8):List (List UInt8):=(lbl n).take ((lbl n).length - (lbl top).length)++lbl to
def replN (n top to:List UInt8):List UInt8×Int:=
 if vld n=true∧vld top=true∧vld to=true∧(lbl to)[0]? ≠some [42] then
  if under n top=true∧n≠top then
   if(flat (replL n top to)).length≤254 then(flat (replL n top to),0) else([],9)
  else([],1)
 else([],2)
def yc {l:List (List UInt8)} (h:Hg true l=true) (h2:l[0]? ≠some [42]):Hg false l=true:=by
 cases l with
 |nil=>rfl
 |cons p r=>
  simp only[Hg,Br] at h ⊢;refine⟨⟨h.1.1,?_⟩,h.2⟩;have:p≠[42]:=fun e=>h2 (by rw[e];rfl);simp[this]
def dm {n top to:List UInt8} (hu:under n top=true) (hne:n≠top) (ht:vld to=true) (hs:(lbl to)[0]? ≠some [42]):Hg true (replL n top to)=true∧replL n top to≠[]∧(lbl n).take ((lbl n).length - (lbl top).length)≠[]:=by
 obtain⟨vn,vt,sf⟩:=C2.1 hu;have hlt:(lbl top).length<(lbl n).length:=by
  have:=sf.length_le;rcases Nat.lt_or_ge (lbl top).length (lbl n).length with h|h
  ·exact h
  ·exact absurd (K5 hu h) hne
 have h1:(lbl n).take ((lbl n).length - (lbl top).length)≠[]:=by intro e;have:=congrArg List.length e;rw[Cq,C3] at this;omega
 have h2:Hg true ((lbl n).take ((lbl n).length - (lbl top).length))=true:=by have:=Sf vn;rw[←C9 ((lbl n).length - (lbl top).length) (lbl n),Tc,Br] at this;exact this.1
 refine⟨?_,by unfold replL;simp[h1],h1⟩;unfold replL;rw[Tc,h2,List.isEmpty_eq_false_iff.2 h1];simp[yc (Sf ht) hs]
def Ev1 {l:List (List UInt8)} (h:Hg true l=true):∀x∈l,x.length≤1000:=fun x hx=>by have:=U6 (Hc h hx);omega
def Ax2 (n top to:List UInt8) (hn:n.length≤9223372036854775807) (ht:top.length≤9223372036854775807) (hto:to.length≤9223372036854775807):S wb 3 [.s n,.s top,.s to]=some [.s (replN n top to).1,.i .i64 (replN n top to).2]:=by
 refine Hp8 (N:=1) rfl ?_;have k1:=split_ok n hn;have k2:=split_ok top ht;have k3:=split_ok to hto;have k4:=Gy n top hn ht;have l1:=Gl n;have l2:=Gl top;have l3:=Gl to;unfold replN;rcases Bl (vld n) with v1|v1
 ·rcases Bl (vld top) with v2|v2
  ·rcases Bl (vld to) with v3|v3
   ·rw[v1] at k1;rw[v2] at k2;rw[v3] at k3;have tail:(lbl to)[0]? ≠some [42]→T.ev S 1 Ag4 [.s n,.s top,.s to,Cn (lbl n),.b true,Cn (lbl top),.b true,Cn (lbl to),.b true]=some (.ret (if under n top=true∧n≠top then(if(flat (replL n top to)).length≤254 then [.s (flat (replL n top to)),.i .i64 0] else [.s [],.i .i64 9]) else [.s [],.i .i64 1])):=by
     intro hs;rcases Bl (under n top) with hu|hu
     ·rw[hu] at k4;have hle:=(C2.1 hu).2.2.length_le;by_cases he:n=top
      ·have h5:((lbl n).length:Int)=((lbl top).length:Int):=by rw[he]
       rw[if_neg (by simp[he])];simp(disch:=omega)only[Qf,k4,h5,Ab,simprocAttr]
      ·rw[if_pos ⟨hu,he⟩];obtain⟨q1,q2,q3⟩:=dm hu he v3 hs;have h5:¬((lbl n).length:Int)=((lbl top).length:Int):=by intro h;exact he (K5 hu (by omega))
       have h6:I7 1 (Cn (lbl n)) (.i .i64 0) (.i .i64 (((lbl n).length:Int) - ((lbl top).length:Int)))=some (Cn ((lbl n).take ((lbl n).length - (lbl top).length))):=by
        rw[L5 _ _ _ _ _ (by omega) (by omega) (by omega)];have:(((lbl n).length:Int) - ((lbl top).length:Int)).toNat=(lbl n).length - (lbl top).length:=by omega
        rw[this];simp
       have h7:J1 1 (Cn []) (Cn ((lbl n).take ((lbl n).length - (lbl top).length)))=some (Cn ((lbl n).take ((lbl n).length - (lbl top).length))):=by have:=Xc [] ((lbl n).take ((lbl n).length - (lbl top).length)) (by rw[Cq];simp;omega);simpa using this
       have h8:J1 1 (Cn ((lbl n).take ((lbl n).length - (lbl top).length))) (Cn (lbl to))=some (Cn (replL n top to)):=Xc _ _ (by rw[Cq];omega);have hrl:(replL n top to).length≤1000:=by unfold replL;rw[B3,Cq];omega
       have h9:=Dg5 (replL n top to) hrl (Ev1 q1);have hj:jn (replL n top to)=flat (replL n top to):=by unfold jn;rw[if_neg q2]
       rw[hj] at h9;have hfl:(flat (replL n top to)).length≤1000000:=by
        have:∀l:List (List UInt8),(∀x∈l,x.length≤999)→(flat l).length≤1000*l.length:=by
         intro l
         induction l with
         |nil=>intro _;simp[flat]
         |cons x r ih=>
          intro h;have a1:=ih fun y hy=>h y (.tail _ hy);have a2:=h x (.head _);rw[Ml,B3,Cv,Cv];omega
        have:=this (replL n top to) (fun x hx=>by have:=U6 (Hc q1 hx);omega);omega
       have h10:=Gx (flat (replL n top to)) (by omega);generalize (lbl n).take ((lbl n).length - (lbl top).length)=th at*;by_cases hlen:(flat (replL n top to)).length≤254
       ·rw[if_pos hlen];have hv:=(Fr9 q1 hlen).1;rw[hj] at hv;rw[hv] at h10;generalize replL n top to=rl at*;simp(disch:=omega)only[Qf,k4,h5,h6,h7,h8,h9,h10,Ab,simprocAttr]
       ·rw[if_neg hlen];have hv:vld (flat (replL n top to))=false:=by
         rcases Bl (vld (flat (replL n top to))) with h|h
         ·exact absurd (Gc h) hlen
         ·exact h
        rw[hv] at h10;generalize replL n top to=rl at*;simp(disch:=omega)only[Qf,k4,h5,h6,h7,h8,h9,h10,Ab,simprocAttr]
     ·rw[hu] at k4;rw[if_neg (by simp[hu])];simp(disch:=omega)only[Qf,k4,Ab,simprocAttr]
    cases hq:lbl to with
    |nil=>
     rw[hq] at k3 tail;have ht:=tail (by simp);rw[if_pos ⟨v1,v2,v3,by simp⟩];simp(disch:=first|omega|(simp;omega))only[↓ht,Qf,k1,k2,k3,Ab,simprocAttr];split<;>(try split)<;>rfl
    |cons p r=>
     rw[hq] at k3 tail;have h6:0<((p::r).length:Int):=by simp only[Cv];omega
     by_cases h7:p=[42]
     ·subst h7;rw[if_neg (by simp)];simp(disch:=first|omega|(simp only[Cv];omega))only[Qf,k1,k2,k3,Ab,simprocAttr]
     ·have ht:=tail (by simpa using h7);rw[if_pos ⟨v1,v2,v3,by simpa using h7⟩];simp(disch:=first|omega|(simp only[Cv];omega))only[↓ht,Qf,k1,k2,k3,h7,Ab,simprocAttr];split<;>(try split)<;>rfl
   ·rw[if_neg (by simp[v3])];rw[v1] at k1;rw[v2] at k2;rw[v3] at k3;simp(disch:=omega)only[Qf,k1,k2,k3,Ab,simprocAttr]
  ·rw[if_neg (by simp[v2])];rw[v1] at k1;rw[v2] at k2;simp(disch:=omega)only[Qf,k1,k2,k3,Ab,simprocAttr]
 ·rw[if_neg (by simp[v1])];rw[v1] at k1;simp(disch:=omega)only[Qf,k1,k2,k3,Ab,simprocAttr]
def od (s t:List UInt8) (hs:s.length≤9223372036854775807) (h:t.isSuffixOf s=true):S vv 2 [.s s,.s t]=some [.s (s.take (s.length - t.length))]:=by
 have hle:t.length≤s.length:=(G6.1 h).length_le;have k1:=T5 s t hs;rw[h] at k1;have k2:S um 2 [.s s,.s t]=some [.s (s.take (s.length - t.length))]:=by
  refine Hg5 (N:=1) rfl ?_;have h6:Ck4 (.s s) (.i .i64 0) (.i .i64 ((s.length:Int) - (t.length:Int)))=some (.s (s.take (s.length - t.length))):=by
   rw[Hc1 _ _ _ _ _ (by omega) (by omega) (by omega)];have:((s.length:Int) - (t.length:Int)).toNat=s.length - t.length:=by omega
   rw[this];simp
  simp(disch:=omega)only[Hv1,k1,h6,Ab,simprocAttr]
 refine Hl6 (N:=1) rfl ?_;simp(disch:=omega)only[Hw4,k2,Ab,simprocAttr]
def Aq0 (n top to:List UInt8) (hn:n.length≤9223372036854775807) (ht:top.length≤9223372036854775807) (hto:to.length≤9223372036854775807):S wx 3 [.s n,.s top,.s to]=some [.s (replN n top to).1,.i .i64 (replN n top to).2]:=by
 refine Hp4 (N:=1) rfl ?_;have k1:=Dq n hn;have k2:=Dq top ht;have k3:=Dq to hto;unfold replN;rcases Bl (vld n) with v1|v1
 ·rcases Bl (vld top) with v2|v2
  ·rcases Bl (vld to) with v3|v3
   ·rw[v1] at k1;rw[v2] at k2;rw[v3] at k3;have hp:=Sd v3;have hsf:=Uf v3;obtain⟨c,hc⟩:∃c,to[0]? =some c:=⟨_,Bs hp⟩;rw[hc] at hsf;by_cases hs:c=42
    ·rw[if_neg (by rw[hs] at hsf;simp[hsf.1 rfl])];subst hs;simp(disch:=omega)only[N8,k1,k2,k3,hc,Ab,simprocAttr]
     try simp
    ·have hs':(lbl to)[0]? ≠some [42]:=fun e=>hs (by have:=hsf.2 e;simpa using this);have hcc:¬(c.toNat:Int)=42:=fun e=>hs (by apply UInt8.toNat.inj;have:(42:UInt8).toNat=42:=rfl;omega)
     rw[if_pos ⟨v1,v2,v3,hs'⟩];have tl:=Gc v2;have k4:=mm n top hn (by omega);rw[dx v1 v2] at k4;by_cases he:n=top
     ·rw[if_neg (by simp[he])];simp(disch:=omega)only[N8,k1,k2,k3,hc,hcc,he,Ab,simprocAttr]
     ·rcases Bl (under n top) with hu|hu
      ·rw[hu] at k4;rw[if_pos ⟨hu,he⟩];obtain⟨q1,q2,q3⟩:=dm hu he v3 hs';have nl:=Gc v1;have tol:=Gc v3;have hnr:n≠[46]:=by rintro rfl;have:=(C2.1 hu).2.2.length_le;rw[K2] at this;exact he (On v1 v2 (by rw[K2];exact(List.length_eq_zero_iff.1 (by simpa using this)).symm))
       have hnf:n=flat (lbl n):=by have:=Oj v1;unfold jn at this;rwa[if_neg (fun h=>hnr ((Nq v1).1 h))] at this
       have hsp:lbl n=(lbl n).take ((lbl n).length - (lbl top).length)++lbl top:=by
        have:=(C2.1 hu).2.2;rw[G1] at this
        conv=>lhs;rw[←C9 ((lbl n).length - (lbl top).length) (lbl n)]
        rw[←this]
       have hhead:∃hd,hd=flat ((lbl n).take ((lbl n).length - (lbl top).length))∧hd.length≤254∧∀p3 p4 p5 p6,Ag5.ev S 1 [.s n,.s top,.s to,p3,p4,p5,p6]=some (.yld 0 [.s hd]):=by
        refine⟨_,rfl,?_,fun p3 p4 p5 p6=> ?_⟩
        ·have:(flat (lbl n)).length≤254:=by rw[←hnf];exact nl
         rw[hsp,P7,B3] at this;omega
        ·by_cases hr:top=[46]
         ·subst hr;rw[K2,E3] at hsp;rw[K2,←hsp,←hnf];simp(disch:=omega)only[N8,Ab,simprocAttr]
         ·have htf:top=flat (lbl top):=by have:=Oj v2;unfold jn at this;rwa[if_neg (fun h=>hr ((Nq v2).1 h))] at this
          have hna:n=flat ((lbl n).take ((lbl n).length - (lbl top).length))++top:=by
           conv=>lhs;rw[hnf,hsp,P7]
           rw[←htf]
          have hsuf:top.isSuffixOf n=true:=G6.2 ⟨_,hna.symm⟩;have k5:=od n top hn hsuf;have htk:n.take (n.length - top.length)=flat ((lbl n).take ((lbl n).length - (lbl top).length)):=by
           conv=>lhs;rw[hna]
           rw[B3,Kg,Cn4]
          rw[htk] at k5;generalize flat ((lbl n).take ((lbl n).length - (lbl top).length))=hd at*;simp(disch:=omega)only[N8,k5,hr,Ab,simprocAttr]
       obtain⟨hd,hd1,hd2,hd3⟩:=hhead;have hfin:flat (replL n top to)=if to=[46] then hd else hd++to:=by
        unfold replL;rw[P7,←hd1];by_cases hr:to=[46]
        ·rw[if_pos hr,hr,K2];simp[flat]
        ·rw[if_neg hr];have:=Oj v3;unfold jn at this;rw[if_neg (fun h=>hr ((Nq v3).1 h))] at this;rw[←this]
       rw[hfin];by_cases hr:to=[46]
       ·rw[if_pos hr];subst hr;have h1:¬(255:Int)≤(hd.length:Int):=by omega
        rw[if_pos hd2];simp(disch:=omega)only[N8,k1,k2,k3,k4,hc,hcc,he,hd3,h1,Ab,simprocAttr]
       ·rw[if_neg hr];by_cases hlen:(hd++to).length≤254
        ·rw[if_pos hlen];have h1:¬(255:Int)≤((hd++to).length:Int):=by omega
         simp(disch:=first|omega|(rw[B3] at*;omega))only[N8,k1,k2,k3,k4,hc,hcc,he,hd3,hr,h1,Ab,simprocAttr]
        ·rw[if_neg hlen];have h1:(255:Int)≤((hd++to).length:Int):=by omega
         simp(disch:=first|omega|(rw[B3] at*;omega))only[N8,k1,k2,k3,k4,hc,hcc,he,hd3,hr,h1,Ab,simprocAttr]
      ·rw[hu] at k4;rw[if_neg (by simp[hu])];simp(disch:=omega)only[N8,k1,k2,k3,k4,hc,hcc,he,Ab,simprocAttr]
   ·rw[if_neg (by simp[v3])];rw[v1] at k1;rw[v2] at k2;rw[v3] at k3;simp(disch:=omega)only[N8,k1,k2,k3,Ab,simprocAttr]
  ·rw[if_neg (by simp[v2])];rw[v1] at k1;rw[v2] at k2;simp(disch:=omega)only[N8,k1,k2,Ab,simprocAttr]
 ·rw[if_neg (by simp[v1])];rw[v1] at k1;simp(disch:=omega)only[N8,k1,Ab,simprocAttr]
end Go.X.G
/- What a zone says about a question: the program and the reference. -/
namespace Go.X.G
open Go Go.X
def jf (z:Zone) (n:List UInt8) (t:Int) (hl:z.recs.length≤1000000):S Az1 3 [z.pv,.s n,.i .i64 t]=some [B6 (findR z.recs n t)]:=by refine Jf2 (N:=1) rfl ?_;have k1:=Fn4 z.recs n t hl;simp(disch:=omega)only[Jv0,k1,Ab,simprocAttr]
def Un (z:Zone) (n:List UInt8) (t:Int) (hl:z.recs.length≤1000000):S Y0 3 [z.pv,.s n,.i .i64 t]=some [B6 (findR z.recs n t)]:=by refine Hr0 (N:=1) rfl ?_;have k1:=Nb z.recs n t hl;simp(disch:=omega)only[Hx4,k1,Ab,simprocAttr]
abbrev Jk7:Res:=⟨0,[],false,[],[]⟩
def j8 (s:List UInt8):List UInt8:=if s[0]? =some 42 then [] else s
def dnB (z:Zone) (u:List UInt8):Bool:=decide (0<(findR z.recs u 39).length)
def El5 (z:Zone) (n:List UInt8):Option (List UInt8):=((upN z.origin n).drop 1).find? (dnB z)
def s7 (z:Zone) (n u:List UInt8):Res:=
 match findR z.recs u 39 with
 |r::_=>⟨3,u,false,j8 (replN n u r.data.host).1,[r]⟩
 |[]=>Jk7
def Fs6 (z:Zone) (n:List UInt8):Option Res:=(El5 z n).map (s7 z n)
def Nh:Option Res→List PV
 |some x=>[x.pv,.b true]
 |none=>[Jk7.pv,.b false]
def Bm1 {z:Zone} (hz:z.wf) {n:List UInt8} {t:Int} {r:Rec} (h:r∈findR z.recs n t):r.wf:=hz.recs.2 r (C8.1 h).1
def Cc9 (z:Zone) (n:List UInt8) (t:Int):(findR z.recs n t).length≤z.recs.length:=Ef _ _
def c42 (c:UInt8):(c.toNat:Int)=42↔c=42:=by
 constructor
 ·intro h;apply UInt8.toNat.inj;have:(42:UInt8).toNat=42:=rfl;omega
 ·rintro rfl;rfl
def Gy4 (z:Zone) (n:List UInt8) (hz:z.wf) (hl:z.recs.length≤1000000) (hu:under n z.origin=true) (N:Nat) (hN:1000<N):
  Gj8.ev S N [z.pv,.s n]=some (match Fs6 z n with|some x=> .ret [x.pv,.b true]|none=> .yld 0 [.i .i64 0,.s [],.b false,.s [],B6 []]):=by
 obtain⟨v1,v2,_⟩:=C2.1 hu;have hlb:=Gl n;have nl:=Gc v1;have h0:jn ((lbl n).drop 0)=n:=Zk v1;let res:Option (List UInt8)→Out:=fun o=>match o.map (s7 z n) with|some x=> .ret [x.pv,.b true]|none=> .yld 0 [.i .i64 0,.s [],.b false,.s [],B6 []]
 have:=F7 (fn:=S) (N:=N) (η:=[z.pv,.s n]) (id:=1) (init:=[(.v 1),(.c (.i .i64 (0))),(.c (.s [])),(.c (.b false)),(.c (.s [])),(.c (.l 16 []))]) (body:=Ed7) ((lbl n).length - (lbl z.origin).length)
  (fun k=>[.s (jn ((lbl n).drop k)),.i .i64 0,.s [],.b false,.s [],B6 []]) (fun k=>res (((upN z.origin n).drop (k+1)).find? (dnB z))) ?_ (by omega) (fun k hk=> ?_) ?_
 ·exact this
 ·rw[h0];simp(disch:=omega)only[Ab,simprocAttr]
 ·have hup:(upN z.origin n)[k+1]? =some (jn ((lbl n).drop (k+1))):=Ov hk;have hd:(upN z.origin n).drop (k+1)=jn ((lbl n).drop (k+1))::(upN z.origin n).drop (k+1+1):=by obtain⟨h1,h2⟩:=Bp.1 hup;rw[Dy h1,h2]
  obtain⟨q1,q2⟩:=qf hu hk;have q3:¬jn ((lbl n).drop k)=z.origin:=fun h=>by have:=(Sl hu (Nat.le_of_lt hk)).1 h;omega
  have q4:=Tz v1 k;have q5:=Tz v1 (k+1);have k1:=Qy (jn ((lbl n).drop k)) (by omega);rw[q1,q2] at k1;have k2:=jf z (jn ((lbl n).drop (k+1))) 39 hl;rw[hd];generalize jn ((lbl n).drop (k+1))=nx at*;generalize jn ((lbl n).drop k)=cu at*;cases hf:findR z.recs nx 39 with
  |nil=>
   left;have h5:dnB z nx=false:=by unfold dnB;rw[hf];rfl
   rw[hf] at k2;rw[jy (by simp[h5])];refine⟨?_,rfl⟩;simp(disch:=omega)only[Aq2,k1,k2,q3,EVM,EVC,EVR,Ad,simprocAttr]
   try rfl
  |cons r rest=>
   right;have h5:dnB z nx=true:=by unfold dnB;rw[hf];simp
   have hrw:=Bm1 hz (n:=nx) (t:=39) (r:=r) (by rw[hf];exact .head _);have hll:=Cc9 z nx 39;have hh:=hrw.data.host;unfold Lh at hh;have k3:=Aq0 n nx r.data.host (by omega) (by omega) hh;rw[hf] at k2 hll;rw[jx h5];have e:res (some nx)= .ret [(Res.mk 3 nx false (j8 (replN n nx r.data.host).1) [r]).pv,.b true]:=by simp only[res,Cf,s7,hf]
   rw[e];refine⟨?_,rfl⟩;have hpos:(0:Int)<((r::rest).length:Int):=by simp only[Cv];omega
   have hls:I7 16 (B6 (r::rest)) (.i .i64 0) (.i .i64 1)=some (B6 [r]):=by rw[Jb _ _ _ _ _ (by omega) (by omega) (by omega)];rfl
   have hix:Jf 16 (B6 (r::rest)) (.i .i64 0)=some r.pv:=by rw[L8 _ _ _ (by omega)];rfl
   unfold j8;generalize replN n nx r.data.host=rp at*;obtain⟨to,er⟩:=rp;generalize (r::rest)=ll at*;cases to with
   |nil=>
    simp(disch:=omega)only[Aq2,k1,k2,k3,q3,hpos,hls,hix,EVM,EVC,EVR,Ad,simprocAttr]
    try simp
   |cons c tr=>
    by_cases hc:c=42
    ·subst hc;simp(disch:=omega)only[Aq2,k1,k2,k3,q3,hpos,hls,hix,EVM,EVC,EVR,Ad,simprocAttr]
     try simp
    ·have hc2:¬(c.toNat:Int)=42:=fun h=>hc ((c42 c).1 h);simp(disch:=omega)only[Aq2,k1,k2,k3,q3,hpos,hls,hix,hc2,EVM,EVC,EVR,Ad,simprocAttr]
     try simp[hc]
 ·have q3:=(Sl hu (B7 _)).2 rfl;have h9:(upN z.origin n).drop ((lbl n).length - (lbl z.origin).length+1)=[]:=Jx (by simp[upN]);rw[h9,q3,List.find?_nil];refine⟨?_,rfl⟩;simp(disch:=omega)only[Aq2,EVM,EVC,EVR,Ad,simprocAttr]
  try rfl
def pj (z:Zone) (n:List UInt8) (hz:z.wf) (hl:z.recs.length≤1000000) (hu:under n z.origin=true):S Dh1 2 [z.pv,.s n]=some (Nh (Fs6 z n)):=by
 refine Jb6 (N:=1001) rfl ?_;have key:=Gy4 z n hz hl hu 1001 (by omega);cases h:Fs6 z n with
 |none=>
  rw[h] at key;simp(disch:=omega)only[Aq2,key,Nh,EVM,EVC,EVR,Ad,simprocAttr]
 |some x=>
  rw[h] at key;simp(disch:=omega)only[Aq2,key,Nh,EVM,EVC,EVR,Ad,simprocAttr]
def Bl9:∀(l:List (List UInt8)),(∀x∈l,x≠[])→2*l.length≤(flat l).length
 |[],_=>by simp[flat]
 |x::r,h=>by have ih:=Bl9 r fun y hy=>h y (.tail _ hy);have hx:=Cl.2 (h x (.head _));rw[Ml,B3,Cv,Cv];omega
def Gm4 (n:List UInt8):(lbl n).length≤127:=by
 rcases Bl (vld n) with h|h
 ·rcases vld_cases h with⟨_,h2⟩|⟨_,h2,h3,h4⟩
  ·rw[h2];simp
  ·have:=Bl9 (lbl n) fun x hx=>mj (Hc h2 hx);rw[←h3] at this;omega
 ·rw[l8 h];simp
def Gf6 (z:Zone) (n:List UInt8) (hl:z.recs.length≤1000000) (hu:under n z.origin=true):S wg 2 [z.pv,.s n]=some (match El5 z n with|some u=>[.s u,.b true]|none=>[.s [],.b false]):=by
 refine Hp9 (N:=1001) rfl ?_;obtain⟨v1,v2,_⟩:=C2.1 hu;have hlb:=Gm4 n;have nl:=Gc v1;have h0:jn ((lbl n).drop 0)=n:=Zk v1;let res:Option (List UInt8)→Out:=fun o=>match o with|some u=> .ret [.s u,.b true]|none=> .yld 0 []
 have key:Dt8.ev S 1001 [z.pv,.s n]=some (res (El5 z n)):=by
  have:=F7 (fn:=S) (N:=1001) (η:=[z.pv,.s n]) (id:=1) (init:=[(.v 1),(.c (.i .i64 (0)))]) (body:=An6) ((lbl n).length - (lbl z.origin).length)
   (fun k=>[.s (jn ((lbl n).drop k)),.i .i64 (k:Int)]) (fun k=>res (((upN z.origin n).drop (k+1)).find? (dnB z))) ?_ (by omega) (fun k hk=> ?_) ?_
  ·exact this
  ·rw[h0];simp(disch:=omega)only[Ab,simprocAttr]
  ·have hup:(upN z.origin n)[k+1]? =some (jn ((lbl n).drop (k+1))):=Ov hk;have hd:(upN z.origin n).drop (k+1)=jn ((lbl n).drop (k+1))::(upN z.origin n).drop (k+1+1):=by obtain⟨h1,h2⟩:=Bp.1 hup;rw[Dy h1,h2]
   obtain⟨q1,q2⟩:=qf hu hk;have q3:¬jn ((lbl n).drop k)=z.origin:=fun h=>by have:=(Sl hu (Nat.le_of_lt hk)).1 h;omega
   have q4:=Tz v1 k;have k1:=i7 (jn ((lbl n).drop k)) (by omega);rw[q1,q2] at k1;have k2:=Un z (jn ((lbl n).drop (k+1))) 39 hl;rw[hd];generalize jn ((lbl n).drop (k+1))=nx at*;generalize jn ((lbl n).drop k)=cu at*;by_cases h6:0<(findR z.recs nx 39).length
   ·right;have h5:dnB z nx=true:=by unfold dnB;simp[h6]
    have h7:(0:Int)<((findR z.recs nx 39).length:Int):=by omega
    rw[jx h5];refine⟨?_,rfl⟩;generalize findR z.recs nx 39=fr at*;simp(disch:=omega)only[qk,k1,k2,q3,h7,EVM,EVC,EVR,Ad,simprocAttr]
    try rfl
   ·left;have h5:dnB z nx=false:=by unfold dnB;simp[h6]
    have h7:¬(0:Int)<((findR z.recs nx 39).length:Int):=by omega
    rw[jy (by simp[h5])];refine⟨?_,rfl⟩;generalize findR z.recs nx 39=fr at*;simp(disch:=omega)only[qk,k1,k2,q3,h7,EVM,EVC,EVR,Ad,simprocAttr]
  ·have q3:=(Sl hu (B7 _)).2 rfl;have h9:(upN z.origin n).drop ((lbl n).length - (lbl z.origin).length+1)=[]:=Jx (by simp[upN]);rw[h9,q3,List.find?_nil];refine⟨?_,rfl⟩;simp(disch:=omega)only[qk,EVM,EVC,EVR,Ad,simprocAttr]
   try rfl
 cases h:El5 z n with
 |none=>
  rw[h] at key;simp only[res] at key;simp(disch:=omega)only[qk,key,EVM,EVC,EVR,Ad,simprocAttr]
 |some u=>
  rw[h] at key;simp only[res] at key;simp(disch:=omega)only[qk,key,EVM,EVC,EVR,Ad,simprocAttr]
def allR (z:Zone) (n:List UInt8):List Rec:=z.recs.filter fun r=>decide (r.name=n)
def Ex2 (t:Int):Bool:=decide (t=5)||decide (t=47)||decide (t=46)||decide (t=255)
def typedR (l:List Rec) (t:Int):List Rec:=if t=255 then l else l.filter fun r=>decide (r.typ=t)
def Fm9 (l:List Rec) (t:Int):Option Rec:=if Ex2 t=true then none else l.find? fun r=>decide (r.typ=5)
def saysM (l:List Rec) (t:Int):Res:=
 match Fm9 l t with
 |some c=>⟨2,[],false,c.data.host,[c]⟩
 |none=>if typedR l t=[] then ⟨5,[],false,[],[]⟩ else ⟨1,[],false,[],typedR l t⟩
def Bg3 (z:Zone) (n:List UInt8) (hl:z.recs.length≤1000000):S Cy9 2 [z.pv,.s n]=some [B6 (allR z n)]:=by
 refine Jb3 (N:=z.recs.length+1) rfl ?_;have key:Gj7.ev S (z.recs.length+1) [z.pv,.s n]=some (.yld 0 [B6 ([]++allR z n)]):=by
  refine Ed z.recs (fun i (b:List Rec)=>[B6 b,.i .i64 (i:Int)]) (fun i b r=> .yld 0 [B6 (b++r.filter fun r=>decide (r.name=n))]) (fun i b=>b.length≤i) [] rfl (Db _) (by omega) (fun i b c r hd hi hc hI=> ?_) (fun b hI=> ?_)
  ·left;by_cases h:c.name=n
   ·refine⟨b++[c],?_,by simp;omega,by simp[h]⟩;simp(disch:=omega)only[Em8,hc,h,EVM,EVC,EVR,Ad,simprocAttr]
    try simp[←h]
   ·refine⟨b,?_,by omega,by simp[h]⟩;simp(disch:=omega)only[Em8,hc,h,EVM,EVC,EVR,Ad,simprocAttr]
  ·simp(disch:=omega)only[Em8,EVM,EVC,EVR,Ad,simprocAttr]
   try simp[Out.goes]
 rw[Dc] at key;generalize allR z n=ar at*;simp(disch:=omega)only[Em8,key,EVM,EVC,EVR,Ad,simprocAttr]
def Bt6 (z:Zone) (n:List UInt8) (hl:z.recs.length≤1000000):S f4 2 [z.pv,.s n]=some [B6 (allR z n)]:=by
 refine Hp5 (N:=z.recs.length+1) rfl ?_;have key:Dt5.ev S (z.recs.length+1) [z.pv,.s n]=some (.yld 0 [B6 ([]++allR z n)]):=by
  refine Ed z.recs (fun i (b:List Rec)=>[B6 b,.i .i64 (i:Int)]) (fun i b r=> .yld 0 [B6 (b++r.filter fun r=>decide (r.name=n))]) (fun i b=>b.length≤i) [] rfl (Db _) (by omega) (fun i b c r hd hi hc hI=> ?_) (fun b hI=> ?_)
  ·left;by_cases h:c.name=n
   ·refine⟨b++[c],?_,by simp;omega,by simp[h]⟩;simp(disch:=omega)only[As9,hc,h,EVM,EVC,EVR,Ad,simprocAttr]
    try simp[←h]
   ·refine⟨b,?_,by omega,by simp[h]⟩;simp(disch:=omega)only[As9,hc,h,EVM,EVC,EVR,Ad,simprocAttr]
  ·simp(disch:=omega)only[As9,EVM,EVC,EVR,Ad,simprocAttr]
   try simp[Out.goes]
 rw[Dc] at key;generalize allR z n=ar at*;simp(disch:=omega)only[As9,key,EVM,EVC,EVR,Ad,simprocAttr]
def Ct0 (r:Rec) (t:Int):S fq 1 [r.pv,.i .i64 t]=some [.b (decide (r.typ≠t))]:=by
 refine Hl5 (N:=1) rfl ?_;simp(disch:=omega)only[Hw3,EVM,EVC,EVR,Ad,simprocAttr]
 try simp
def At5 (l:List Rec) (t:Int) (hl:l.length≤1000000):S fp 2 [B6 l,.i .i64 t]=some [B6 (typedR l t)]:=by
 refine Hp3 (N:=1) rfl ?_;unfold typedR;by_cases h:t=255
 ·rw[if_pos h];simp(disch:=omega)only[Fr2,h,EVM,EVC,EVR,Ad,simprocAttr]
 ·rw[if_neg h];have k1:=Aj8 l hl;have k2:=i8 l fq [.i .i64 t] _ hl (fun r _=>Ct0 r t);have e:(l.filter fun x=> !decide (x.typ≠t))=l.filter fun r=>decide (r.typ=t):=by congr 1;funext x;simp
  rw[e] at k2;generalize (l.filter fun r=>decide (r.typ=t))=fl at*;simp(disch:=omega)only[Fr2,h,k1,k2,Fz,Mw,EVT,EVM,EVC,EVR,Ad,simprocAttr]
def Ex1 (t:Int):S ww 1 [.i .i64 t]=some [.b (Ex2 t)]:=by
 refine Hp2 (N:=1) rfl ?_;unfold Ex2;by_cases h1:t=5
 ·subst h1;simp(disch:=omega)only[pp,EVM,EVC,EVR,Ad,simprocAttr];try simp
 ·by_cases h2:t=47
  ·subst h2;simp(disch:=omega)only[pp,EVM,EVC,EVR,Ad,simprocAttr];try simp
  ·by_cases h3:t=46
   ·subst h3;simp(disch:=omega)only[pp,EVM,EVC,EVR,Ad,simprocAttr];try simp
   ·by_cases h4:t=255
    ·subst h4;simp(disch:=omega)only[pp,EVM,EVC,EVR,Ad,simprocAttr];try simp
    ·simp(disch:=omega)only[pp,h1,h2,h3,h4,EVM,EVC,EVR,Ad,simprocAttr];try simp[h1,h2,h3,h4]
def Ux (l:List Rec) (t:Int):(typedR l t).length≤l.length:=by
 unfold typedR;split
 ·exact B7 _
 ·exact Ef _ _
def Dk6 (l:List Rec) (t:Int) (hl:l.length≤1000000):S Cz0 2 [B6 l,.i .i64 t]=some [(saysM l t).pv]:=by
 refine Jb4 (N:=1) rfl ?_;have k1:=At5 l 5 hl;have k2:=At5 l t hl;have k3:=Ex1 t;have hh:(typedR l 5).head? =l.find? fun r=>decide (r.typ=5):=by unfold typedR;rw[if_neg (by omega),List.head?_filter]
 have hl2:=Ux l 5;have hl3:=Ux l t;have tail:∀a b,T.ev S 1 Ez5 [B6 l,.i .i64 t,a,b]=some (.ret [(if typedR l t=[] then(⟨5,[],false,[],[]⟩:Res) else ⟨1,[],false,[],typedR l t⟩).pv]):=by
  intro a b;by_cases h:typedR l t=[]
  ·rw[if_pos h];rw[h] at k2;simp(disch:=omega)only[Cp3,k2,EVM,EVC,EVR,Ad,simprocAttr]
   try rfl
  ·rw[if_neg h];have hp:(0:Int)<((typedR l t).length:Int):=by have:=Cl.2 h;omega
   generalize typedR l t=tl at*;simp(disch:=omega)only[Cp3,k2,hp,EVM,EVC,EVR,Ad,simprocAttr]
 unfold saysM Fm9;cases hf:typedR l 5 with
 |nil=>
  rw[hf] at k1 hh;have e:(if Ex2 t=true then none else l.find? fun r=>decide (r.typ=5))=none:=by rw[←hh];simp
  rw[e];simp(disch:=omega)only[↓tail,Cp3,k1,EVM,EVC,EVR,Ad,simprocAttr]
 |cons c r=>
  rw[hf] at k1 hh hl2;rw[List.head?_cons] at hh;rw[←hh];have hp:(0:Int)<((c::r).length:Int):=by simp only[Cv];omega
  rcases Bl (Ex2 t) with hd|hd
  ·rw[hd] at k3;simp only[hd,if_true];simp(disch:=omega)only[↓tail,Cp3,k1,k3,hp,EVM,EVC,EVR,Ad,simprocAttr]
  ·rw[hd] at k3;simp only[hd,B5,if_false];have hls:I7 16 (B6 (c::r)) (.i .i64 0) (.i .i64 1)=some (B6 [c]):=by rw[Jb _ _ _ _ _ (by omega) (by omega) (by omega)];rfl
   have hix:Jf 16 (B6 (c::r)) (.i .i64 0)=some c.pv:=by rw[L8 _ _ _ (by omega)];rfl
   generalize (c::r)=ll at*;simp(disch:=omega)only[Cp3,k1,k3,hp,hls,hix,EVM,EVC,EVR,Ad,simprocAttr]
def Aw6 (t:Int) (g r:List Rec):Out:=
 match Fm9 r t with
 |some c=> .ret [(Res.mk 2 [] false c.data.host [c]).pv]
 |none=> .yld 0 (B6 (g++typedR r t)::[.i .i64 0,.s [],.b false,.s [],B6 []])
def Av0 (c:Rec) (r:List Rec) (t:Int):typedR (c::r) t=if c.typ=t∨t=255 then c::typedR r t else typedR r t:=by
 unfold typedR;by_cases h:t=255
 ·simp[h]
 ·by_cases h2:c.typ=t
  ·simp[h,h2]
  ·simp[h,h2]
def z6 (c:Rec) (r:List Rec) (t:Int):Fm9 (c::r) t=if Ex2 t=false∧c.typ=5 then some c else Fm9 r t:=by
 unfold Fm9;rcases Bl (Ex2 t) with h|h
 ·simp[h]
 ·by_cases h2:c.typ=5
  ·simp[h,h2]
  ·simp[h,h2]
def sq (l:List Rec) (t:Int) (hl:l.length≤1000000):S f5 2 [B6 l,.i .i64 t]=some [(saysM l t).pv]:=by
 refine Hp6 (N:=l.length+1) rfl ?_;have key:Dt6.ev S (l.length+1) [B6 l,.i .i64 t]=some (Aw6 t [] l):=by
  refine Ed l (fun i (b:List Rec)=>[B6 b,.i .i64 (i:Int),.i .i64 0,.s [],.b false,.s [],B6 []]) (fun i b r=>Aw6 t b r) (fun i b=>b.length≤i) [] rfl (Db _) (by omega) (fun i b c r hd hi hc hI=> ?_) (fun b hI=> ?_)
  ·have pick:Ex2 t=false∧c.typ=5∨¬(Ex2 t=false∧c.typ=5):=Classical.em _;rcases pick with h|h
   ·right;have hs:Aw6 t b (c::r)= .ret [(Res.mk 2 [] false c.data.host [c]).pv]:=by unfold Aw6;rw[z6,if_pos h]
    rw[hs];refine⟨?_,rfl⟩;obtain⟨h1,h2⟩:=h;simp only[Ex2,G7,decide_eq_false_iff_not] at h1;obtain⟨⟨⟨d1,d2⟩,d3⟩,d4⟩:=h1;simp(disch:=omega)only[N9,hc,h2,d1,d2,d3,d4,EVM,EVC,EVR,Ad,simprocAttr]
   ·left;have step:An5.ev S (l.length+1) ([B6 l,.i .i64 t]++[B6 b,.i .i64 (i:Int),.i .i64 0,.s [],.b false,.s [],B6 []])=some (.yld 1 [B6 (if c.typ=t∨t=255 then b++[c] else b),.i .i64 ((i:Int)+1),.i .i64 0,.s [],.b false,.s [],B6 []]):=by
     have h':¬((((c.typ=5∧¬t=5)∧¬t=47)∧¬t=46)∧¬t=255):=by rintro⟨⟨⟨⟨a1,a2⟩,a3⟩,a4⟩,a5⟩;exact h ⟨by simp[Ex2,a2,a3,a4,a5],a1⟩
     by_cases h3:t=255
     ·rw[if_pos (.inr h3)];by_cases h4:c.typ=5<;>by_cases h6:c.typ=255<;>simp(disch:=omega)only[N9,hc,h3,h4,h6,EVM,EVC,EVR,Ad,simprocAttr]<;>(try simp)<;>(try omega)
     ·by_cases h2:c.typ=t
      ·rw[if_pos (.inl h2)];by_cases h4:t=5
       ·simp(disch:=omega)only[N9,hc,h2,h4,EVM,EVC,EVR,Ad,simprocAttr]
       ·by_cases h5:c.typ=5
        ·rw[h5] at h2;exact absurd h2.symm h4
        ·simp(disch:=omega)only[N9,hc,h2,h4,EVM,EVC,EVR,Ad,simprocAttr]
      ·rw[if_neg (by simp[h2,h3])];by_cases h4:c.typ=5
       ·have h5:t=47∨t=46:=by
         by_cases a3:t=47
         ·exact .inl a3
         ·by_cases a4:t=46
          ·exact .inr a4
          ·exact absurd ⟨⟨⟨⟨h4,fun e=>h2 (by omega)⟩,a3⟩,a4⟩,h3⟩ h'
        have h6:¬t=5:=by omega
        rcases h5 with h5|h5
        ·simp(disch:=omega)only[N9,hc,h2,h3,h4,h5,h6,EVM,EVC,EVR,Ad,simprocAttr]
        ·simp(disch:=omega)only[N9,hc,h2,h3,h4,h5,h6,EVM,EVC,EVR,Ad,simprocAttr]
       ·simp(disch:=omega)only[N9,hc,h2,h3,h4,EVM,EVC,EVR,Ad,simprocAttr]
    refine⟨if c.typ=t∨t=255 then b++[c] else b,step,by split<;>(try rw[B3,List.length_singleton])<;>omega,?_⟩;unfold Aw6;rw[z6,if_neg h,Av0];by_cases hq:c.typ=t∨t=255
    ·rw[if_pos hq,if_pos hq,Cw];rfl
    ·rw[if_neg hq,if_neg hq]
  ·simp(disch:=omega)only[N9,EVM,EVC,EVR,Ad,simprocAttr];have ha:Fm9 [] t=none:=by unfold Fm9;split<;>rfl
   have hb:typedR [] t=[]:=by unfold typedR;split<;>rfl
   unfold Aw6;rw[ha,hb,E3];exact⟨rfl,rfl⟩
 unfold Aw6 at key;unfold saysM;have hl3:=Ux l t;cases ha:Fm9 l t with
 |some c=>
  rw[ha] at key;simp only at key;simp(disch:=omega)only[N9,key,EVM,EVC,EVR,Ad,simprocAttr]
 |none=>
  rw[ha] at key;simp only[Dc] at key;by_cases h:typedR l t=[]
  ·rw[h] at key;simp only[h,if_true];simp(disch:=omega)only[N9,key,EVM,EVC,EVR,Ad,simprocAttr]
   try rfl
  ·simp only[h,if_false];have hp:(0:Int)<((typedR l t).length:Int):=by have:=Cl.2 h;omega
   generalize typedR l t=tl at*;simp(disch:=omega)only[N9,key,hp,EVM,EVC,EVR,Ad,simprocAttr]
end Go.X.G
/- nsec: the chain of a zone. -/
namespace Go.X.G
open Go Go.X
def anB (x y:Int):Int:=IntKind.u64.wrap ((BitVec.ofInt IntKind.u64.bits x &&& ~~~ BitVec.ofInt IntKind.u64.bits y).toNat:Int)
def adB (x y:Int):Int:=IntKind.u64.wrap ((BitVec.ofInt IntKind.u64.bits x &&& BitVec.ofInt IntKind.u64.bits y).toNat:Int)
def orB (x y:Int):Int:=IntKind.u64.wrap ((BitVec.ofInt IntKind.u64.bits x|||BitVec.ofInt IntKind.u64.bits y).toNat:Int)
def Gx7 (x y:Int):X.bin .andNot (.i .u64 x) (.i .u64 y)=some (.i .u64 (anB x y)):=by rw[D2];rfl
def Gx8 (x y:Int):X.bin .and (.i .u64 x) (.i .u64 y)=some (.i .u64 (adB x y)):=by rw[Pw];rfl
def Df6 (x y:Int):X.bin .or (.i .u64 x) (.i .u64 y)=some (.i .u64 (orB x y)):=by rw[Gx4];rfl
def d7 (l:List Int) (hk:∀t∈l,knw t=true) (hl:l.length≤1000000):S t8 1 [Ix l]=some [.i .u64 (l.foldl bitO 0)]:=by refine Jf3 (N:=1) rfl ?_;have h:=Eg3 l hk hl;generalize l.foldl bitO 0=v at*;simp(disch:=omega)only[Jv1,h,Ac,simprocAttr]
def o0:Int:=211106232532992
def Ak1:Int:=8796093022212
def Ik9:S t8 1 [.l 1 [.i .i64 47,.i .i64 46]]=some [.i .u64 o0]:=by
 have:=d7 [47,46] (by decide) (by decide);have e:[47,46].foldl bitO 0=o0:=by kernel_rfl
 rw[e] at this;exact this
def Ik8:S t8 1 [.l 1 [.i .i64 2,.i .i64 43]]=some [.i .u64 Ak1]:=by
 have:=d7 [2,43] (by decide) (by decide);have e:[2,43].foldl bitO 0=Ak1:=by kernel_rfl
 rw[e] at this;exact this
def tyO (z:Zone) (n:List UInt8):Int:=anB ((typesR z.recs n).foldl bitO 0) o0
def chBits (z:Zone) (n:List UInt8):Int:=orB (if n∈cutsN z then adB (tyO z n) Ak1 else tyO z n) o0
def Ld (z:Zone) (ttl:Int) (n:List UInt8):Option Rec:=
 if tyO z n=0 then none else some ⟨n,47,ttl,⟨false,0,0,z.origin,[],[],0,0,0,0,0,0,chBits z n⟩⟩
def chain0 (z:Zone) (ttl:Int):List Rec:=(namesN z).filterMap (Ld z ttl)
def minE (z:Zone):Int:=match findR z.recs z.origin 6 with|[]=>0|r::_=>r.data.e
def Gd9 (h:List UInt8) (r:Rec):Rec:={r with data:={r.data with host:=h}}
def lnk (g:List Rec) (i:Nat):List Rec:=
 if 0<i then match g[i - 1]?,g[i]? with
  |some a,some b=>g.set (i - 1) (Gd9 b.name a)
  |_,_=>g
 else g
def xl:Nat→Nat→List Rec→List Rec
 |0,_,g=>g
 |k+1,i,g=>xl k (i+1) (lnk g i)
def chainN (z:Zone):List Rec:=xl (chain0 z (minE z)).length 0 (chain0 z (minE z))
def Y8 (g:List Rec) (i:Nat):(lnk g i).length=g.length:=by
 unfold lnk;split
 ·split
  ·rw[Ik]
  ·rfl
 ·rfl
def Hc8 (l:List Rec) (j:Nat) (h:List UInt8) (x:Rec) (hx:l[j]? =some x):Q7 16 6 [.s h] (B6 l) (.i .i64 (j:Int))=some (B6 (l.set j (Gd9 h x))):=by
 have h1:=(Bp.1 hx).1;have h3:(l.map Rec.pv)[j]? =some x.pv:=by rw[C4,hx];rfl
 have h0:(0:Int)≤(j:Int):=by omega
 simp only[Q7,B6,h0,F0,h3,and_self,if_true,B0];have h4:Q9 x.pv 6 [.s h]=some (Gd9 h x).pv:=rfl;rw[h4];simp[List.map_set]
def Fn7 (z:Zone) (ttl:Int) (s:List Rec) (hz:z.wf) (hl:z.recs.length≤1000000) (cl:(cutsN z).length≤1000000) (hn:(namesN z).length≤1000000) (hs:∃r,s=[r]∧r.data.e=ttl) (p1:PV) (N:Nat) (hN:(namesN z).length<N):
  Gv0.ev S N [z.pv,p1,.i .u64 o0,.i .u64 Ak1,B6 s,Cn (cutsN z),Cn (namesN z)]=some (.yld 0 [B6 (chain0 z ttl)]):=by
 obtain⟨r0,rfl,hr0⟩:=hs;have hor:(chain0 z ttl)=[]++(namesN z).filterMap (Ld z ttl):=rfl;rw[hor];have ki:=fun n=>Vp (cutsN z) n cl;have kt:=fun n=>Eg1 z.recs n hl;refine Ed (N:=N) (namesN z) (fun i (g:List Rec)=>[B6 g,.i .i64 (i:Int)]) (fun i g r=> .yld 0 [B6 (g++r.filterMap (Ld z ttl))]) (fun i g=>g.length≤i) [] rfl (Db _) hN (fun i g c r hd hi hc hI=> ?_) (fun g hI=> ?_)
 ·left;have e1:=Gx7 ((typesR z.recs c).foldl bitO 0) o0;have e2:anB ((typesR z.recs c).foldl bitO 0) o0=tyO z c:=rfl;rw[e2] at e1;have kt:=kt c;have ki:=ki c;have eb:chBits z c=orB (if c∈cutsN z then adB (tyO z c) Ak1 else tyO z c) o0:=rfl;have hil:(i:Int)<((namesN z).length:Int):=by omega
  generalize (typesR z.recs c).foldl bitO 0=ty at*;by_cases h0:tyO z c=0
  ·have hci:Ld z ttl c=none:=by unfold Ld;rw[if_pos h0]
   refine⟨g,?_,by omega,by rw[Gy3,hci]⟩;rw[h0] at e1;generalize namesN z=nn at*;generalize cutsN z=cc at*;simp(disch:=omega)only[jr,hc,hil,kt,ki,e1,Ac,simprocAttr]
  ·have hci:Ld z ttl c=some ⟨c,47,ttl,⟨false,0,0,z.origin,[],[],0,0,0,0,0,0,chBits z c⟩⟩:=by unfold Ld;rw[if_neg h0]
   have ho:=Df6 (if c∈cutsN z then adB (tyO z c) Ak1 else tyO z c) o0;rw[←eb] at ho;refine⟨g++[⟨c,47,ttl,⟨false,0,0,z.origin,[],[],0,0,0,0,0,0,chBits z c⟩⟩],?_,by simp;omega,by rw[Gy3,hci,Cw];rfl⟩;have ea:=Gx8 (tyO z c) Ak1;generalize chBits z c=bits at*;generalize tyO z c=t at*;generalize adB t Ak1=u at*;generalize namesN z=nn at*;by_cases h1:c∈cutsN z
   ·rw[if_pos h1] at ho;generalize cutsN z=cc at*;simp(disch:=omega)only[jr,hc,hil,kt,ki,e1,ea,ho,h0,h1,hr0,Ac,simprocAttr]
   ·rw[if_neg h1] at ho;generalize cutsN z=cc at*;simp(disch:=omega)only[jr,hc,hil,kt,ki,e1,ea,ho,h0,h1,hr0,Ac,simprocAttr]
 ·generalize namesN z=nn at*;simp(disch:=omega)only[jr,Ak0,Ac,simprocAttr];simp[Out.goes]
def Fn6 (c0:List Rec) (hl:c0.length≤1000000) (N:Nat) (hN:c0.length<N) (p0 p1 p2 p3 p4 p5 p6:PV):
  Gj0.ev S N [p0,p1,p2,p3,p4,p5,p6,B6 c0]=some (.yld 0 [B6 (xl c0.length 0 c0)]):=by
 refine Ed (N:=N) c0 (fun i (g:List Rec)=>[B6 g,.i .i64 (i:Int)]) (fun i g r=> .yld 0 [B6 (xl r.length i g)]) (fun i g=>g.length=c0.length) c0 rfl rfl hN (fun i g c r hd hi hc hI=> ?_) (fun g hI=> ?_)
 ·left;refine⟨lnk g i,?_,by rw[Y8];exact hI,rfl⟩;have hil:(i:Int)<(c0.length:Int):=by omega
  unfold lnk;by_cases h0:0<i
  ·have a1:g[i - 1]? =some (g[i - 1]'(by omega)):=Bs (by omega);have a2:g[i]? =some (g[i]'(by omega)):=Bs (by omega);generalize g[i - 1]'(by omega)=a at*;generalize g[i]'(by omega)=b at*;rw[if_pos h0,a1,a2];simp only;have e1:(i:Int) - 1=((i - 1:Nat):Int):=by omega
   have e2:IntKind.i64.wrap ((i:Int) - 1)=((i - 1:Nat):Int):=by rw[w64 (by omega) (by omega)];exact e1
   have e3:=Hc8 g (i - 1) b.name a a1;have h0':(0:Int)<(i:Int):=by omega
   simp(disch:=omega)only[jr,hil,h0',e1,e2,e3,a1,a2,Ac,simprocAttr]
  ·have h0':¬(0:Int)<(i:Int):=by omega
   rw[if_neg h0];simp(disch:=omega)only[jr,hil,h0',Ac,simprocAttr]
 ·simp(disch:=omega)only[jr,Ak0,Ac,simprocAttr];simp[Out.goes,xl]
def Vq (z:Zone) (ttl:Int):(chain0 z ttl).length≤(namesN z).length:=List.length_filterMap_le _ _
def Fl3 (z:Zone) (hl:z.recs.length≤1000):(cutsN z).length≤1000000:=by have:=W5 ((z.recs.filter (Eg z)).map Rec.name);have h2:=Ef (Eg z) z.recs;rw[D8] at this;unfold cutsN;omega
def ay (z:Zone) (hz:z.wf) (hl:z.recs.length≤1000):S Az4 1 [z.pv]=some (if Jh z=0 then [B6 (chainN z),.i .i64 0] else [B6 [],.i .i64 13]):=by
 have hn:=Jk z hl;have hc:=Fl3 z hl;have hcl:=Vq z (minE z);refine Jh6 (N:=(namesN z).length+1) rfl ?_;have k1:=Eh9 z hz (by omega);by_cases h:Jh z=0
 ·rw[if_pos h];rw[h] at k1;have ho:=Tr h;obtain⟨s,es⟩:=jv.1 ho.soa;have k2:=jf z z.origin 6 (by omega);have k3:=As2 z hz (by omega);have k4:=Xn z hz (by omega);have em:minE z=s.data.e:=by unfold minE;rw[es]
  have l0:=Fn7 z (minE z) [s] hz (by omega) hc hn ⟨s,rfl,em.symm⟩ (.i .i64 0) ((namesN z).length+1) (by omega);have l1:=Fn6 (chain0 z (minE z)) (by omega) ((namesN z).length+1) (by omega);rw[es] at k2;have ec:xl (chain0 z (minE z)).length 0 (chain0 z (minE z))=chainN z:=rfl;rw[ec] at l1;generalize chainN z=cn at*;generalize chain0 z (minE z)=c0 at*;generalize cutsN z=cc at*;generalize namesN z=nn at*;have o1:=Ik9;have o2:=Ik8;have q1:Lr 1 [.i .i64 47,.i .i64 46]=some (.l 1 [.i .i64 47,.i .i64 46]):=rfl;have q2:Lr 1 [.i .i64 2,.i .i64 43]=some (.l 1 [.i .i64 2,.i .i64 43]):=rfl;simp(disch:=omega)only[jr,k1,k2,k3,k4,l0,l1,o1,o2,q1,q2,Ev,Ep,Ac,simprocAttr]
 ·rw[if_neg h];simp(disch:=omega)only[jr,k1,h,Ev,Ep,Ac,simprocAttr]
end Go.X.G
/- nsec: the sample, and the laws NsecCovers, NsecAbsent, NsecEmpty. -/
namespace Go.X.G
open Go Go.X
def smp20:Zone:=⟨[120,46],[⟨[120,46],2,9,⟨false,0,0,[110,46],[],[],0,0,0,0,0,0,0⟩⟩,
 ⟨[120,46],6,9,⟨false,0,0,[110,46],[109,46],[],3,0,0,0,5,0,0⟩⟩,
 ⟨[98,46,120,46],1,9,⟨false,0,1,[],[],[],0,0,0,0,0,0,0⟩⟩]⟩
def Aw7:S Fc1 0 []=some [smp20.pv]:=(Rj ext_mono).2 ⟨3,by kernel_rfl⟩
def Fw6:smp20.wf:=by refine⟨by unfold Lh;decide,by decide,fun r hr=> ?_⟩;simp only[smp20,Cj,Em1,or_false] at hr;rcases hr with rfl|rfl|rfl<;>(constructor<;>(try constructor))<;>simp[El3,Wc,Lh]
def Aw3:Jh smp20=0:=by kernel_rfl
def Aw2:namesN smp20=[[120,46],[98,46,120,46]]:=by unfold namesN;rw[←Yn];kernel_rfl
def Ck6:cutsN smp20=[]:=by unfold cutsN;rw[←Yn];kernel_rfl
def c20a:Rec:=⟨[120,46],47,5,⟨false,0,0,[98,46,120,46],[],[],0,0,0,0,0,0,211106232533060⟩⟩
def c20b:Rec:=⟨[98,46,120,46],47,5,⟨false,0,0,[120,46],[],[],0,0,0,0,0,0,211106232532994⟩⟩
def Aw4:chainN smp20=[c20a,c20b]:=by
 have e:chain0 smp20 (minE smp20)=[Gd9 [120,46] c20a,c20b]:=by
  unfold chain0;rw[Aw2];unfold Ld chBits;rw[Ck6]
  kernel_rfl
 have e2:chainN smp20=xl 2 0 [Gd9 [120,46] c20a,c20b]:=by unfold chainN;rw[e];rfl
 exact e2.trans (by kernel_rfl)
def Eb1:∀r∈[c20a,c20b],r.wf:=by intro r hr;simp only[Cj,Em1,or_false] at hr;rcases hr with rfl|rfl<;>(constructor<;>(try constructor))<;>simp[El3,Wc,Lh,c20a,c20b]
def Cl0:S Dm3 0 []=some [.b true]:=by
 refine Jl1 (N:=1) rfl ?_;have k1:=Aw7;have k2:=ay smp20 Fw6 (by decide);rw[if_pos Aw3,Aw4] at k2;have a1:=jj [c20a,c20b] [120,46] [99,46,120,46] Eb1 (by decide) (by decide) (by decide);have a2:=jj [c20a,c20b] [120,46] [98,46,120,46] Eb1 (by decide) (by decide) (by decide);have a3:=Eh4 [c20a,c20b] [120,46] ⟨[98,46,120,46],15⟩ Eb1 (by decide) (by decide) (by decide);have e1:oc [c20a,c20b] [120,46] [99,46,120,46]=true:=by kernel_rfl
 have e2:oc [c20a,c20b] [120,46] [98,46,120,46]=false:=by kernel_rfl
 have e3:Ew0 [c20a,c20b] [120,46] ⟨[98,46,120,46],15⟩=true:=by kernel_rfl
 rw[e1] at a1;rw[e2] at a2;rw[e3] at a3;have h0:[c20a,c20b][0]? =some c20a:=rfl;have h1:[c20a,c20b][1]? =some c20b:=rfl;have hl:[c20a,c20b].length=2:=rfl;have n0:c20a.name=[120,46]:=rfl;have n1:c20a.data.host=[98,46,120,46]:=rfl;have n2:c20b.data.host=[120,46]:=rfl;have n3:c20b.ttl=5:=rfl;generalize [c20a,c20b]=l at*;generalize c20a=ra at*;generalize c20b=rb at*;generalize smp20=z at*;simp(disch:=first|omega|decide)only[Jw1,k1,k2,a1,a2,a3,h0,h1,hl,n0,n1,n2,n3,Kq,Ev,Ep,Ab,simprocAttr]
end Go.X.G
/- What a checked zone says of its names. -/
namespace Go.X.G
open Go Go.X
def Pm {n:List UInt8} (h:vld n=true):under n n=true:=C2.2 ⟨h,h,List.suffix_refl _⟩
def dy {a b:List UInt8} (h1:under a b=true) (h2:under b a=true):a=b:=by refine K5 h1 ?_;exact(C2.1 h2).2.2.length_le
def yx {z:Zone} {r:Rec}:Eg z r=true↔r.typ=2∧r.name≠z.origin∧under r.name z.origin=true:=by unfold Eg Fl;simp only[Br,decide_eq_true_eq,ne_eq]
def Mm {l:List Rec} {n:List UInt8} {t:Int} {r:Rec}:r∈findR l n t↔r∈l∧r.name=n∧r.typ=t:=by unfold findR;rw[C8];simp only[isK,Br,decide_eq_true_eq]
def ZOk.soaR {z:Zone} (h:ZOk z):∃r∈z.recs,r.name=z.origin∧r.typ=6:=by
 have:=h.soa;cases e:findR z.recs z.origin 6 with
 |nil=>rw[e] at this;cases this
 |cons r l=>
  have:r∈findR z.recs z.origin 6:=by rw[e];exact .head _
  exact⟨r,(Mm.1 this).1,(Mm.1 this).2⟩
def Cc2 (z:Zone):O0 z z.origin=false:=by
 cases h:O0 z z.origin with
 |false=>rfl
 |true=>
  unfold O0 at h;simp only[Dz,Br,decide_eq_true_eq] at h;obtain⟨r,_,⟨h1,_⟩,h3⟩:=h;obtain⟨_,h4,h5⟩:=yx.1 h1;exact absurd (dy h5 h3) h4
def ZOk.exO {z:Zone} (h:ZOk z):exB z z.origin=true:=by obtain⟨r,hr,e,_⟩:=h.soaR;have u:=Pm h.origin;exact(Tl z _).2 ⟨r,hr,by rw[e];exact u,by rw[e];exact Cc2 z,by rw[e];exact u,u⟩
def Fh2 {z:Zone} {n:List UInt8} (h:exB z n=true):under n z.origin=true:=by obtain⟨_,_,_,_,_,h⟩:=(Tl z n).1 h;exact h
def Kx6 {z:Zone} (h:ZOk z) {n:List UInt8} (hu:under n z.origin=true):encN z n≠[]∧under n (encN z n)=true∧exB z (encN z n)=true:=by
 unfold encN;rw[if_pos hu];cases e:Cm6 z n with
 |none=>
  unfold Cm6 at e;rw[List.find?_eq_none] at e;exact absurd h.exO (e _ ((Lv hu).2 ⟨hu,Pm h.origin⟩))
 |some x=>
  obtain⟨h1,h2⟩:=O5 hu e;exact⟨At3 (C2.1 h1).2.1,h1,h2⟩
def Gr0 {z:Zone} {n x:List UInt8} (hu:under n x=true) (hx:exB z x=true):(lbl x).length≤(lbl (encN z n)).length:=by
 have hne:=At3 (C2.1 hu).2.1;have h0:=zm z n;obtain⟨h1,h2⟩:=Xb n (namesN z) [] (.inl rfl);rw[h0] at h1 h2;have hm:x∈namesN z:=by have:=U7 z x;rw[hx] at this;simpa using this
 by_cases hb:encN z n=[]
 ·have:=(h1 hb).2 x hm;rw[hu] at this;cases this
 ·exact(h2 hb).2.2.2 x hm hu
def Av6 {a b c:List (List UInt8)} (h1:a<:+c) (h2:b<:+c) (h:a.length≤b.length):a<:+b:=by exact List.suffix_of_suffix_length_le h1 h2 h
def zb {z:Zone} {n:List UInt8} (ho:ZOk z) (h:cutN z n≠[]):
  under n (cutN z n)=true∧cutN z n≠z.origin∧(findR z.recs (cutN z n) 2).length≠0∧encN z n=cutN z n∧under n z.origin=true∧exB z (cutN z n)=true:=by
 obtain⟨_,h2⟩:=Rm z n z.recs [] (.inl rfl);obtain⟨g1,g2,_,g4⟩:=h2 h;change under n (cutN z n)=true at g1;change cutN z n=[]∨∃r∈z.recs,Eg z r=true∧r.name=cutN z n at g2;change∀r∈z.recs,Eg z r=true→under n r.name=true→(lbl (cutN z n)).length≤(lbl r.name).length at g4;obtain⟨r,hr,hc,hn⟩:=g2.resolve_left h;generalize cutN z n=c at*;obtain⟨c1,c2,c3⟩:=yx.1 hc;rw[hn] at c2 c3;have hu:=Pl g1 c3;have hh:O0 z c=false:=by
  cases e:O0 z c with
  |false=>rfl
  |true=>
   unfold O0 at e;simp only[Dz,Br,decide_eq_true_eq] at e;obtain⟨x,hx,⟨x1,x2⟩,x3⟩:=e;have:=g4 x hx x1 (Pl g1 x3);exact absurd (K5 x3 this).symm x2
 have hv:=(C2.1 c3).1;have hex:exB z c=true:=(Tl z c).2 ⟨r,hr,by rw[hn];exact c3,by rw[hn];exact hh,by rw[hn];exact Pm hv,c3⟩;refine⟨g1,c2,?_,?_,hu,hex⟩
 ·have:r∈findR z.recs c 2:=Mm.2 ⟨hr,hn,c1⟩;intro e;rw[List.length_eq_zero_iff.1 e] at this;cases this
 ·obtain⟨_,e1,e2⟩:=(Kx6 ho hu);have hm:=Gr0 g1 hex;generalize encN z n=e at*;obtain⟨_,_,s1⟩:=C2.1 g1;obtain⟨_,ve,s2⟩:=C2.1 e1;have s3:=Av6 s1 s2 hm;have ec:under e c=true:=C2.2 ⟨ve,hv,s3⟩;by_cases hl:(lbl e).length≤(lbl c).length
  ·exact K5 ec hl
  ·exfalso;obtain⟨x,hx,x1,x2,x3,_⟩:=(Tl z e).1 e2;have hxc:=Pl x3 ec;have:O0 z x.name=true:=by unfold O0;simp only[Dz,Br,decide_eq_true_eq];refine⟨r,hr,⟨hc,fun q=> ?_⟩,by rw[hn];exact hxc⟩;have:=(C2.1 x3).2.2.length_le;rw[←q,hn] at this;exact hl this
   rw[x2] at this;cases this
end Go.X.G
/- nsec: what the chain of a checked zone is; the law NsecOrder. -/
namespace Go.X.G
open Go Go.X
def bv (x:Int):BitVec 64:=BitVec.ofInt 64 x
def Gs9 (v:BitVec 64):bv (IntKind.u64.wrap (v.toNat:Int))=v:=by have h:=v.isLt;rw[Fr8 (by omega) (by omega)];unfold bv;rw[BitVec.ofInt_natCast,BitVec.ofNat_toNat,BitVec.setWidth_eq]
def Kw4 (x y:Int):bv (orB x y)=bv x|||bv y:=Gs9 _
def Dn0 (g:List Rec) (i j:Nat) (a:Rec) (hi:i<g.length) (ha:g[j]? =some a):(lnk g i)[j]? =some (if 0<i∧j=i - 1 then Gd9 (g[i]'hi).name a else a):=by
 unfold lnk;by_cases h0:0<i
 ·have a1:g[i - 1]? =some (g[i - 1]'(by omega)):=Bs (by omega);have a2:g[i]? =some (g[i]'hi):=Bs hi;rw[if_pos h0,a1,a2];simp only;by_cases hj:j=i - 1
  ·subst hj;rw[if_pos ⟨h0,rfl⟩,jw (by omega)];rw[a1] at ha;injection ha with ha;rw[ha]
  ·rw[if_neg (by omega),R5 (by omega),ha]
 ·rw[if_neg h0,if_neg (by omega),ha]
def nxt (g:List Rec) (j:Nat) (a:Rec):Rec:=match g[j+1]? with
 |some b=>Gd9 b.name a
 |none=>a
def Bh3:∀(k i:Nat) (g:List Rec),g.length=i+k→∀(j:Nat) (a:Rec),g[j]? =some a→(xl k i g)[j]? =some (if i≤j+1 then nxt g j a else a)
 |0,i,g,hl,j,a,ha=>by
  show g[j]? =_;rw[ha];by_cases h:i≤j+1
  ·rw[if_pos h];have:g[j+1]? =none:=by rw[Q4];omega
   unfold nxt;rw[this]
  ·rw[if_neg h]
 |k+1,i,g,hl,j,a,ha=>by
  show (xl k (i+1) (lnk g i))[j]? =_;have hi:i<g.length:=by omega
  have hj:=Dn0 g i j a hi ha;rw[Bh3 k (i+1) (lnk g i) (by rw[Y8];omega) j _ hj];by_cases h1:0<i∧j=i - 1
  ·rw[if_neg (by omega),if_pos h1,if_pos (by omega)];unfold nxt;have e:j+1=i:=by omega
   rw[e,Bs hi]
  ·rw[if_neg h1];by_cases h2:i≤j+1
   ·have h3:i+1≤j+1:=by omega
    rw[if_pos h2,if_pos h3];unfold nxt;cases hb:g[j+1]? with
    |none=>
     have:(lnk g i)[j+1]? =none:=by rw[Q4] at hb ⊢;rw[Y8];exact hb
     rw[this]
    |some b=>
     rw[Dn0 g i (j+1) b hi hb,if_neg (by omega)]
   ·rw[if_neg h2,if_neg (by omega)]
def Bh2:∀(k i:Nat) (g:List Rec),(xl k i g).length=g.length
 |0,_,_=>rfl
 |k+1,i,g=>by show (xl k (i+1) (lnk g i)).length=_;rw[Bh2,Y8]
def ib (z:Zone):(chainN z).length=(chain0 z (minE z)).length:=Bh2 _ _ _
def Ch3 {z:Zone} {j:Nat} {a:Rec} (h:(chain0 z (minE z))[j]? =some a):(chainN z)[j]? =some (nxt (chain0 z (minE z)) j a):=by unfold chainN;rw[Bh3 _ 0 _ (by omega) j a h,if_pos (by omega)]
def Ch4 {z:Zone} {ttl:Int} {a:Rec} (h:a∈chain0 z ttl):∃n∈namesN z,tyO z n≠0∧a=⟨n,47,ttl,⟨false,0,0,z.origin,[],[],0,0,0,0,0,0,chBits z n⟩⟩:=by
 unfold chain0 at h;rw[List.mem_filterMap] at h;obtain⟨n,hn,ha⟩:=h;unfold Ld at ha;split at ha
 ·cases ha
 ·rename_i h0;injection ha with ha;exact⟨n,hn,h0,ha.symm⟩
structure ChainOk (z:Zone) (l:List Rec):Prop where
 pos:0<l.length
 first:∀a,l[0]? =some a→a.name=z.origin
 last:∀a,l[l.length - 1]? =some a→a.data.host=z.origin
 each:∀a∈l,a.typ=47∧bit a.data.bits 47=1∧bit a.data.bits 46=1∧(∃r∈z.recs,r.name=a.name)∧under a.name z.origin=true
 next:∀i a b,l[i]? =some a→l[i+1]? =some b→a.data.host=b.name∧ltN a.name b.name
def Ch2 {z:Zone} {j:Nat} {b:Rec} (h:(chainN z)[j]? =some b):∃a,(chain0 z (minE z))[j]? =some a∧b=nxt (chain0 z (minE z)) j a:=by have hlt:=(Bp.1 h).1;rw[ib] at hlt;have e:=Bs hlt;refine⟨_,e,?_⟩;rw[Ch3 e] at h;injection h with h;exact h.symm
end Go.X.G
/- Wildcards; what a zone says about a question. -/
namespace Go.X.G
open Go Go.X
def Um (n:List UInt8) (r:Rec):Rec:={r with name:=n}
def Bf3 (l:List Rec) (n:List UInt8) (i:Nat) (c:Rec) (r g:List Rec) (hd:l.drop i=c::r) (hi:i<l.length) (hc:l[i]? =some c) (hg:g=(l.take i).map (Um n)++l.drop i):
  g[i]? =some c∧g.length=l.length∧g.set i {c with name:=n}=(l.take (i+1)).map (Um n)++l.drop (i+1):=by
 have hA:((l.take i).map (Um n)).length=i:=by rw[D8,Cq];omega
 have hd1:l.drop (i+1)=r:=by rw[←D5 (i:=1) (j:=i),hd];rfl
 have ht:(l.take (i+1)).map (Um n)=(l.take i).map (Um n)++[Um n c]:=by rw[Df,hc,It5];rfl
 rw[ht,hd1];rw[hd] at hg;have hlen:l.length=i+(r.length+1):=by have:=congrArg List.length hd;rw[C7,Cv] at this;omega
 generalize (l.take i).map (Um n)=A at*;subst hg;refine⟨?_,?_,?_⟩
 ·rw[Cc (by omega),hA];simp
 ·rw[B3,Cv,hA];omega
 ·rw[Ph _ _ (by omega),hA];simp[Um]
def Gz7 (z:Zone) (q:Ques) (l:List Rec) (p2 p3 p4 p5:PV) (N:Nat) (hN:l.length<N) (hl:l.length≤1000000):
  Gj6.ev S N [z.pv,q.pv,p2,p3,p4,p5,B6 l]=some (.yld 0 [B6 (l.map (Um q.name))]):=by
 refine Ed l (fun i (g:List Rec)=>[B6 g,.i .i64 (i:Int)]) (fun i g r=> .yld 0 [B6 (l.map (Um q.name))]) (fun i g=>g=(l.take i).map (Um q.name)++l.drop i) l (by simp(disch:=omega)only[Ab,simprocAttr]) (by simp) hN (fun i g c r hd hi hc hI=> ?_) (fun g hI=> ?_)
 ·left;obtain⟨h1,h2,h3⟩:=Bf3 l q.name i c r g hd hi hc hI;refine⟨g.set i {c with name:=q.name},?_,h3,rfl⟩;have hs:Q7 16 0 [.s q.name] (B6 g) (.i .i64 (i:Int))=some (B6 (g.set i {c with name:=q.name})):=by have:=sj g .i64 (i:Int) q.name c (by omega) (by rw[F0];exact h1);rwa[F0] at this
  generalize g.set i {c with name:=q.name}=g' at*;simp(disch:=omega)only[Bt9,h1,hs,EVM,EVC,EVR,Ad,simprocAttr]
 ·have e:g=l.map (Um q.name):=by rw[hI];simp
  rw[←e];simp(disch:=omega)only[Bt9,EVM,EVC,EVR,Ad,simprocAttr]
  try simp[Out.goes]
def Cj7 (z:Zone) (q:Ques):Option Res:=
 if starOk (encN z q.name)=true∧allR z (starN (encN z q.name))≠[] then
  some {saysM ((allR z (starN (encN z q.name))).map (Um q.name)) q.typ with owner:=starN (encN z q.name),wild:=true}
 else none
def Xf (z:Zone) (n:List UInt8):(allR z n).length≤z.recs.length:=Ef _ _
def Xq (z:Zone) (n:List UInt8):(encN z n).length≤254:=by
 unfold encN;rcases Bl (under n z.origin) with hu|hu
 ·rw[if_pos hu];cases h:Cm6 z n with
  |none=>simp
  |some e=>exact Gc (C2.1 (O5 hu h).1).2.1
 ·rw[if_neg (by simp[hu])];simp
def Ck2:starOk []=false:=by decide
def Gz6 (z:Zone) (q:Ques) (hz:z.wf) (hl:z.recs.length≤1000) (hq:q.name.length≤9223372036854775807):S Dg9 2 [z.pv,q.pv]=some (Nh (Cj7 z q)):=by
 refine Jb2 (N:=2000) rfl ?_;have k1:=Vd z q.name hz hl hq;have el:=Xq z q.name;have k2:=Xh (encN z q.name) (by omega);have k3:=Bg3 z (starN (encN z q.name)) (by omega);have al:=Xf z (starN (encN z q.name));unfold Cj7;by_cases h1:encN z q.name=[]
 ·rw[h1] at k1 ⊢;rw[Ck2,if_neg (by simp)];simp(disch:=omega)only[Bt9,k1,Nh,EVM,EVC,EVR,Ad,simprocAttr]
  try simp
 ·have h2:decide (encN z q.name≠[])=true:=by simp[h1]
  rw[h2] at k1;rcases Bl (starOk (encN z q.name)) with h3|h3
  ·rw[h3] at k2;by_cases h4:allR z (starN (encN z q.name))=[]
   ·rw[if_neg (by simp[h4])];rw[h4] at k3;simp(disch:=omega)only[Bt9,k1,k2,k3,Nh,EVM,EVC,EVR,Ad,simprocAttr]
    try simp
   ·rw[if_pos ⟨h3,h4⟩];have h5:¬((allR z (starN (encN z q.name))).length:Int)=0:=by have:=Cl.2 h4;omega
    have k4:=fun p2 p3 p4 p5=>Gz7 z q (allR z (starN (encN z q.name))) p2 p3 p4 p5 2000 (by omega) (by omega);have k5:=Dk6 ((allR z (starN (encN z q.name))).map (Um q.name)) q.typ (by rw[D8];omega);generalize (allR z (starN (encN z q.name))).map (Um q.name)=ml at*;generalize allR z (starN (encN z q.name))=al at*;simp(disch:=omega)only[Bt9,k1,k2,k3,k4,k5,h5,Nh,EVM,EVC,EVR,Ad,simprocAttr]
  ·rw[h3] at k2;rw[if_neg (by simp[h3])];generalize allR z (starN (encN z q.name))=al at*;simp(disch:=omega)only[Bt9,k1,k2,k3,Nh,EVM,EVC,EVR,Ad,simprocAttr]
   try simp
def Cc3 (z:Zone) (q:Ques):Res:=
 match Fs6 z q.name with
 |some x=>x
 |none=>if exB z q.name=true then {saysM (allR z q.name) q.typ with owner:=q.name} else(Cj7 z q).getD ⟨6,q.name,false,[],[]⟩
def findM (z:Zone) (q:Ques):Res:=
 if under q.name z.origin=true then
  if cutN z q.name≠[]∧(cutN z q.name≠q.name∨q.typ≠43) then ⟨4,cutN z q.name,false,[],findR z.recs (cutN z q.name) 2⟩ else Cc3 z q
 else Jk7
def Gn5 (z:Zone) (q:Ques) (hz:z.wf) (hl:z.recs.length≤1000) (hq:q.name.length≤9223372036854775807):S Dl8 2 [z.pv,q.pv]=some [(findM z q).pv]:=by
 refine Jh0 (N:=1) rfl ?_;have g1:=hz.origin;unfold Lh at g1;have k0:=Gj q.name z.origin hq g1;have k1:=Gy5 z q.name hz (by omega) hq;have k2:=jf z (cutN z q.name) 2 (by omega);have k4:=Bt8 z q.name hz hl;have k5:=Bg3 z q.name (by omega);have al:=Xf z q.name;have k6:=Dk6 (allR z q.name) q.typ (by omega);have k7:=Gz6 z q hz hl hq;unfold findM;rcases Bl (under q.name z.origin) with hu|hu
 ·rw[if_pos hu];rw[hu] at k0;have k3:=pj z q.name hz (by omega) hu;have tail:∀p3 p4,T.ev S 1 Al4 [z.pv,q.pv,.b true,p3,p4]=some (.ret [(Cc3 z q).pv]):=by
   intro p3 p4;unfold Cc3;cases hr:Fs6 z q.name with
   |some x=>
    rw[hr] at k3;simp only[Nh] at k3;simp(disch:=omega)only[jm,k3,EVM,EVC,EVR,Ad,simprocAttr]
   |none=>
    rw[hr] at k3;simp only[Nh] at k3;rcases Bl (exB z q.name) with he|he
    ·rw[he] at k4;simp only[he,if_true];generalize saysM (allR z q.name) q.typ=sm at*;generalize allR z q.name=ar at*;simp(disch:=omega)only[jm,k3,k4,k5,k6,EVM,EVC,EVR,Ad,simprocAttr]
    ·rw[he] at k4;simp only[he,B5,if_false];cases hw:Cj7 z q with
     |some x=>
      rw[hw] at k7;simp only[Nh] at k7;simp(disch:=omega)only[jm,k3,k4,k7,EVM,EVC,EVR,Ad,simprocAttr]
      try rfl
     |none=>
      rw[hw] at k7;simp only[Nh] at k7;simp(disch:=omega)only[jm,k3,k4,k7,EVM,EVC,EVR,Ad,simprocAttr]
      try rfl
  by_cases h1:cutN z q.name=[]
  ·rw[h1] at k1;rw[if_neg (by simp[h1])];simp(disch:=omega)only[↓tail,jm,k0,k1,ne_eq,not_true,decide_false,EVM,EVC,EVR,Ad,simprocAttr]
  ·have h2:decide (cutN z q.name≠[])=true:=by simp[h1]
   rw[h2] at k1;by_cases h3:cutN z q.name=q.name
   ·by_cases h4:q.typ=43
    ·rw[if_neg (by simp[h3,h4])];rw[h3] at k1;simp(disch:=omega)only[↓tail,jm,k0,k1,h4,EVM,EVC,EVR,Ad,simprocAttr]
    ·rw[if_pos ⟨h1,.inr h4⟩];rw[h3] at k1 k2 ⊢;generalize findR z.recs q.name 2=fr at*;simp(disch:=omega)only[jm,k0,k1,k2,h4,EVM,EVC,EVR,Ad,simprocAttr]
   ·rw[if_pos ⟨h1,.inl h3⟩];generalize findR z.recs (cutN z q.name) 2=fr at*;simp(disch:=omega)only[jm,k0,k1,k2,h3,EVM,EVC,EVR,Ad,simprocAttr]
 ·rw[if_neg (by simp[hu])];rw[hu] at k0;simp(disch:=omega)only[jm,k0,EVM,EVC,EVR,Ad,simprocAttr]
def Fx2 (z:Zone) (q:Ques) (l:List Rec) (p2 p3 p4 p5 p6 p7 p8 p9 p10 p11:PV) (N:Nat) (hN:l.length<N) (hl:l.length≤1000000):
  Gk1.ev S N [z.pv,q.pv,p2,p3,p4,p5,p6,p7,p8,p9,p10,p11,B6 l]=some (.yld 0 [B6 (l.map (Um q.name))]):=by
 refine Ed l (fun i (g:List Rec)=>[B6 g,.i .i64 (i:Int)]) (fun i g r=> .yld 0 [B6 (l.map (Um q.name))]) (fun i g=>g=(l.take i).map (Um q.name)++l.drop i) l (by simp(disch:=omega)only[Ab,simprocAttr]) (by simp) hN (fun i g c r hd hi hc hI=> ?_) (fun g hI=> ?_)
 ·left;obtain⟨h1,h2,h3⟩:=Bf3 l q.name i c r g hd hi hc hI;refine⟨g.set i {c with name:=q.name},?_,h3,rfl⟩;have hs:Q7 16 0 [.s q.name] (B6 g) (.i .i64 (i:Int))=some (B6 (g.set i {c with name:=q.name})):=by have:=sj g .i64 (i:Int) q.name c (by omega) (by rw[F0];exact h1);rwa[F0] at this
  generalize g.set i {c with name:=q.name}=g' at*;simp(disch:=omega)only[Sj,h1,hs,EVM,EVC,EVR,Ad,simprocAttr]
 ·have e:g=l.map (Um q.name):=by rw[hI];simp
  have hgl:g.length=l.length:=by rw[e,D8]
  rw[←e];simp(disch:=omega)only[Sj,EVM,EVC,EVR,Ad,simprocAttr]
  try simp[Out.goes]
def Dq6 {z:Zone} {n u:List UInt8} (h:El5 z n=some u):∃r rest,findR z.recs u 39=r::rest:=by
 unfold El5 at h;have:=List.find?_some h;unfold dnB at this;cases hf:findR z.recs u 39 with
 |nil=>rw[hf] at this;simp at this
 |cons r rest=>exact⟨r,rest,rfl⟩
def Fx7 {z:Zone} {n u:List UInt8} (hu:under n z.origin=true) (h:El5 z n=some u):u.length≤254:=by unfold El5 at h;have h1:=G5 (List.mem_of_find?_eq_some h);exact Gc (C2.1 ((Lv hu).1 h1).2).1
def Fx5 (z:Zone) (q:Ques) (hz:z.wf) (hl:z.recs.length≤1000) (hq:q.name.length≤9223372036854775807) (hdn:∀u,(findR z.recs u 39).length≤1):S Dh3 2 [z.pv,q.pv]=some [(findM z q).pv]:=by
 refine Jb9 (N:=2000) rfl ?_;have g1:=hz.origin;unfold Lh at g1;have k0:=Gy q.name z.origin hq g1;have k1:=Ax3 z q.name hz (by omega) hq;have k2:=Un z (cutN z q.name) 2 (by omega);have k4:=Cq9 z q.name hz hl;have k5:=Bt6 z q.name (by omega);have al:=Xf z q.name;have k6:=sq (allR z q.name) q.typ (by omega);unfold findM;rcases Bl (under q.name z.origin) with hu|hu
 ·rw[if_pos hu];rw[hu] at k0;have k3:=Gf6 z q.name (by omega) hu;have tail:∀p3 p4,T.ev S 2000 Ah1 [z.pv,q.pv,.b true,p3,p4]=some (.ret [(Cc3 z q).pv]):=by
   intro p3 p4;unfold Cc3 Fs6;cases hr:El5 z q.name with
   |some u=>
    rw[hr] at k3;simp only at k3;obtain⟨r,rest,hf⟩:=Dq6 hr;have hu1:=hdn u;rw[hf,Cv] at hu1;have hrest:rest=[]:=List.length_eq_zero_iff.1 (by omega);subst hrest;have hrw:=Bm1 hz (n:=u) (t:=39) (r:=r) (by rw[hf];exact .head _);have hh:=hrw.data.host;unfold Lh at hh;have ul:=Fx7 hu hr;have k8:=Un z u 39 (by omega);have k9:=Ax2 q.name u r.data.host hq (by omega) hh;rw[hf] at k8;simp only[Cf,s7,hf];have hix:Jf 16 (B6 [r]) (.i .i64 0)=some r.pv:=by rw[L8 _ _ _ (by omega)];rfl
    unfold j8;generalize replN q.name u r.data.host=rp at*;obtain⟨to,er⟩:=rp;generalize [r]=ll at*;cases to with
    |nil=>
     simp(disch:=omega)only[Sj,k3,k8,k9,hix,EVM,EVC,EVR,Ad,simprocAttr]
     try simp
    |cons c tr=>
     have hp:(0:Int)<((c::tr).length:Int):=by simp only[Cv];omega
     by_cases hc:c=42
     ·subst hc;simp(disch:=first|omega|(simp only[Cv];omega))only[Sj,k3,k8,k9,hix,EVM,EVC,EVR,Ad,simprocAttr]
      try simp
     ·have hc2:¬(c.toNat:Int)=42:=fun h=>hc ((c42 c).1 h);simp(disch:=first|omega|(simp only[Cv];omega))only[Sj,k3,k8,k9,hix,hc2,EVM,EVC,EVR,Ad,simprocAttr]
      try simp[hc]
   |none=>
    rw[hr] at k3;simp only at k3;simp only[Option.map_none];rcases Bl (exB z q.name) with he|he
    ·rw[he] at k4;simp only[he,if_true];generalize saysM (allR z q.name) q.typ=sm at*;generalize allR z q.name=ar at*;simp(disch:=omega)only[Sj,k3,k4,k5,k6,EVM,EVC,EVR,Ad,simprocAttr]
    ·rw[he] at k4;simp only[he,B5,if_false];have e1:=Vr z q.name hz hl hq;have el:=Xq z q.name;have e2:=Bt5 (encN z q.name) (by omega);have e3:=Bt6 z (starN (encN z q.name)) (by omega);have al:=Xf z (starN (encN z q.name));unfold Cj7;rcases Bl (starOk (encN z q.name)) with h3|h3
     ·rw[h3] at e2;by_cases h4:allR z (starN (encN z q.name))=[]
      ·rw[if_neg (by simp[h4])];rw[h4] at e3;simp(disch:=omega)only[Sj,k3,k4,e1,e2,e3,EVM,EVC,EVR,Ad,simprocAttr]
       try rfl
      ·rw[if_pos ⟨h3,h4⟩];have h5:¬((allR z (starN (encN z q.name))).length:Int)=0:=by have:=Cl.2 h4;omega
       have e4:=fun p2 p3 p4 p5 p6 p7 p8 p9 p10 p11=>Fx2 z q (allR z (starN (encN z q.name))) p2 p3 p4 p5 p6 p7 p8 p9 p10 p11 2000 (by omega) (by omega);have e5:=sq ((allR z (starN (encN z q.name))).map (Um q.name)) q.typ (by rw[D8];omega);generalize (allR z (starN (encN z q.name))).map (Um q.name)=ml at*;generalize allR z (starN (encN z q.name))=al at*;simp(disch:=omega)only[Sj,k3,k4,e1,e2,e3,e4,e5,h5,EVM,EVC,EVR,Ad,simprocAttr]
       try rfl
     ·rw[h3] at e2;rw[if_neg (by simp[h3])];generalize allR z (starN (encN z q.name))=al at*;simp(disch:=omega)only[Sj,k3,k4,e1,e2,e3,EVM,EVC,EVR,Ad,simprocAttr]
      try rfl
  by_cases h1:cutN z q.name=[]
  ·rw[h1] at k1;rw[if_neg (by simp[h1])];simp(disch:=omega)only[↓tail,Sj,k0,k1,ne_eq,not_true,decide_false,EVM,EVC,EVR,Ad,simprocAttr]
  ·have h2:decide (cutN z q.name≠[])=true:=by simp[h1]
   rw[h2] at k1;by_cases h3:cutN z q.name=q.name
   ·by_cases h4:q.typ=43
    ·rw[if_neg (by simp[h3,h4])];rw[h3] at k1;simp(disch:=omega)only[↓tail,Sj,k0,k1,h4,EVM,EVC,EVR,Ad,simprocAttr]
    ·rw[if_pos ⟨h1,.inr h4⟩];rw[h3] at k1 k2 ⊢;generalize findR z.recs q.name 2=fr at*;simp(disch:=omega)only[Sj,k0,k1,k2,h4,EVM,EVC,EVR,Ad,simprocAttr]
   ·rw[if_pos ⟨h1,.inl h3⟩];generalize findR z.recs (cutN z q.name) 2=fr at*;simp(disch:=omega)only[Sj,k0,k1,k2,h3,EVM,EVC,EVR,Ad,simprocAttr]
 ·rw[if_neg (by simp[hu])];rw[hu] at k0;simp(disch:=omega)only[Sj,k0,EVM,EVC,EVR,Ad,simprocAttr]
end Go.X.G
/- nsec: the reference's chain. -/
namespace Go.X.G
open Go Go.X
def t6 {z:Zone} {n:List UInt8} (h:n∈namesN z):O0 z n=false∧under n z.origin=true:=by obtain⟨r,hr,h1,h2,h3,h4⟩:=(U0 z n).1 h;refine⟨?_,h4⟩;rw[R6];intro hn;unfold O0 at hn h2;rw[Dz] at hn;obtain⟨c,hc,h5⟩:=hn;simp only[Br,decide_eq_true_eq] at h5;obtain⟨⟨c1,c2⟩,c3⟩:=h5;rw[List.any_eq_false] at h2;refine h2 c hc ?_;simp only[Br,decide_eq_true_eq];refine⟨⟨c1,fun e=> ?_⟩,Pl h3 c3⟩;rw[←e] at h3;exact c2 (dy h3 c3)
def Fl5 {z:Zone} {n:List UInt8} (h:n∈namesN z):(decide (cutN z n≠[]) && decide (cutN z n=n))=decide (n∈cutsN z):=by
 obtain⟨hh,hu⟩:=t6 h;have hv:=(C2.1 hu).1;rw[Ac4] at hh;obtain⟨h1,h2⟩:=Rm z n z.recs [] (.inl rfl);have e:cutN z n=c6 z n [] z.recs:=rfl;rw[←e] at h1 h2;rw[D9];simp only[Br,decide_eq_true_eq,Z0];constructor
 ·rintro⟨g1,g2⟩;obtain⟨_,g3,_⟩:=h2 g1;rcases g3 with g3|⟨r,hr,g3,g4⟩
  ·exact absurd g3 g1
  ·exact⟨r,hr,g3,g4.trans g2⟩
 ·rintro⟨r,hr,g1,g2⟩;have g3:cutN z n≠[]:=fun q=>by have:=(h1 q).2 r hr g1;rw[g2,Pm hv] at this;cases this
  refine⟨g3,?_⟩;simp only[H2,decide_eq_false_iff_not,ne_eq,Hl] at hh;exact hh.resolve_left g3
def Iq0 (t:Int):orB (orB t 140737488355328) 70368744177664=orB t o0:=by
 have h:bv (orB t 140737488355328)|||bv 70368744177664=bv t|||bv o0:=by rw[Kw4,BitVec.or_assoc];congr 1
 have e1:orB (orB t 140737488355328) 70368744177664=IntKind.u64.wrap ((bv (orB t 140737488355328)|||bv 70368744177664).toNat:Int):=rfl;rw[e1,h];rfl
def Q0:List Rec→Int
 |[]=>0
 |r::l=>if r.typ=6 then r.data.e else Q0 l
def xf (z:Zone) (hl:z.recs.length≤1000000):S Dh4 1 [z.pv]=some [.i .i64 (Q0 z.recs)]:=by
 refine Jc4 (N:=z.recs.length+1) rfl ?_;have key:Gk4.ev S (z.recs.length+1) [z.pv]=some (if z.recs.any (fun r=>decide (r.typ=6))=true then .ret [.i .i64 (Q0 z.recs)] else .yld 0 []):=by
  refine E2 z.recs (fun i=>[.i .i64 (i:Int)]) (fun i r=>if r.any (fun r=>decide (r.typ=6))=true then .ret [.i .i64 (Q0 r)] else .yld 0 []) rfl (by omega) (fun i c r hd hi hc=> ?_) ?_
  ·by_cases h:c.typ=6
   ·right;simp(disch:=omega)only[Cp5,hc,h,Ac,simprocAttr];simp[h,Q0,Out.goes]
   ·left;simp(disch:=omega)only[Cp5,hc,h,Ac,simprocAttr];simp[h,Q0]
  ·simp(disch:=omega)only[Cp5,Ac,simprocAttr];simp[Out.goes]
 rcases Bl (z.recs.any (fun r=>decide (r.typ=6))) with h|h<;>rw[h] at key
 ·simp(disch:=omega)only[Cp5,key,Ac,simprocAttr]
  try simp
 ·have:Q0 z.recs=0:=by
   generalize z.recs=l at h
   induction l with
   |nil=>rfl
   |cons r l ih=>
    rw[List.any_cons,G7] at h;unfold Q0;rw[if_neg (by simpa using h.1)];exact ih h.2
  rw[this];simp(disch:=omega)only[Cp5,key,Ac,simprocAttr]
  try simp
def Cc8 {z:Zone} (ho:ZOk z):Q0 z.recs=minE z:=by
 have hs:∀r∈z.recs,r.typ=6→r.data.e=minE z:=fun r hr ht=>by have:=ho.recs r hr;unfold M6 at this;simp only[ht,Br,decide_true,Uj,Cg,decide_eq_false_iff_not,Hl,ne_eq] at this;have hm:r∈findR z.recs z.origin 6:=Mm.2 ⟨hr,this.1.1.2,ht⟩;obtain⟨s,es⟩:=jv.1 ho.soa;unfold minE;rw[es] at hm ⊢;rw[Dr.1 hm]
 have hx:∃r∈z.recs,r.typ=6:=by obtain⟨r,hr,_,ht⟩:=ho.soaR;exact⟨r,hr,ht⟩
 generalize minE z=m at*;generalize z.recs=l at*
 induction l with
 |nil=>obtain⟨r,hr,_⟩:=hx;cases hr
 |cons r l ih=>
  unfold Q0;by_cases h:r.typ=6
  ·rw[if_pos h];exact hs r (.head _) h
  ·rw[if_neg h];refine ih ?_ (fun x hx=>hs x (.tail _ hx));obtain⟨x,hx,ht⟩:=hx;rcases Cj.1 hx with e|hx
   ·rw[e] at ht;exact absurd ht h
   ·exact⟨x,hx,ht⟩
def Cm1 (z:Zone) (hz:z.wf) (ho:ZOk z) (hl:z.recs.length≤1000) (p1:PV) (N:Nat) (hN:(namesN z).length<N):
  Gq8.ev S N [z.pv,p1,Cn (namesN z)]=some (.yld 0 [B6 (chain0 z (minE z))]):=by
 have hor:(chain0 z (minE z))=[]++(namesN z).filterMap (Ld z (minE z)):=rfl;rw[hor];have hn:=Jk z hl;have kt:=fun n=>Eg2 z.recs n (by omega);have km:=xf z (by omega);rw[Cc8 ho] at km;have b47:S Rw 1 [.i .i64 47]=some [.i .u64 140737488355328]:=by simpa using T1 47 (by decide)
 have b46:S Rw 1 [.i .i64 46]=some [.i .u64 70368744177664]:=by simpa using T1 46 (by decide)
 have b43:S Rw 1 [.i .i64 43]=some [.i .u64 8796093022208]:=by simpa using T1 43 (by decide)
 have b2:S Rw 1 [.i .i64 2]=some [.i .u64 4]:=by simpa using T1 2 (by decide)
 have o1:X.bin .or (.i .u64 140737488355328) (.i .u64 70368744177664)=some (.i .u64 o0):=by kernel_rfl
 have o2:X.bin .or (.i .u64 4) (.i .u64 8796093022208)=some (.i .u64 Ak1):=by kernel_rfl
 refine Ed (N:=N) (namesN z) (fun i (g:List Rec)=>[B6 g,.i .i64 (i:Int)]) (fun i g r=> .yld 0 [B6 (g++r.filterMap (Ld z (minE z)))]) (fun i g=>g.length≤i) [] rfl (Db _) hN (fun i g c r hd hi hc hI=> ?_) (fun g hI=> ?_)
 ·left;have hm:=Ck hc;have hcut:=Fl5 hm;have hv:=Gc (C2.1 (t6 hm).2).1;have kc:=Ax3 z c hz (by omega) (by omega);have e1:=Gx7 ((typesR z.recs c).foldl bitO 0) o0;have e2:anB ((typesR z.recs c).foldl bitO 0) o0=tyO z c:=rfl;rw[e2] at e1;have kt:=kt c;have eb:chBits z c=orB (if c∈cutsN z then adB (tyO z c) Ak1 else tyO z c) o0:=rfl;have hil:(i:Int)<((namesN z).length:Int):=by omega
  by_cases h0:tyO z c=0
  ·have hci:Ld z (minE z) c=none:=by unfold Ld;rw[if_pos h0]
   refine⟨g,?_,by omega,by rw[Gy3,hci]⟩;rw[h0] at e1;generalize (typesR z.recs c).foldl bitO 0=ty at*;generalize namesN z=nn at*;simp(disch:=omega)only[jp,hc,hil,kt,b47,b46,o1,e1,Ac,simprocAttr]
  ·have hci:Ld z (minE z) c=some ⟨c,47,minE z,⟨false,0,0,z.origin,[],[],0,0,0,0,0,0,chBits z c⟩⟩:=by unfold Ld;rw[if_neg h0]
   refine⟨g++[⟨c,47,minE z,⟨false,0,0,z.origin,[],[],0,0,0,0,0,0,chBits z c⟩⟩],?_,by simp;omega,by rw[Gy3,hci,Cw];rfl⟩;have fin:∀t,X.bin .or (.i .u64 t) (.i .u64 140737488355328)=some (.i .u64 (orB t 140737488355328)):=fun t=>Df6 _ _;have fin2:∀t,X.bin .or (.i .u64 (orB t 140737488355328)) (.i .u64 70368744177664)=some (.i .u64 (orB t o0)):=fun t=>by rw[Df6,Iq0]
   have ea:=Gx8 (tyO z c) Ak1;generalize (typesR z.recs c).foldl bitO 0=ty at*;rw[eb];by_cases h1:c∈cutsN z
   ·rw[if_pos h1];rw[decide_eq_true h1] at hcut;simp only[Br,decide_eq_true_eq] at hcut;obtain⟨g1,g2⟩:=hcut;have g1':decide (cutN z c≠[])=true:=decide_eq_true g1;rw[g1',g2] at kc;have f1:=fin (adB (tyO z c) Ak1);have f2:=fin2 (adB (tyO z c) Ak1);generalize orB (adB (tyO z c) Ak1) o0=bits at*;generalize orB (adB (tyO z c) Ak1) 140737488355328=mid at*;generalize adB (tyO z c) Ak1=u at*;generalize tyO z c=t at*;generalize namesN z=nn at*;generalize minE z=me at*;simp(disch:=omega)only[jp,hc,hil,kt,kc,km,b47,b46,b43,b2,o1,o2,e1,ea,f1,f2,h0,Ev,Ep,Ac,simprocAttr]
   ·rw[if_neg h1];rw[decide_eq_false h1] at hcut;have f1:=fin (tyO z c);have f2:=fin2 (tyO z c);generalize orB (tyO z c) o0=bits at*;generalize orB (tyO z c) 140737488355328=mid at*;generalize tyO z c=t at*;generalize namesN z=nn at*;generalize minE z=me at*;generalize cutN z c=cu at*;by_cases g1:cu=[]
    ·have g1':decide (cu≠[])=false:=by simp[g1]
     rw[g1'] at kc;simp(disch:=omega)only[jp,hc,hil,kt,kc,km,b47,b46,o1,e1,f1,f2,h0,Ev,Ep,Ac,simprocAttr]
    ·have g1':decide (cu≠[])=true:=by simp[g1]
     rw[g1',Uj,decide_eq_false_iff_not] at hcut;rw[g1'] at kc;simp(disch:=omega)only[jp,hc,hil,kt,kc,km,b47,b46,o1,e1,f1,f2,h0,hcut,Ev,Ep,Ac,simprocAttr]
 ·generalize namesN z=nn at*;simp(disch:=omega)only[jp,Ak0,Ac,simprocAttr];simp[Out.goes]
def Fc7 (c0:List Rec):xl (c0.drop 1).length 1 c0=xl c0.length 0 c0:=by
 cases c0 with
 |nil=>rfl
 |cons a l=>rfl
def Cm0 (c0:List Rec) (hl:c0.length≤1000000) (N:Nat) (hN:c0.length<N) (p0 p1 p2:PV):
  Ft9.ev S N [p0,p1,p2,B6 c0]=some (.yld 0 [B6 (xl c0.length 0 c0)]):=by
 rw[←Fc7];refine Ed (N:=N) (c0.drop 1) (fun i (g:List Rec)=>[B6 g,.i .i64 (i:Int)]) (fun i g r=> .yld 0 [B6 (xl r.length (i+1) g)]) (fun i g=>g.length=c0.length) c0 rfl rfl (by rw[C7];omega) (fun i g c r hd hi hc hI=> ?_) (fun g hI=> ?_)
 ·left;rw[C7] at hi;refine⟨lnk g (i+1),?_,by rw[Y8];exact hI,rfl⟩;have hgl:(g.length:Int)=(c0.length:Int):=by omega
  have hil:(i:Int)+1<(c0.length:Int):=by omega
  have e1:(i:Int)+1=((i+1:Nat):Int):=by omega
  have a1:g[i]? =some (g[i]'(by omega)):=Bs (by omega);have a2:g[i+1]? =some (g[i+1]'(by omega)):=Bs (by omega);unfold lnk;rw[if_pos (by omega),Kg,a1,a2];simp only;generalize g[i]'(by omega)=a at*;generalize g[i+1]'(by omega)=b at*;have e3:=Hc8 g i b.name a a1;have e4:((i:Int)+1).toNat=i+1:=by omega
  simp(disch:=omega)only[jp,hgl,hil,e3,e4,a1,a2,Ac,simprocAttr]
 ·rw[C7] at*;have hgl:(g.length:Int)=(c0.length:Int):=by omega
  have hil:¬((c0.length - 1:Nat):Int)+1<(c0.length:Int):=by omega
  simp(disch:=omega)only[jp,hgl,hil,Ac,simprocAttr];simp[Out.goes,xl]
def i9 (z:Zone) (hz:z.wf) (hl:z.recs.length≤1000):S Cb1 1 [z.pv]=some (if Jh z=0 then [B6 (chainN z),.i .i64 0] else [B6 [],.i .i64 13]):=by
 have hn:=Jk z hl;have hcl:=Vq z (minE z);refine Jh4 (N:=(namesN z).length+1) rfl ?_;have k1:=Cl9 z hz;by_cases h:Jh z=0
 ·rw[if_pos h];rw[h] at k1;have ho:=Tr h;have k4:=Rk z hz (by omega);have l0:=Cm1 z hz ho hl (.i .i64 0) ((namesN z).length+1) (by omega);have l1:=Cm0 (chain0 z (minE z)) (by omega) ((namesN z).length+1) (by omega);have ec:xl (chain0 z (minE z)).length 0 (chain0 z (minE z))=chainN z:=rfl;rw[ec] at l1;generalize chainN z=cn at*;generalize chain0 z (minE z)=c0 at*;generalize namesN z=nn at*;simp(disch:=omega)only[jp,k1,k4,l0,l1,Ev,Ep,Ac,simprocAttr]
 ·rw[if_neg h];simp(disch:=omega)only[jp,k1,h,Ev,Ep,Ac,simprocAttr]
end Go.X.G
/- What a checked zone says about a question, in plain words. -/
namespace Go.X.G
open Go Go.X
def Cy4 {z:Zone} {n:List UInt8} (ho:ZOk z) (hu:under n z.origin=true) (hx:exB z n=false) (hc:cutN z n=[]∨cutN z n=n):∀r∈z.recs,under r.name n=false:=by
 intro r hr;rcases Bl (under r.name n) with h|h
 ·exfalso;have h1:=ho.under hr;have hh:O0 z r.name=true:=by
   rcases Bl (O0 z r.name) with e|e
   ·exact e
   ·have:=(Tl z n).2 ⟨r,hr,h1,e,h,hu⟩;rw[hx] at this;cases this
  rw[Ac4] at hh;simp only[Br,decide_eq_true_eq] at hh;obtain⟨c1,_,_,_,_,c2⟩:=zb ho hh.1;obtain⟨_,g2⟩:=Rm z r.name z.recs [] (.inl rfl);obtain⟨_,g3,_,_⟩:=g2 hh.1;obtain⟨x,hxm,x1,x2⟩:=g3.resolve_left hh.1;change x.name=cutN z r.name at x2;generalize cutN z r.name=c at*;obtain⟨_,_,s1⟩:=C2.1 c1;obtain⟨_,vn,s2⟩:=C2.1 h;obtain⟨_,vc,_⟩:=C2.1 c1;by_cases hl:(lbl n).length≤(lbl c).length
  ·have hcn:under c n=true:=C2.2 ⟨vc,vn,Av6 s2 s1 hl⟩;obtain⟨y,y1,y2,y3,y4,_⟩:=(Tl z c).1 c2;have:=(Tl z n).2 ⟨y,y1,y2,y3,Pl y4 hcn,hu⟩;rw[hx] at this;cases this
  ·have hnc:under n c=true:=C2.2 ⟨vn,vc,Av6 s1 s2 (by omega)⟩;obtain⟨k1,k2⟩:=Rm z n z.recs [] (.inl rfl);rcases hc with hc|hc
   ·have:=(k1 hc).2 x hxm x1;rw[x2,hnc] at this;cases this
   ·by_cases hc0:cutN z n=[]
    ·have:=(k1 hc0).2 x hxm x1;rw[x2,hnc] at this;cases this
    ·obtain⟨_,_,_,k3⟩:=k2 hc0;have:=k3 x hxm x1 (by rw[x2];exact hnc);change (lbl (cutN z n)).length≤_ at this;rw[hc,x2] at this;omega
 ·exact h
def Pj (z:Zone) (n:List UInt8) (t:Int):Nat:=(z.recs.filter fun r=>decide (r.name=n) && (decide (t=255)||decide (r.typ=t))).length
def Ny (z:Zone) (n:List UInt8) (t:Int):Pj z n t=(typedR (allR z n) t).length:=by
 unfold Pj typedR allR;split
 ·rename_i h;subst h;simp
 ·rename_i h;rw[List.filter_filter];congr 1;refine List.filter_congr fun r _=> ?_;simp[h,Bool.and_comm]
def Cg8 (z:Zone) (n:List UInt8):Pj z n 2=(findR z.recs n 2).length:=by unfold Pj findR;congr 1
def ql {l:List Rec} {t:Int} {x:Rec} (h:x∈typedR l t):x∈l∧(x.typ=t∨t=255):=by
 unfold typedR at h;split at h
 ·rename_i e;exact⟨h,.inr e⟩
 ·obtain⟨h1,h2⟩:=C8.1 h;exact⟨h1,.inl (by simpa using h2)⟩
def qh (l:List Rec) (n:List UInt8) (t:Int):(typedR (l.map (Um n)) t).length=(typedR l t).length:=by
 unfold typedR;split
 ·simp
 ·rw[List.filter_map,D8];rfl
structure FindOk (z:Zone) (q:Ques) (r:Res):Prop where
 ans:r.kind=1→r.recs≠[]∧r.recs.length=Pj z r.owner q.typ∧(r.wild=false→r.owner=q.name)∧∀x∈r.recs,x.name=q.name∧(x.typ=q.typ∨q.typ=255)∧{x with name:=r.owner}∈z.recs
 nothing:r.kind=6∨r.wild=true→∀x∈z.recs,under x.name q.name=false
 out:r.kind=0→under q.name z.origin=false
 nodata:r.kind=5→Pj z r.owner q.typ=0
 nx:r.kind=6→r.recs=[]∧r.wild=false
 ref:r.kind=4→under q.name r.owner=true∧r.owner≠z.origin∧r.recs.length=Pj z r.owner 2∧r.recs≠[]∧∀x∈r.recs,x.typ=2
 kinds:r.kind=0∨r.kind=1∨(r.kind=2∧r.recs≠[])∨(r.kind=3∧r.recs≠[])∨r.kind=4∨r.kind=5∨r.kind=6
def says_kind (l:List Rec) (t:Int):((saysM l t).kind=2∧(saysM l t).recs≠[])∨((saysM l t).kind=5∧typedR l t=[])∨((saysM l t).kind=1∧typedR l t≠[]∧(saysM l t).recs=typedR l t):=by
 unfold saysM;split
 ·exact .inl ⟨rfl,by simp⟩
 ·split
  ·rename_i h;exact .inr (.inl ⟨rfl,h⟩)
  ·rename_i h;exact .inr (.inr ⟨rfl,h,rfl⟩)
def X8 (l:List Rec) (t:Int):(saysM l t).wild=false:=by
 unfold saysM;split
 ·rfl
 ·split<;>rfl
def ym (z:Zone) (q:Ques) (ho:ZOk z):FindOk z q (findM z q):=by
 unfold findM;split
 ·rename_i hu;split
  ·rename_i hc;obtain⟨f1,f2,f3,_⟩:=zb ho hc.1;refine⟨fun h=>by simp at h,fun h=>by simp at h,fun h=>by simp at h,fun h=>by simp at h,fun h=>by simp at h,fun _=>⟨f1,f2,(Cg8 z _).symm,fun e=>f3 (by have e':findR z.recs (cutN z q.name) 2=[]:=e;rw[e'];rfl),fun x hx=>(Mm.1 hx).2.2⟩,by simp⟩
  ·rename_i hc;have hc':cutN z q.name=[]∨cutN z q.name=q.name:=by
    by_cases h0:cutN z q.name=[]
    ·exact .inl h0
    ·refine .inr (Classical.byContradiction fun h1=>hc ⟨h0,.inl h1⟩)
   unfold Cc3;cases hr:Fs6 z q.name with
   |some x=>
    simp only;unfold Fs6 at hr;cases hr2:El5 z q.name with
    |none=>rw[hr2] at hr;cases hr
    |some u=>
     rw[hr2] at hr;simp only[Cf,Bn] at hr;obtain⟨r0,rest,hf⟩:=Dq6 hr2;unfold s7 at hr;rw[hf] at hr;subst hr;exact⟨fun h=>by simp at h,fun h=>by simp at h,fun h=>by simp at h,fun h=>by simp at h,fun h=>by simp at h,fun h=>by simp at h,by simp⟩
   |none=>
    simp only;split
    ·rename_i hex;rcases says_kind (allR z q.name) q.typ with⟨k,k'⟩|⟨k,kt⟩|⟨k,kt,kr⟩
     ·refine⟨fun h=> ?_,fun h=> ?_,fun h=> ?_,fun h=> ?_,fun h=> ?_,fun h=> ?_,.inr (.inr (.inl ⟨k,k'⟩))⟩<;>simp[k,X8] at h
     ·refine⟨fun h=> ?_,fun h=> ?_,fun h=> ?_,fun _=> ?_,fun h=> ?_,fun h=> ?_,by simp[k]⟩
      ·simp[k] at h
      ·simp[k,X8] at h
      ·simp[k] at h
      ·show Pj z q.name q.typ=0;rw[Ny,kt];rfl
      ·simp[k] at h
      ·simp[k] at h
     ·refine⟨fun _=>⟨?_,?_,fun _=>rfl,?_⟩,fun h=> ?_,fun h=> ?_,fun h=> ?_,fun h=> ?_,fun h=> ?_,by simp[k]⟩
      ·show (saysM (allR z q.name) q.typ).recs≠[];rw[kr];exact kt
      ·show (saysM (allR z q.name) q.typ).recs.length=Pj z q.name q.typ;rw[kr,Ny]
      ·intro x hx;change x∈(saysM (allR z q.name) q.typ).recs at hx;rw[kr] at hx;obtain⟨h1,h2⟩:=ql hx;obtain⟨h3,h4⟩:=C8.1 h1;have h5:x.name=q.name:=by simpa using h4
       refine⟨h5,h2,?_⟩;show {x with name:=q.name}∈z.recs;rw[←h5];exact h3
      ·simp[k,X8] at h
      ·simp[k] at h
      ·simp[k] at h
      ·simp[k] at h
      ·simp[k] at h
    ·rename_i hex;have hex':exB z q.name=false:=by simpa using hex
     have hno:=Cy4 ho hu hex' hc';unfold Cj7;split
     ·simp only[Ej];generalize starN (encN z q.name)=s;rcases says_kind ((allR z s).map (Um q.name)) q.typ with⟨k,k'⟩|⟨k,kt⟩|⟨k,kt,kr⟩
      ·refine⟨fun h=> ?_,fun _=>hno,fun h=> ?_,fun h=> ?_,fun h=> ?_,fun h=> ?_,.inr (.inr (.inl ⟨k,k'⟩))⟩<;>simp[k] at h
      ·refine⟨fun h=> ?_,fun _=>hno,fun h=> ?_,fun _=> ?_,fun h=> ?_,fun h=> ?_,by simp[k]⟩
       ·simp[k] at h
       ·simp[k] at h
       ·show Pj z s q.typ=0;rw[Ny,←qh (allR z s) q.name q.typ,kt];rfl
       ·simp[k] at h
       ·simp[k] at h
      ·refine⟨fun _=>⟨?_,?_,fun h=> ?_,?_⟩,fun _=>hno,fun h=> ?_,fun h=> ?_,fun h=> ?_,fun h=> ?_,by simp[k]⟩
       ·show (saysM ((allR z s).map (Um q.name)) q.typ).recs≠[];rw[kr];exact kt
       ·show (saysM ((allR z s).map (Um q.name)) q.typ).recs.length=Pj z s q.typ;rw[kr,Ny,qh]
       ·simp at h
       ·intro x hx;change x∈(saysM ((allR z s).map (Um q.name)) q.typ).recs at hx;rw[kr] at hx;obtain⟨h1,h2⟩:=ql hx;obtain⟨y,h3,rfl⟩:=Fc.1 h1;obtain⟨h4,h5⟩:=C8.1 h3;have h6:y.name=s:=by simpa using h5
        refine⟨rfl,h2,?_⟩;show {Um q.name y with name:=s}∈z.recs;rw[←h6];exact h4
       ·simp[k] at h
       ·simp[k] at h
       ·simp[k] at h
       ·simp[k] at h
     ·simp only[Option.getD_none];refine⟨fun h=>by simp at h,fun _=>hno,fun h=>by simp at h,fun h=>by simp at h,fun _=>⟨rfl,rfl⟩,fun h=>by simp at h,by simp⟩
 ·rename_i hu;have hu':under q.name z.origin=false:=by simpa using hu
  refine⟨fun h=>by simp at h,fun h=>by simp at h,fun _=>hu',fun h=>by simp at h,fun h=>by simp at h,fun h=>by simp at h,by simp⟩
end Go.X.G
/- The law NsecOrder. -/
namespace Go.X.G
open Go Go.X
def Gg0 (x y:Int):El3 (orB x y):=by have h:=(BitVec.ofInt IntKind.u64.bits x|||BitVec.ofInt IntKind.u64.bits y).isLt;have h2:(2:Nat) ^ IntKind.u64.bits=18446744073709551616:=rfl;unfold orB El3;rw[Fr8 (by omega) (by omega)];omega
def Fc3 {z:Zone} (hz:z.wf):Wc (minE z):=by
 unfold minE;cases e:findR z.recs z.origin 6 with
 |nil=>unfold Wc;simp
 |cons r l=>
  have:r∈findR z.recs z.origin 6:=by rw[e];exact .head _
  exact(hz.recs.2 r (Mm.1 this).1).data.e
def zg {z:Zone} (hz:z.wf):∀a∈chain0 z (minE z),a.wf:=fun a ha=>by obtain⟨n,hn,_,rfl⟩:=Ch4 ha;have hv:=Gc (C2.1 (Fh2 (z:=z) (n:=n) (by rw[←U7];simpa using hn))).1;exact⟨by unfold Lh;simp only;omega,by unfold Wc;simp,Fc3 hz,⟨by unfold El3;simp,by unfold El3;simp,hz.origin,by unfold Lh;simp,by unfold Lh;simp,by unfold Wc;simp,by unfold Wc;simp,by unfold Wc;simp,by unfold Wc;simp,by unfold Wc;simp,by unfold Wc;simp,Gg0 _ _⟩⟩
def Gh0 {z:Zone} (hz:z.wf):∀a∈chainN z,a.wf:=fun b hb=>by
 obtain⟨j,hj⟩:=List.mem_iff_getElem?.1 hb;obtain⟨c,hc,rfl⟩:=Ch2 hj;have hw:=zg hz c (Ck hc);unfold nxt;split
 ·rename_i d hd;have hd:=zg hz d (Ck hd);exact⟨hw.name,hw.typ,hw.ttl,⟨hw.data.hi,hw.data.lo,hd.name,hw.data.mail,hw.data.text,hw.data.a,hw.data.b,hw.data.c,hw.data.d,hw.data.e,hw.data.f,hw.data.bits⟩⟩
 ·exact hw
end Go.X.G
/- nsec: Needed; the law NsecChains. -/
namespace Go.X.G
open Go Go.X
def Rb (z:Zone) (name owner star:List UInt8) (r:Rec):Bool:=decide (r.name=owner)||Hh r z.origin name||(decide (star≠[]) && Hh r z.origin star)
def xw (x:Res) (name:List UInt8):List UInt8:=if x.wild=true then x.owner else name
def Az5 (z:Zone) (x:Res) (name:List UInt8):List UInt8:=if x.kind=6 then starN (encN z name) else []
def neededN (z:Zone) (name:List UInt8):List Rec:=
 if Jh z=0 then
  if(findM z ⟨name,43⟩).kind=0∨(findM z ⟨name,43⟩).kind=4∨(findM z ⟨name,43⟩).kind=3 then []
  else(chainN z).filter (Rb z name (xw (findM z ⟨name,43⟩) name) (Az5 z (findM z ⟨name,43⟩) name))
 else []
def rh (n:List UInt8):(starN n).length≤254:=by
 unfold starN;split
 ·rename_i h;unfold starOk at h;simp only[Br] at h;exact Gc h.2
 ·simp
def Dm4 (z:Zone) (x:Res) (name:List UInt8):(Az5 z x name).length≤254:=by
 unfold Az5;split
 ·exact rh _
 ·simp
def Cl6 (z:Zone) (name owner star:List UInt8) (r:Rec) (hr:r.wf) (hz:z.wf) (hn:name.length≤9223372036854775807) (hs:star.length≤9223372036854775807):S lp 1 [r.pv,.s owner,z.pv,.s name,.s star]=some [.b (!Rb z name owner star r)]:=by
 refine Jc0 (N:=1) rfl ?_;have g1:=hz.origin;unfold Lh at g1;have k1:=Pg r z.origin name hr g1 hn;have k2:=Pg r z.origin star hr g1 hs;unfold Rb;by_cases h1:r.name=owner
 ·simp(disch:=omega)only[Em9,h1,Ev,Ep,Ac,simprocAttr]
  try simp
 ·rcases Bl (Hh r z.origin name) with e1|e1
  ·simp(disch:=omega)only[Em9,h1,k1,e1,Ev,Ep,Ac,simprocAttr]
   try simp
  ·by_cases h2:star=[]
   ·subst h2;simp(disch:=omega)only[Em9,h1,k1,e1,Ev,Ep,Ac,simprocAttr]
    try simp[h1]
   ·rcases Bl (Hh r z.origin star) with e2|e2<;>simp(disch:=omega)only[Em9,h1,h2,k1,k2,e1,e2,Ev,Ep,Ac,simprocAttr]<;>simp[h1,h2]
def Vz (z:Zone) (name owner star:List UInt8) (hz:z.wf) (l:List Rec) (hw:∀r∈l,r.wf) (hl:l.length≤1000000) (hn:name.length≤9223372036854775807) (hs:star.length≤9223372036854775807):
  S lr 1048578 [B6 l,.f lp [.s owner,z.pv,.s name,.s star]]=some [B6 (l.filter (Rb z name owner star))]:=by
 have:=i8 l lp [.s owner,z.pv,.s name,.s star] (fun r=> !Rb z name owner star r) hl (fun r hr=>Cl6 z name owner star r (hw r hr) hz hn hs);simpa using this
def Z4 {z:Zone} (hl:z.recs.length≤1000):(chainN z).length≤1000000:=by have:=Vq z (minE z);have:=Jk z hl;rw[ib];omega
def Cl5 (z:Zone) (name:List UInt8) (hz:z.wf) (hw:Jh z=0→∀a∈chainN z,a.wf) (hl:z.recs.length≤1000) (hn:name.length≤9223372036854775807):S Dm0 2 [z.pv,.s name]=some [B6 (neededN z name)]:=by
 refine Jh2 (N:=1) rfl ?_;have k1:=ay z hz hl;unfold neededN;by_cases h:Jh z=0
 ·rw[if_pos h] at k1 ⊢;have ho:=Tr h;have hw:=hw h;have hcl:=Z4 hl;have k2:=Gn5 z ⟨name,43⟩ hz hl hn;have hx:=ym z ⟨name,43⟩ ho;have k3:=Vd z name hz hl hn;have el:=Xq z name;have k4:=Xh (encN z name) (by omega);have sl:=rh (encN z name);have d1:=Vz z name name (starN (encN z name)) hz (chainN z) hw hcl hn (by omega);generalize findM z ⟨name,43⟩=x at*;have d2:=Vz z name x.owner [] hz (chainN z) hw hcl hn (by simp);have d3:=Vz z name name [] hz (chainN z) hw hcl hn (by simp);generalize chainN z=l at*;unfold xw Az5;by_cases h0:x.kind=0
  ·simp(disch:=omega)only[Aq7,k1,k2,h0,Kq,Ev,Ep,EVM,EVR,Ac,simprocAttr]
   try simp
  ·by_cases h4:x.kind=4
   ·simp(disch:=omega)only[Aq7,k1,k2,h0,h4,Kq,Ev,Ep,EVM,EVR,Ac,simprocAttr]
    try simp
   ·by_cases h3:x.kind=3
    ·simp(disch:=omega)only[Aq7,k1,k2,h0,h4,h3,Kq,Ev,Ep,EVM,EVR,Ac,simprocAttr]
     try simp
    ·rw[if_neg (by simp[h0,h4,h3])];by_cases h6:x.kind=6
     ·rw[if_pos h6,(hx.nx h6).2,if_neg (by simp)];generalize starN (encN z name)=st at*;generalize starOk (encN z name)=so at*;generalize List.filter (Rb z name name st) l=fl at*;simp(disch:=omega)only[Aq7,k1,k2,k3,k4,d1,h0,h4,h3,h6,Fz,Mw,Kq,Ev,Ep,EVM,EVR,Ac,simprocAttr]
     ·rw[if_neg h6];rcases Bl x.wild with e|e
      ·rw[if_pos e];generalize List.filter (Rb z name x.owner []) l=fl at*;simp(disch:=omega)only[Aq7,k1,k2,d2,h0,h4,h3,h6,e,Fz,Mw,Kq,Ev,Ep,EVM,EVR,Ac,simprocAttr]
      ·rw[if_neg (by rw[e];simp)];generalize List.filter (Rb z name name []) l=fl at*;simp(disch:=omega)only[Aq7,k1,k2,d3,h0,h4,h3,h6,e,Fz,Mw,Kq,Ev,Ep,EVM,EVR,Ac,simprocAttr]
 ·rw[if_neg h] at k1 ⊢;simp(disch:=omega)only[Aq7,k1,Kq,Ev,Ep,EVM,EVR,Ac,simprocAttr]
def Ap7 (z:Zone) (name owner star:List UInt8) (hz:z.wf) (l:List Rec) (hw:∀r∈l,r.wf) (hl:l.length≤1000000) (hn:name.length≤9223372036854775807) (hs:star.length≤9223372036854775807) (p3 p4:PV):
  Ds1.ev S (l.length+1) [z.pv,.s name,B6 l,p3,p4,.s owner,.s star]=some (.yld 0 [B6 (l.filter (Rb z name owner star))]):=by
 have g1:=hz.origin;unfold Lh at g1;have key:Ds1.ev S (l.length+1) [z.pv,.s name,B6 l,p3,p4,.s owner,.s star]=some (.yld 0 [B6 ([]++l.filter (Rb z name owner star))]):=by
  refine Ed l (fun i (g:List Rec)=>[B6 g,.i .i64 (i:Int)]) (fun i g r=> .yld 0 [B6 (g++r.filter (Rb z name owner star))]) (fun i g=>g.length≤i) [] rfl (Db _) (by omega) (fun i g c r hd hi hc hI=> ?_) (fun g hI=> ?_)
  ·left;have hcw:=hw c (Ck hc);have k1:=ax c z.origin name hcw g1 hn;have k2:=ax c z.origin star hcw g1 hs;have body:Ef1.ev S (l.length+1) ([z.pv,.s name,B6 l,p3,p4,.s owner,.s star]++[B6 g,.i .i64 (i:Int)])=some (.yld 1 [B6 (if Rb z name owner star c=true then g++[c] else g),.i .i64 ((i:Int)+1)]):=by
    unfold Rb;by_cases h1:c.name=owner
    ·simp(disch:=omega)only[Uq,hc,h1,Ac,simprocAttr]
     try simp
    ·rcases Bl (Hh c z.origin name) with e1|e1
     ·simp(disch:=omega)only[Uq,hc,h1,k1,e1,Ac,simprocAttr]
      try simp
     ·by_cases h2:star=[]
      ·subst h2;simp(disch:=omega)only[Uq,hc,h1,k1,e1,Ac,simprocAttr]
       try simp[h1]
      ·rcases Bl (Hh c z.origin star) with e2|e2<;>simp(disch:=omega)only[Uq,hc,h1,h2,k1,k2,e1,e2,Ac,simprocAttr]<;>simp[h1,h2]
   rcases Bl (Rb z name owner star c) with h|h
   ·refine⟨g++[c],?_,by simp;omega,by rw[F8 h,Cw];rfl⟩;rw[body,h,if_pos rfl];rfl
   ·refine⟨g,?_,by omega,by rw[List.filter_cons_of_neg (by rw[h];simp)]⟩;rw[body,h,if_neg (by simp)];rfl
  ·simp(disch:=omega)only[Uq,Ac,simprocAttr]
   try simp[Out.goes]
 simpa using key
def Ap6 (z:Zone) (name:List UInt8) (hz:z.wf) (hw:Jh z=0→∀a∈chainN z,a.wf) (hl:z.recs.length≤1000) (hn:name.length≤9223372036854775807):S Dl9 2 [z.pv,.s name]=some [B6 (neededN z name)]:=by
 refine Jh1 (N:=(chainN z).length+1) rfl ?_;have k1:=i9 z hz hl;unfold neededN;by_cases h:Jh z=0
 ·rw[if_pos h] at k1 ⊢;have ho:=Tr h;have hw:=hw h;have hcl:=Z4 hl;have k2:=Fx5 z ⟨name,43⟩ hz hl hn (fun u=>ho.single u 39 (by simp));have hx:=ym z ⟨name,43⟩ ho;have k3:=Vr z name hz hl hn;have el:=Xq z name;have k4:=Bt5 (encN z name) (by omega);generalize findM z ⟨name,43⟩=x at*;have sl:=Dm4 z x name;have d:=fun p3 p4=>Ap7 z name (xw x name) (Az5 z x name) hz (chainN z) hw hcl hn (by omega) p3 p4;generalize List.filter (Rb z name (xw x name) (Az5 z x name)) (chainN z)=fl at*;generalize chainN z=l at*;by_cases h0:x.kind=0
  ·simp(disch:=omega)only[Uq,k1,k2,h0,Kq,Ev,Ep,EVM,EVR,Ac,simprocAttr]
   try simp
  ·by_cases h4:x.kind=4
   ·simp(disch:=omega)only[Uq,k1,k2,h0,h4,Kq,Ev,Ep,EVM,EVR,Ac,simprocAttr]
    try simp
   ·by_cases h3:x.kind=3
    ·simp(disch:=omega)only[Uq,k1,k2,h0,h4,h3,Kq,Ev,Ep,EVM,EVR,Ac,simprocAttr]
     try simp
    ·rw[if_neg (by simp[h0,h4,h3])];unfold xw Az5 at d;by_cases h6:x.kind=6
     ·rw[if_pos h6] at d;generalize starN (encN z name)=st at*;generalize starOk (encN z name)=so at*;rcases Bl x.wild with e|e
      ·rw[if_pos e] at d;simp(disch:=omega)only[Uq,k1,k2,k3,k4,d,h0,h4,h3,h6,e,Kq,Ev,Ep,EVM,EVR,Ac,simprocAttr]
      ·rw[if_neg (by rw[e];simp)] at d;simp(disch:=omega)only[Uq,k1,k2,k3,k4,d,h0,h4,h3,h6,e,Kq,Ev,Ep,EVM,EVR,Ac,simprocAttr]
     ·rw[if_neg h6] at d;rcases Bl x.wild with e|e
      ·rw[if_pos e] at d;simp(disch:=omega)only[Uq,k1,k2,d,h0,h4,h3,h6,e,Kq,Ev,Ep,EVM,EVR,Ac,simprocAttr]
      ·rw[if_neg (by rw[e];simp)] at d;simp(disch:=omega)only[Uq,k1,k2,d,h0,h4,h3,h6,e,Kq,Ev,Ep,EVM,EVR,Ac,simprocAttr]
 ·rw[if_neg h] at k1 ⊢;simp(disch:=omega)only[Uq,k1,Kq,Ev,Ep,EVM,EVR,Ac,simprocAttr]
def Mz (a:List Rec) (ha:a.length≤1000000):S Cb0 2 [B6 a,B6 a]=some [.b true]:=by
 refine Jh3 (N:=a.length+1) rfl ?_;have key:Gq7.ev S (a.length+1) [B6 a,B6 a]=some (.yld 0 []):=by
  refine E2 a (fun i=>[.i .i64 (i:Int)]) (fun i r=> .yld 0 []) rfl (by omega) (fun i c r hd hi hc=> ?_) ?_
  ·left;simp(disch:=omega)only[Gz4,hc,EVM,Ad,simprocAttr]
   try simp
  ·simp(disch:=omega)only[Gz4,EVM,Ad,simprocAttr]
   try simp[Out.goes]
 simp(disch:=omega)only[Gz4,key,EVM,Ad,simprocAttr]
def law_NsecChains (z:Zone) (name:List UInt8) (hz:z.wf) (hn:Lh name):S Iv6 2 [z.pv,.s name]=some [.b true]:=by
 refine Ky0 (N:=1) rfl ?_;have ka:=Cl0;by_cases hl:z.recs.length≤60
 ·by_cases hnl:name.length≤300
  ·have hw:Jh z=0→∀a∈chainN z,a.wf:=fun _=>Gh0 hz;have k1:=ay z hz (by omega);have k2:=i9 z hz (by omega);have k3:=Cl5 z name hz hw (by omega) (by omega);have k4:=Ap6 z name hz hw (by omega) (by omega);have hcl:=Z4 (z:=z) (by omega);have hnl2:(neededN z name).length≤1000000:=by
    unfold neededN;split
    ·split
     ·simp
     ·exact En (Ef _ _) hcl
    ·simp
   have r2:=Mz (neededN z name) hnl2;generalize neededN z name=nl at*;by_cases h:Jh z=0
   ·rw[if_pos h] at k1 k2;have r1:=Mz (chainN z) hcl;generalize chainN z=l at*;simp(disch:=omega)only[It6,ka,k1,k2,k3,k4,r1,r2,Ev,Ep,Ac,simprocAttr]
   ·rw[if_neg h] at k1 k2;have r1:=Mz [] (by simp);simp(disch:=omega)only[It6,ka,k1,k2,k3,k4,r1,r2,Ev,Ep,Ac,simprocAttr]
  ·simp(disch:=omega)only[It6,ka,Ev,Ep,Ac,simprocAttr]
 ·have hl':(z.recs.length:Int)>60:=by omega
  simp(disch:=omega)only[It6,ka,hl',Ev,Ep,Ac,simprocAttr]
end Go.X.G
