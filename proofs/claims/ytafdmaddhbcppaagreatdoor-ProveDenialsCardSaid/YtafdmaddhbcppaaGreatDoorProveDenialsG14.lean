/- Delegations and names of a zone, as the reference finds them; what exists. -/
import Derived.Test.YtafdmaddhbcppaaGreatDoorProveDenialsG13
import Derived.Test.YtafdmaddhbcppaaGreatDoorProveDenialsG9
import Derived.Test.YtafdmaddhbcppaaGreatDoorProveDenialsG8
import Derived.Test.YtafdmaddhbcppaaGreatDoorProveDenialsG11
import Derived.Test.YtafdmaddhbcppaaGreatDoorProveDenialsG12
open Bool renaming eq_false_or_eq_true→Bm,and_eq_true→Br,false_eq_true→B5,or_eq_true→Cy,not_eq_true'→Cm,eq_iff_iff→D5,or_eq_false_iff→Hq,and_eq_false_iff→H8,true_and→Uz,eq_false_iff→Ar4
open Classical renaming not_not→H0
open Int renaming toNat_natCast→Ec,lt_irrefl→Gn
open List renaming getElem?_eq_some_iff→Bp,getElem?_eq_getElem→Bs,length_append→B0,length_cons→Cj,mem_cons→Ck,mem_of_getElem?→Cq,append_assoc→Cv,length_take→Cw,getElem?_append_right→Cc,pairwise_cons→Cf,length_pos_iff→Ch,length_nil→C2,getElem?_map→C3,mem_filter→C5,mem_append→C8,length_drop→Dj,take_append_drop→Dq,nil_append→Dw,mem_singleton→Dx,any_eq_true→Dd,drop_eq_getElem_cons→Df,length_filter_le→Dh,take_add_one→Dm,getElem?_cons_zero→Dn,length_map→D2,drop_drop→Ew,append_nil→Eg,filter_cons_of_pos→En,getElem?_of_mem→E2,getElem?_cons_succ→E6,take_of_length_le→Fq,mem_map→Fl,flatMap_cons→F3,suffix_iff_eq_drop→G5,filter_cons_of_neg→G6,mem_of_mem_drop→Hj,isSuffixOf_iff_suffix→Hk,length_set→Iw,drop_of_length_le→Jc,getElem?_set_self→M1,set_append_right→Pl,getElem?_eq_none_iff→Rj,getElem?_set_ne→R7,length_eq_one_iff→jv,find?_cons_of_pos→jw,find?_cons_of_neg→jx,take_left→Ch8,filterMap_cons→Gf0,map_append→Jk9,foldl_cons→Jq0
open Nat renaming le_refl→B7,zero_le→Dy,add_sub_cancel→Kl
open Option renaming bind_some→B3,map_some→Cd,getD_some→Ev
open Option.some renaming injEq→Bn
set_option maxHeartbeats 1000000
set_option linter.defProp false
set_option linter.unusedVariables false
set_option linter.unusedSimpArgs false
namespace Go.X.G
open Go Go.X
def Ad:=And.intro xe<|And.intro EVP EV
def Ac:=And.intro EVC<|And.intro xe<|And.intro EVP EV
def Ab:=And.intro EVM<|And.intro EVC<|And.intro xe<|And.intro EVP EV
def i8 (n:List UInt8) (hn:n.length≤9223372036854775807):S f5 1 [.s n]=some [.s (parentN n),.b (Zr n)]:=by
 refine Ij1 (N:=1) rfl ?_;have k1:=split_ok n hn;have hl:=G2 n;unfold parentN Zr;by_cases h:lbl n=[]
 ·have e:¬(vld n=true∧n≠[46]):=fun⟨h1,h2⟩=>h2 ((O3 h1).1 h);have e2:(vld n && !decide (n=[46]))=false:=by
   rcases Bm (vld n) with h1|h1
   ·have:=(O3 h1).1 h;simp[this]
   ·simp[h1]
  rw[if_neg e,e2];rw[h] at k1;simp(disch:=omega)only[Gj3,k1,Ab,simprocAttr]
  try simp
 ·have h1:vld n=true:=by
   rcases Bm (vld n) with h1|h1
   ·exact h1
   ·exact absurd (mj h1) h
  have h2:n≠[46]:=fun e=>h ((O3 h1).2 e);have e2:(vld n && !decide (n=[46]))=true:=by simp[h1,h2]
  rw[if_pos ⟨h1,h2⟩,e2];have hp:=Ch.2 h;have ls:Jv 1 (Cn (lbl n)) (.i .i64 1) (.i .i64 ((lbl n).length:Int))=some (Cn ((lbl n).drop 1)):=by rw[L6 _ _ _ _ _ (by omega) (by omega) (by omega)];simp
  have k2:=Df4 ((lbl n).drop 1) (by simp;omega) (fun x hx=>Dn6 n x (Hj hx));have h0:¬((lbl n).length:Int)=0:=by omega
  simp(disch:=omega)only[Gj3,k1,k2,ls,h0,Ab,simprocAttr]
def Ax2 (z:Zone) (n:List UInt8) (hz:z.wf) (hl:z.recs.length≤1000000) (hn:n.length≤9223372036854775807):S Ay8 2 [z.pv,.s n]=some [.s (cutN z n),.b (decide (cutN z n≠[]))]:=by
 refine Jg0 (N:=z.recs.length+1) rfl ?_;have g1:=hz.origin;unfold My at g1;have key:Gw6.ev S (z.recs.length+1) [z.pv,.s n]=some (.yld 0 [.s (dj z n [] z.recs)]):=by
  refine D7 z.recs (fun i (b:List UInt8)=>[.s b,.i .i64 (i:Int)]) (fun i b r=> .yld 0 [.s (dj z n b r)]) (fun i b=>b=[]∨under n b=true) [] rfl (.inl rfl) (by omega) (fun i b c r hd hi hc hI=> ?_) (fun b hI=> ?_)
  ·left;have g2:=(hz.recs.2 c (Cq hc)).name;unfold My at g2;refine⟨if Ep z c && under n c.name && (decide (b=[])||decide ((lbl c.name).length<(lbl b).length)) then c.name else b,?_,Ew4 hI,rfl⟩;by_cases h1:c.typ=2
   ·have k1:=Mr c.name z.origin g2 g1;have k2:=Gw n c.name hn g2;rcases Bm (Ft c.name z.origin) with h3|h3
    ·rcases Bm (under n c.name) with h4|h4
     ·rw[h3] at k1;rw[h4] at k2;by_cases h5:b=[]
      ·simp(disch:=omega)only[pd,hc,h1,h3,h4,h5,k1,k2,Ab,simprocAttr];simp[Ep,h1,h3,h4,h5]
      ·have hb:=hI.resolve_left h5;have k3:=J2 c.name g2;have k4:=J2 b (by have:=Hl (C4.1 hb).2.1;omega);by_cases h6:(lbl c.name).length<(lbl b).length
       ·have h8:((lbl c.name).length:Int)<((lbl b).length:Int):=by omega
        simp(disch:=omega)only[pd,hc,h1,h3,h4,h5,h8,k1,k2,k3,k4,Ab,simprocAttr];simp[Ep,h1,h3,h4,h5,h6]
       ·have h8:¬((lbl c.name).length:Int)<((lbl b).length:Int):=by omega
        simp(disch:=omega)only[pd,hc,h1,h3,h4,h5,h8,k1,k2,k3,k4,Ab,simprocAttr];simp[Ep,h1,h3,h4,h5,h6]
     ·rw[h3] at k1;rw[h4] at k2;simp(disch:=omega)only[pd,hc,h1,h3,h4,k1,k2,Ab,simprocAttr];simp[Ep,h1,h3,h4]
    ·rw[h3] at k1;simp(disch:=omega)only[pd,hc,h1,h3,k1,Ab,simprocAttr];simp[Ep,h1,h3]
   ·simp(disch:=omega)only[pd,hc,h1,Ab,simprocAttr];simp[Ep,h1]
  ·simp(disch:=omega)only[pd,Ab,simprocAttr];simp[dj,Out.goes]
 rw[show dj z n [] z.recs=cutN z n from rfl] at key;simp(disch:=omega)only[pd,key,Ab,simprocAttr]
 try simp
def o5 (x:List UInt8):List (List UInt8)→List (List UInt8)
 |[]=>[x]
 |y::r=>if Jp y x<0 then y::o5 x r else if y=x then y::r else x::y::r
def N5 (x:List UInt8):List (List UInt8)→Nat
 |[]=>0
 |y::r=>if Jp y x<0 then N5 x r+1 else 0
def Bf5 (x:List UInt8):∀l,N5 x l≤l.length
 |[]=>B7 _
 |y::r=>by have:=Bf5 x r;simp only[N5];split<;>simp;omega
def Ek3 (x:List UInt8):∀(l:List (List UInt8)),o5 x l=match l[N5 x l]? with
  |some y=>if y=x then l else l.take (N5 x l)++[x]++l.drop (N5 x l)
  |none=>l.take (N5 x l)++[x]++l.drop (N5 x l)
 |[]=>rfl
 |y::r=>by
  simp only[o5,N5];by_cases h:Jp y x<0
  ·simp only[if_pos h,E6];rw[Ek3 x r];cases h2:r[N5 x r]? with
   |none=>simp
   |some z=>by_cases h3:z=x<;>simp[h3]
  ·simp only[if_neg h,Dn];by_cases h3:y=x<;>simp[h3]
def Bg1 (x:List UInt8):∀l,(o5 x l).length≤l.length+1
 |[]=>by simp[o5]
 |y::r=>by
  have:=Bg1 x r;simp only[o5];split
  ·simp;omega
  ·split<;>simp
def insN_mem (x z:List UInt8):∀(l:List (List UInt8)),z∈o5 x l↔z=x∨z∈l
 |[]=>by simp[o5]
 |y::r=>by
  have ih:=insN_mem x z r;simp only[o5];split
  ·simp only[Ck,ih];grind
  ·split
   ·rename_i h;subst h;simp only[Ck];grind
   ·simp only[Ck]
def Zm (x:List UInt8):∀(l:List (List UInt8)),l.Pairwise ltN→(o5 x l).Pairwise ltN
 |[],_=>by simp[o5]
 |y::r,h=>by
  obtain⟨h1,h2⟩:=Cf.1 h;have ih:=Zm x r h2;simp only[o5];by_cases c:Jp y x<0
  ·rw[if_pos c];refine Cf.2 ⟨fun w hw=> ?_,ih⟩;rcases (insN_mem x w r).1 hw with rfl|hw
   ·exact(G1 _ _).1 c
   ·exact h1 w hw
  ·rw[if_neg c];by_cases e:y=x
   ·rw[if_pos e];exact h
   ·rw[if_neg e];have hxy:ltN x y:=by
     rcases to_N.tri x y with q|q|q
     ·exact q
     ·exact absurd q.symm e
     ·exact absurd ((G1 _ _).2 q) c
    refine Cf.2 ⟨fun w hw=> ?_,h⟩;rcases Ck.1 hw with rfl|hw
    ·exact hxy
    ·exact to_N.tr _ _ _ hxy (h1 w hw)
def Df3 (l:List (List UInt8)):List (List UInt8):=l.foldl (fun a x=>o5 x a) []
def Y3 (l:List (List UInt8)):Df3 l=setN l:=by
 have:∀(l a:List (List UInt8)),a.Pairwise ltN→(l.foldl (fun a x=>o5 x a) a).Pairwise ltN∧∀z,z∈l.foldl (fun a x=>o5 x a) a↔z∈a∨z∈l:=by
  intro l
  induction l with
  |nil=>intro a h;exact⟨h,fun z=>by simp⟩
  |cons x r ih=>
   intro a h;obtain⟨h1,h2⟩:=ih (o5 x a) (Zm x a h);refine⟨h1,fun z=> ?_⟩;rw[Jq0,h2,insN_mem,Ck]
   grind
 obtain⟨h1,h2⟩:=this l [] List.Pairwise.nil;exact Yg to_N _ _ h1 (Rv l) fun x=>by rw[M7];rw[Df3,h2 x];simp
def Eh1 (l:List Rec) (g:List (List UInt8)) (i:Nat) (x:Rec) (hx:l[i]? =some x) (hw:x.name.length≤9223372036854775807) (hg:∀r∈g,r.length≤9223372036854775807) (N:Nat) (hN:g.length<N) (hl:g.length≤1000000):
  Ab3.ev S N [B6 l,Cn g,.i .i64 (i:Int)]=some (.yld 2 [.i .i64 (N5 x.name g:Int)]):=by
 have key:Ab3.ev S N [B6 l,Cn g,.i .i64 (i:Int)]=some (.yld 2 [.i .i64 ((0+N5 x.name g:Nat):Int)]):=by
  refine Es g (fun k=>[.i .i64 (k:Int)]) (fun k r=> .yld 2 [.i .i64 ((k+N5 x.name r:Nat):Int)]) rfl hN (fun k c r hd hk hc=> ?_) ?_
  ·have h1:=J4 c x.name (hg c (Cq hc)) hw;by_cases h:Jp c x.name<0
   ·left;simp(disch:=omega)only[V4,hc,hx,h1,h,Ab,simprocAttr];refine⟨trivial,?_⟩;simp only[N5,if_pos h];congr 3;push_cast;omega
   ·right;simp(disch:=omega)only[V4,hc,hx,h1,Ab,simprocAttr];simp[N5,h,Out.goes]
  ·simp(disch:=omega)only[V4,Ab,simprocAttr];simp[N5,Out.goes]
 simpa using key
def Eh0 (l:List Rec) (hl:l.length≤1000000) (hw:∀r∈l,r.name.length≤9223372036854775807):S v8 1 [B6 l]=some [Cn (setN (l.map Rec.name))]:=by
 refine Ij0 (N:=l.length+1) rfl ?_;have key:Dt3.ev S (l.length+1) [B6 l]=some (.yld 0 [Cn (Df3 (l.map Rec.name))]):=by
  refine D7 l (fun i (g:List (List UInt8))=>[Cn g,.i .i64 (i:Int)]) (fun i g r=> .yld 0 [Cn ((r.map Rec.name).foldl (fun acc x=>o5 x acc) g)]) (fun i g=>g.length≤i∧∀r∈g,r.length≤9223372036854775807) [] rfl ⟨B7 _,fun r h=>by cases h⟩ (by omega) (fun i g c r hd hi hc hI=> ?_) (fun g hI=> ?_)
  ·left;obtain⟨h1,h2⟩:=hI;have hcw:=hw c (Cq hc);have h3:=Eh1 l g i c hc hcw h2 (l.length+1) (by omega) (by omega);have h4:=Bf5 c.name g;have h5:=Bg1 c.name g;refine⟨o5 c.name g,?_,⟨by omega,fun r hr=> ?_⟩,rfl⟩
   ·rw[Ek3];cases h6:g[N5 c.name g]? with
    |none=>
     have h7:=Rj.1 h6;have h8:N5 c.name g=g.length:=by omega
     simp(disch:=first|omega|(simp;omega))only[V4,hc,h3,h8,Ab,simprocAttr];simp
    |some y=>
     have h7:=(Bp.1 h6).1;by_cases h9:y=c.name
     ·simp(disch:=omega)only[V4,hc,h3,h6,h9,Ab,simprocAttr]
     ·simp(disch:=first|omega|(simp;omega))only[V4,hc,h3,h6,h9,Ab,simprocAttr];simp
   ·rcases (insN_mem c.name r g).1 hr with h|h
    ·subst h;exact hcw
    ·exact h2 r h
  ·simp(disch:=omega)only[V4,Ab,simprocAttr];simp[Out.goes]
 rw[Y3] at key;simp(disch:=omega)only[V4,key,Ab,simprocAttr]
def Y2 (n:List UInt8):Rec:=⟨n,0,0,⟨false,0,0,[],[],[],0,0,0,0,0,0,0⟩⟩
def Cv3 (z:Zone) (n:List UInt8):List (List UInt8):=if N6 z n=true then [] else if under n z.origin=true then upN z.origin n else []
def Ax6 (n:List UInt8):(parentN n).length≤254:=by
 unfold parentN;split
 ·rename_i h;exact Zg h.1 1
 ·simp
def Dk6 (z:Zone) (acc:List Rec) (n:List UInt8) (p1 p2 p3 p4:PV) (x:Rec) (i:Nat) (N:Nat) (hx:z.recs[i]? =some x) (hxn:x.name=n) (hn:n.length≤9223372036854775807) (ho:z.origin.length≤9223372036854775807) (ha:acc.length≤1000000) (hN:1000<N) (hp1:p1=B6 acc) (hp2:p2= .i .i64 (i:Int)):
  Dp4.ev S N [z.pv,p1,p2,p3,p4]=some (.yld 2 [B6 (acc++(if under n z.origin=true then upN z.origin n else []).map Y2)]):=by
 subst hp1 hp2;have init:E.evs [z.pv,B6 acc,.i .i64 (i:Int),p3,p4] [(.v 1),(.proj 0 (.idx 16 (.proj 1 (.v 0)) (.v 2))),(.c (.i .i64 (0)))]=some [B6 acc,.s n,.i .i64 0]:=by simp(disch:=omega)only[hx,hxn,Ab,simprocAttr]
 rcases Bm (under n z.origin) with hu|hu
 ·rw[if_pos hu];obtain⟨v1,v2,_⟩:=C4.1 hu;have hlb:=G2 n;have h0:jn ((lbl n).drop 0)=n:=Zf v1;generalize hm:(lbl n).length - (lbl z.origin).length=m at*;have hup:∀k,k≤m→(upN z.origin n)[k]? =some (jn ((lbl n).drop k)):=fun k hk=>Ob (by omega);have hul:(upN z.origin n).length=m+1:=by simp[upN,hm]
  have e0:(upN z.origin n).take (m+1)=upN z.origin n:=Fq (by omega);have:=Gk (fn:=S) (N:=N) (η:=[z.pv,B6 acc,.i .i64 (i:Int),p3,p4]) (id:=3) (init:=[(.v 1),(.proj 0 (.idx 16 (.proj 1 (.v 0)) (.v 2))),(.c (.i .i64 (0)))]) (body:=Bn8) (m+1)
   (fun k=>[B6 (acc++((upN z.origin n).take k).map Y2),.s (if k≤m then jn ((lbl n).drop k) else parentN z.origin),.i .i64 (k:Int)])
   (fun _=> .yld 2 [B6 (acc++(upN z.origin n).map Y2)]) ?_ (by omega) (fun k hk=> ?_) ?_
  ·exact this
  ·rw[init,if_pos (Dy _),h0];simp
  ·have hk':k≤m:=by omega
   rw[if_pos hk'];have q4:=Zg v1 k;have hcu:under (jn ((lbl n).drop k)) z.origin=true:=((Lz hu).1 (Cq (hup k hk'))).2;have k2:=Gw (jn ((lbl n).drop k)) z.origin (by omega) ho;have k1:=i8 (jn ((lbl n).drop k)) (by omega);rw[hcu] at k2;have q5:((upN z.origin n).take (k+1)).map Y2=((upN z.origin n).take k).map Y2++[Y2 (jn ((lbl n).drop k))]:=by rw[Dm,hup k hk',Jk9];rfl
   have q6:(acc++((upN z.origin n).take k).map Y2).length≤1000300:=by rw[B0,D2,Cw];omega
   by_cases hlt:k<m
   ·left;rw[if_pos (by omega)];obtain⟨q1,q2⟩:=qf hu (k:=k) (by omega);rw[q1,q2] at k1;rw[q5,←Cv];generalize acc++((upN z.origin n).take k).map Y2=a at*;refine⟨?_,rfl⟩;generalize jn ((lbl n).drop (k+1))=nx at*;generalize jn ((lbl n).drop k)=cu at*;simp(disch:=omega)only[X5,k1,k2,Y2,Ab,simprocAttr]
   ·have ek:k=m:=by omega
    subst ek;rw[if_neg (by omega)];have q3:jn ((lbl n).drop k)=z.origin:=(Sf hu (by omega)).2 (by omega);rw[q3] at k1 k2 q5 ⊢;rcases Bm (Zr z.origin) with hp|hp
    ·left;rw[hp] at k1;rw[q5,←Cv];generalize acc++((upN z.origin n).take k).map Y2=a at*;refine⟨?_,rfl⟩;generalize parentN z.origin=nx at*;simp(disch:=omega)only[X5,k1,k2,Y2,Ab,simprocAttr]
    ·right;rw[hp] at k1;rw[e0] at q5;rw[q5,←Cv];generalize acc++((upN z.origin n).take k).map Y2=a at*;refine⟨?_,rfl⟩;generalize parentN z.origin=nx at*;simp(disch:=omega)only[X5,k1,k2,Y2,Ab,simprocAttr]
  ·rw[e0,if_neg (by omega)];refine⟨?_,rfl⟩;have k2:=Gw (parentN z.origin) z.origin (by have:=Ax6 z.origin;omega) ho;rw[Dd1 v2] at k2;generalize acc++(upN z.origin n).map Y2=a at*;generalize parentN z.origin=nx at*;simp(disch:=omega)only[X5,k2,Ab,simprocAttr]
 ·rw[hu];have k2:=Gw n z.origin hn ho;rw[hu] at k2;have:=Gk (fn:=S) (N:=N) (η:=[z.pv,B6 acc,.i .i64 (i:Int),p3,p4]) (id:=3) (init:=[(.v 1),(.proj 0 (.idx 16 (.proj 1 (.v 0)) (.v 2))),(.c (.i .i64 (0)))]) (body:=Bn8) 0
   (fun k=>[B6 acc,.s n,.i .i64 0]) (fun _=> .yld 2 [B6 acc]) init (by omega) (fun k hk=>by omega) ?_
  ·rw[if_neg (by simp),List.map_nil,Eg];exact this
  ·refine⟨?_,rfl⟩;simp(disch:=omega)only[X5,k2,Ab,simprocAttr]
def Bc3 (z:Zone) (x:List UInt8):x∈z.recs.flatMap (fun r=>Cv3 z r.name)↔El8 z x:=by
 unfold El8 Cv3;simp only[List.mem_flatMap];constructor
 ·rintro⟨r,hr,h⟩;rcases Bm (N6 z r.name) with h1|h1
  ·rw[if_pos h1] at h;cases h
  ·rcases Bm (under r.name z.origin) with h2|h2
   ·rw[if_neg (by simp[h1]),if_pos h2] at h;obtain⟨h4,h5⟩:=(Lz h2).1 h;exact⟨r,hr,h2,h1,h4,h5⟩
   ·rw[if_neg (by simp[h1]),if_neg (by simp[h2])] at h;cases h
 ·rintro⟨r,hr,h1,h2,h4,h5⟩;exact⟨r,hr,by rw[if_neg (by simp[h2]),if_pos h1];exact(Lz h1).2 ⟨h4,h5⟩⟩
def Bc4 (z:Zone) (n:List UInt8):(Cv3 z n).length≤256:=by
 unfold Cv3;split
 ·simp
 ·split
  ·exact X7 _ _
  ·simp
def Df1 (l:List (List UInt8)):(l.map Y2).map Rec.name=l:=by rw[List.map_map];exact(List.map_congr_left fun _ _=>rfl).trans (List.map_id l)
def Rx (z:Zone) (hz:z.wf) (hl:z.recs.length≤1000):S Ay9 1 [z.pv]=some [Cn (namesN z)]:=by
 refine Jg3 (N:=z.recs.length+1001) rfl ?_;have g1:=hz.origin;unfold My at g1;have key:Gw8.ev S (z.recs.length+1001) [z.pv]=some (.yld 0 [B6 ([]++(z.recs.flatMap fun r=>Cv3 z r.name).map Y2)]):=by
  refine D7 z.recs (fun i (b:List Rec)=>[B6 b,.i .i64 (i:Int)]) (fun i b r=> .yld 0 [B6 (b++(r.flatMap fun r=>Cv3 z r.name).map Y2)]) (fun i b=>b.length≤256*i) [] rfl (Dy _) (by omega) (fun i b c r hd hi hc hI=> ?_) (fun b hI=> ?_)
  ·left;have g2:=(hz.recs.2 c (Cq hc)).name;unfold My at g2;have k1:=Ax2 z c.name hz (by omega) g2;have hh:=Ac4 z c.name;have hol:=Bc4 z c.name;refine⟨b++(Cv3 z c.name).map Y2,?_,by rw[B0,D2];omega,by simp⟩;have k5:∀p3 p4,Dp4.ev S (z.recs.length+1001) [z.pv,B6 b,.i .i64 (i:Int),p3,p4]=some (.yld 2 [B6 (b++(if under c.name z.origin=true then upN z.origin c.name else []).map Y2)]):=fun p3 p4=>Dk6 z b c.name _ _ p3 p4 c i _ hc rfl g2 g1 (by omega) (by omega) rfl rfl;unfold Cv3;by_cases h1:cutN z c.name=[]
   ·have h2:N6 z c.name=false:=by rw[hh];simp[h1]
    rw[if_neg (by simp[h2])];rw[h1] at k1;generalize b++(if under c.name z.origin=true then upN z.origin c.name else []).map Y2=b' at*;simp(disch:=omega)only[X5,hc,k1,k5,Ab,simprocAttr]
    try simp(disch:=omega)only[X5,hc,k1,k5,ne_eq,not_true,decide_false,Ab,simprocAttr]
   ·by_cases h2:cutN z c.name=c.name
    ·have h3:N6 z c.name=false:=by rw[hh];simp[h2]
     rw[if_neg (by simp[h3])];rw[h2] at k1;have h4:decide (c.name≠[])=true:=by rw[h2] at h1;simpa using h1
     rw[h4] at k1;generalize b++(if under c.name z.origin=true then upN z.origin c.name else []).map Y2=b' at*;simp(disch:=omega)only[X5,hc,k1,k5,Ab,simprocAttr]
    ·have h3:N6 z c.name=true:=by rw[hh];simp[h1,h2]
     rw[if_pos h3];have h4:decide (cutN z c.name≠[])=true:=by simpa using h1
     rw[h4] at k1;simp(disch:=omega)only[X5,hc,k1,h2,Ab,simprocAttr]
     try simp
  ·simp(disch:=omega)only[X5,Ab,simprocAttr];simp[Out.goes]
 rw[Dw] at key;have hxl:(z.recs.flatMap fun r=>Cv3 z r.name).length≤256*z.recs.length:=by
  have:∀l:List Rec,(l.flatMap fun r=>Cv3 z r.name).length≤256*l.length:=by
   intro l
   induction l with
   |nil=>simp
   |cons x r ih=>
    have:=Bc4 z x.name;rw[F3,B0,Cj];omega
  exact this _
 have hxw:∀x∈z.recs.flatMap fun r=>Cv3 z r.name,x.length≤9223372036854775807:=fun x hx=>by obtain⟨r,hr,_,_,h4,_⟩:=(Bc3 z x).1 hx;have:=Hl (C4.1 h4).2.1;omega
 have he:setN (z.recs.flatMap fun r=>Cv3 z r.name)=namesN z:=Bc9 z _ (Bc3 z);generalize (z.recs.flatMap fun r=>Cv3 z r.name)=un at*;have k6:=Eh0 (un.map Y2) (by rw[D2];omega) (fun r hr=>by obtain⟨x,hx,rfl⟩:=Fl.1 hr;exact hxw x hx)
 rw[Df1,he] at k6;generalize un.map Y2=ur at*;generalize namesN z=nz at*;simp(disch:=omega)only[X5,key,k6,Ab,simprocAttr]
end Go.X.G
/- What exists in a zone, and what encloses a name; names with another end. -/
namespace Go.X.G
open Go Go.X
def exB (z:Zone) (x:List UInt8):Bool:=z.recs.any fun r=>under r.name z.origin && !N6 z r.name && under r.name x && under x z.origin
def Tm (z:Zone) (x:List UInt8):exB z x=true↔El8 z x:=by unfold exB El8;simp only[Dd,Br,Cm,and_assoc]
def Vy (z:Zone) (x:List UInt8):decide (x∈namesN z)=exB z x:=by rw[D5,Tm,←U7];simp
def Jx (z:Zone) (hl:z.recs.length≤1000):(namesN z).length≤1000000:=by
 have h1:=S1 (Fr9 z);have h2:∀l:List Rec,(l.flatMap fun r=>upN z.origin r.name).length≤256*l.length:=by
  intro l
  induction l with
  |nil=>simp
  |cons x r ih=>
   have:=X7 z.origin x.name;rw[F3,B0,Cj];omega
 have h3:=h2 (z.recs.filter fun r=>under r.name z.origin && !N6 z r.name);have h4:=Dh (fun r=>under r.name z.origin && !N6 z r.name) z.recs;show (setN (Fr9 z)).length≤1000000;unfold Fr9 at h1 ⊢;omega
def dw (z:Zone) (n:List UInt8) (hz:z.wf) (hl:z.recs.length≤1000):S Cx6 2 [z.pv,.s n]=some [.b (exB z n)]:=by refine Jl3 (N:=1) rfl ?_;have k1:=X1 z hz hl;have k2:=Wm (namesN z) n (Jx z hl);rw[Vy] at k2;generalize namesN z=nz at*;simp(disch:=omega)only[Jy2,k1,k2,Ab,simprocAttr]
def d6 (z:Zone) (n:List UInt8) (hz:z.wf) (hl:z.recs.length≤1000):S Cw8 2 [z.pv,.s n]=some [.b (exB z n)]:=by
 have hn:=Jx z hl;refine Jf5 (N:=(namesN z).length+1) rfl ?_;have k1:=Rx z hz hl;rw[←Vy];generalize namesN z=nz at*;have key:Gw3.ev S (nz.length+1) [z.pv,.s n,Cn nz]=some (if n∈nz then .ret [.b true] else .yld 0 []):=by
  refine Es nz (fun i=>[.i .i64 (i:Int)]) (fun i r=>if n∈r then .ret [.b true] else .yld 0 []) rfl (by omega) (fun i c r hd hi hc=> ?_) ?_
  ·by_cases h:c=n
   ·right;simp(disch:=omega)only[Cl8,hc,h,Ab,simprocAttr];simp[Out.goes]
   ·left;have h2:¬n=c:=fun e=>h e.symm;simp(disch:=omega)only[Cl8,hc,h,Ab,simprocAttr];simp[h2]
  ·simp(disch:=omega)only[Cl8,Ab,simprocAttr];simp[Out.goes]
 by_cases h:n∈nz
 ·rw[if_pos h] at key;simp(disch:=omega)only[Cl8,k1,key,Ab,simprocAttr]
  try simp[h]
 ·rw[if_neg h] at key;simp(disch:=omega)only[Cl8,k1,key,Ab,simprocAttr]
  try simp[h]
def Ch1 (z:Zone) (n:List UInt8):Option (List UInt8):=(upN z.origin n).find? (exB z)
def encN (z:Zone) (n:List UInt8):List UInt8:=if under n z.origin=true then(Ch1 z n).getD [] else []
def As5 {n:List UInt8} (h:vld n=true):n≠[]:=fun e=>by subst e;simp[vld,nm] at h
def O9 {z:Zone} {n e:List UInt8} (hu:under n z.origin=true) (h:Ch1 z n=some e):under n e=true∧exB z e=true:=by unfold Ch1 at h;have h1:=List.mem_of_find?_eq_some h;have h2:=List.find?_some h;exact⟨((Lz hu).1 h1).1,h2⟩
def Ow (z:Zone) (n:List UInt8) (hz:z.wf) (hl:z.recs.length≤1000) (hn:n.length≤9223372036854775807):S Az6 2 [z.pv,.s n]=some [.s (encN z n),.b (decide (encN z n≠[]))]:=by
 refine Jp5 (N:=1000) rfl ?_;have g1:=hz.origin;unfold My at g1;have k0:=Gv n z.origin hn g1;unfold encN;rcases Bm (under n z.origin) with hu|hu
 ·rw[if_pos hu];rw[hu] at k0;have k1:=X1 z hz hl;have hnl:=Jx z hl;have k2:∀x,S l6 2 [Cn (namesN z),.s x]=some [.b (exB z x)]:=fun x=>by rw[←Vy];exact Wm (namesN z) x hnl
  generalize namesN z=nz at*;obtain⟨v1,v2,_⟩:=C4.1 hu;have hlb:=G2 n;have h0:jn ((lbl n).drop 0)=n:=Zf v1;let res:Option (List UInt8)→Out:=fun o=>match o with|some e=> .yld 0 [.s e]|none=> .ret [.s [],.b false]
  have key:Gz4.ev S 1000 [z.pv,.s n,.b true,Cn nz]=some (res (Ch1 z n)):=by
   have:=Gk (fn:=S) (N:=1000) (η:=[z.pv,.s n,.b true,Cn nz]) (id:=1) (init:=[(.v 1)]) (body:=Ed9) ((lbl n).length - (lbl z.origin).length)
    (fun k=>[.s (jn ((lbl n).drop k))]) (fun k=>res (((upN z.origin n).drop k).find? (exB z))) ?_ (by omega) (fun k hk=> ?_) ?_
   ·exact this
   ·rw[h0];simp(disch:=omega)only[Ab,simprocAttr]
   ·have hup:(upN z.origin n)[k]? =some (jn ((lbl n).drop k)):=Ob (Nat.le_of_lt hk);have hd:(upN z.origin n).drop k=jn ((lbl n).drop k)::(upN z.origin n).drop (k+1):=by obtain⟨h1,h2⟩:=Bp.1 hup;rw[Df h1,h2]
    obtain⟨q1,q2⟩:=qf hu hk;have q3:¬jn ((lbl n).drop k)=z.origin:=fun h=>by have:=(Sf hu (Nat.le_of_lt hk)).1 h;omega
    have q4:=Zg v1 k;have k1:=Vs (jn ((lbl n).drop k)) (by omega);rw[q1,q2] at k1;have k3:=k2 (jn ((lbl n).drop k));rw[hd];generalize jn ((lbl n).drop (k+1))=nx at*;generalize jn ((lbl n).drop k)=cu at*;rcases Bm (exB z cu) with h5|h5
    ·right;rw[h5] at k3;rw[jw h5];refine⟨?_,rfl⟩;simp(disch:=omega)only[Aq5,k3,Ab,simprocAttr];rfl
    ·left;rw[h5] at k3;rw[jx (by simp[h5])];refine⟨?_,rfl⟩;simp(disch:=omega)only[Aq5,k1,k3,q3,Ab,simprocAttr]
   ·have hup:(upN z.origin n)[(lbl n).length - (lbl z.origin).length]? =some (jn ((lbl n).drop ((lbl n).length - (lbl z.origin).length))):=Ob (B7 _);have hd:(upN z.origin n).drop ((lbl n).length - (lbl z.origin).length)=[jn ((lbl n).drop ((lbl n).length - (lbl z.origin).length))]:=by obtain⟨h1,h2⟩:=Bp.1 hup;have h9:(upN z.origin n).drop ((lbl n).length - (lbl z.origin).length+1)=[]:=Jc (by simp[upN]);rw[Df h1,h2,h9]
    have q3:=(Sf hu (B7 _)).2 rfl;rw[hd,q3];have k3:=k2 z.origin;rcases Bm (exB z z.origin) with h5|h5
    ·rw[h5] at k3;rw[jw h5];refine⟨?_,rfl⟩;simp(disch:=omega)only[Aq5,k3,Ab,simprocAttr];rfl
    ·rw[h5] at k3;rw[jx (by simp[h5]),List.find?_nil];refine⟨?_,rfl⟩;simp(disch:=omega)only[Aq5,k3,Ab,simprocAttr];rfl
  cases he:Ch1 z n with
  |none=>
   rw[he] at key;simp only[res] at key;simp(disch:=omega)only[Aq5,k0,k1,key,Ab,simprocAttr];simp
  |some e=>
   rw[he] at key;simp only[res] at key;have h6:=As5 (C4.1 (O9 hu he).1).2.1;simp(disch:=omega)only[Aq5,k0,k1,key,Ab,simprocAttr];simp[h6]
 ·rw[if_neg (by simp[hu])];rw[hu] at k0;simp(disch:=omega)only[Aq5,k0,Ab,simprocAttr]
  try simp
def bestF (n:List UInt8):List UInt8→List (List UInt8)→List UInt8
 |b,[]=>b
 |b,x::r=>bestF n (if under n x && (decide (b=[])||decide ((lbl b).length<(lbl x).length)) then x else b) r
def Xn (n:List UInt8):∀(l:List (List UInt8)) (b:List UInt8),(b=[]∨under n b=true)→
  (bestF n b l=[]→b=[]∧∀x∈l,under n x=false)∧
  (bestF n b l≠[]→under n (bestF n b l)=true∧(bestF n b l=b∨bestF n b l∈l)∧(b≠[]→(lbl b).length≤(lbl (bestF n b l)).length)∧∀x∈l,under n x=true→(lbl x).length≤(lbl (bestF n b l)).length)
 |[],b,hb=>by simp only[bestF];refine⟨fun h=>⟨h,fun r hr=>by simp at hr⟩,fun h=>⟨hb.resolve_left h,.inl trivial,fun _=>B7 _,fun r hr=>by simp at hr⟩⟩
 |x::rs,b,hb=>by
  simp only[bestF];have hne:under n x=true→x≠[]:=fun h=>As5 (C4.1 h).2.1;by_cases hc:(under n x && (decide (b=[])||decide ((lbl b).length<(lbl x).length)))=true
  ·rw[if_pos hc];simp only[Br,Cy,decide_eq_true_eq] at hc;obtain⟨c2,c3⟩:=hc;obtain⟨h1,h2⟩:=Xn n rs x (.inr c2);refine⟨fun h=>absurd (h1 h).1 (hne c2),fun h=> ?_⟩;obtain⟨g1,g2,g3,g4⟩:=h2 h;refine⟨g1,.inr ?_,fun hb0=> ?_,fun y hy hy2=> ?_⟩
   ·rcases g2 with g2|g2
    ·rw[g2];exact .head _
    ·exact .tail _ g2
   ·have:=g3 (hne c2);rcases c3 with c3|c3
    ·exact absurd c3 hb0
    ·omega
   ·rcases Ck.1 hy with rfl|hy
    ·exact g3 (hne c2)
    ·exact g4 y hy hy2
  ·rw[if_neg hc];obtain⟨h1,h2⟩:=Xn n rs b hb;have hr:under n x=true→b≠[]∧(lbl x).length≤(lbl b).length:=by intro c2;simp only[c2,Uz,Cy,decide_eq_true_eq,not_or,Nat.not_lt] at hc;exact hc
   refine⟨fun h=> ?_,fun h=> ?_⟩
   ·obtain⟨g1,g2⟩:=h1 h;refine⟨g1,fun y hy=> ?_⟩;rcases Ck.1 hy with rfl|hy
    ·rcases Bm (under n y) with h3|h3
     ·exact absurd g1 (hr h3).1
     ·exact h3
    ·exact g2 y hy
   ·obtain⟨g1,g2,g3,g4⟩:=h2 h;refine⟨g1,?_,g3,fun y hy hy2=> ?_⟩
    ·rcases g2 with g2|g2
     ·exact .inl g2
     ·exact .inr (.tail _ g2)
    ·rcases Ck.1 hy with rfl|hy
     ·obtain⟨q1,q2⟩:=hr hy2;have:=g3 q1;omega
     ·exact g4 y hy hy2
def Pn {a b c:List UInt8} (h1:under a b=true) (h2:under b c=true):under a c=true:=by obtain⟨v1,_,s1⟩:=C4.1 h1;obtain⟨_,v3,s2⟩:=C4.1 h2;exact C4.2 ⟨v1,v3,s2.trans s1⟩
def zf (z:Zone) (n:List UInt8):bestF n [] (namesN z)=encN z n:=by
 obtain⟨h1,h2⟩:=Xn n (namesN z) [] (.inl rfl);have hin:∀x,x∈namesN z↔exB z x=true:=fun x=>by rw[←Vy];simp
 have hor:∀x,exB z x=true→under x z.origin=true:=fun x hx=>by obtain⟨_,_,_,_,_,h⟩:=(Tm z x).1 hx;exact h
 unfold encN;by_cases hb:bestF n [] (namesN z)=[]
 ·have:=(h1 hb).2;rw[hb];rcases Bm (under n z.origin) with hu|hu
  ·rw[if_pos hu];cases he:Ch1 z n with
   |none=>rfl
   |some e=>
    obtain⟨g1,g2⟩:=O9 hu he;have:=this e ((hin e).2 g2);rw[g1] at this;cases this
  ·rw[if_neg (by simp[hu])]
 ·obtain⟨g1,g2,_,g4⟩:=h2 hb;have g3:exB z (bestF n [] (namesN z))=true:=(hin _).1 (g2.resolve_left hb);have hu:under n z.origin=true:=Pn g1 (hor _ g3);rw[if_pos hu];generalize bestF n [] (namesN z)=b at*;have hm:b∈upN z.origin n:=(Lz hu).2 ⟨g1,hor _ g3⟩;cases he:Ch1 z n with
  |none=>
   unfold Ch1 at he;rw[List.find?_eq_none] at he;exact absurd g3 (he b hm)
  |some e=>
   obtain⟨q1,q2⟩:=O9 hu he;have q3:=g4 e ((hin e).2 q2) q1;have q4:(lbl b).length≤(lbl e).length:=by
    unfold Ch1 at he;obtain⟨_,pa,pb,he2,he3⟩:=List.find?_eq_some_iff_append.1 he;obtain⟨v1,v2,vs⟩:=C4.1 hu;have hbm:=hm;rw[he2] at hbm;rcases C8.1 hbm with hbm|hbm
    ·have:=he3 b hbm;rw[g3] at this;cases this
    ·rcases Ck.1 hbm with rfl|hbm
     ·exact B7 _
     ·obtain⟨j,hj⟩:=E2 hbm;have e1:(upN z.origin n)[pa.length]? =some e:=by rw[he2,Cc (B7 _)];simp
      have e2:(upN z.origin n)[pa.length+1+j]? =some b:=by rw[he2,Cc (by omega),show pa.length+1+j - pa.length=j+1 by omega];simpa using hj
      have l2:=(Bp.1 e2).1;rw[show (upN z.origin n).length=(lbl n).length - (lbl z.origin).length+1 by simp[upN]] at l2;rw[Ob (by omega)] at e1 e2;injection e1 with e1;injection e2 with e2;rw[←e1,←e2,(M3 v1 _).2,(M3 v1 _).2,Dj,Dj];omega
   obtain⟨_,vb,sb⟩:=C4.1 g1;obtain⟨_,ve,se⟩:=C4.1 q1;rw[G5] at sb se;show b=e;refine O4 vb ve ?_;rw[sb,se,Nat.le_antisymm q4 q3]
def Ol (z:Zone) (n:List UInt8) (hz:z.wf) (hl:z.recs.length≤1000) (hn:n.length≤9223372036854775807):S Az4 2 [z.pv,.s n]=some [.s (encN z n),.b (decide (encN z n≠[]))]:=by
 have hnl:=Jx z hl;refine Jm7 (N:=(namesN z).length+1) rfl ?_;have k1:=Rx z hz hl;have hv:∀x∈namesN z,x.length≤254:=fun x hx=>by obtain⟨_,_,_,_,_,h⟩:=(U7 z x).1 hx;exact Hl (C4.1 h).1
 rw[←zf];generalize namesN z=nz at*;have key:Gy2.ev S (nz.length+1) [z.pv,.s n,Cn nz]=some (.yld 0 [.s (bestF n [] nz)]):=by
  refine D7 nz (fun i (b:List UInt8)=>[.s b,.i .i64 (i:Int)]) (fun i b r=> .yld 0 [.s (bestF n b r)]) (fun i b=>b.length≤254) [] rfl (by simp) (by omega) (fun i b c r hd hi hc hI=> ?_) (fun b hI=> ?_)
  ·left;have g2:=hv c (Cq hc);have k2:=Gw n c hn (by omega);refine⟨if under n c && (decide (b=[])||decide ((lbl b).length<(lbl c).length)) then c else b,?_,by split<;>omega,rfl⟩;rcases Bm (under n c) with h1|h1
   ·rw[h1] at k2;by_cases h2:b=[]
    ·simp(disch:=omega)only[Br8,hc,h1,h2,k2,Ab,simprocAttr];simp
    ·have k3:=J2 b (by omega);have k4:=J2 c (by omega);by_cases h3:(lbl b).length<(lbl c).length
     ·have h4:((lbl b).length:Int)<((lbl c).length:Int):=by omega
      simp(disch:=omega)only[Br8,hc,h1,h2,h4,k2,k3,k4,Ab,simprocAttr];simp[h3,h2]
     ·have h4:¬((lbl b).length:Int)<((lbl c).length:Int):=by omega
      simp(disch:=omega)only[Br8,hc,h1,h2,h4,k2,k3,k4,Ab,simprocAttr];simp[h3,h2]
   ·rw[h1] at k2;simp(disch:=omega)only[Br8,hc,h1,k2,Ab,simprocAttr];simp
  ·simp(disch:=omega)only[Br8,Ab,simprocAttr];simp[bestF,Out.goes]
 generalize bestF n [] nz=be at*;simp(disch:=omega)only[Br8,k1,key,Ab,simprocAttr]
 try simp
end Go.X.G
/- Records with names and texts of at most 300 bytes. -/
namespace Go.X.G
open Go Go.X
def c3 (s:List UInt8):List UInt8:=s.take 300
end Go.X.G
/- The laws of zones: what they call. -/
namespace Go.X.G
open Go Go.X
def Et (o:List UInt8) (l:List Rec):PV.a [.s o,B6 l]=Zone.pv ⟨o,l⟩:=rfl
def Ff (z:Zone):(⟨z.origin,z.recs⟩:Zone)=z:=rfl
end Go.X.G
/- Names with another end; redirections; what records of a name say. -/
namespace Go.X
structure Res where
 kind:Int
 owner:List UInt8
 wild:Bool
 target:List UInt8
 recs:List Rec
 deriving DecidableEq
def Res.cells (x:Res):List PV:=[.i .i64 x.kind,.s x.owner,.b x.wild,.s x.target,B6 x.recs]
def Res.pv (x:Res):PV:= .a x.cells
def Dx4 (x:Res):Dk 0 x.pv=some (.i .i64 x.kind):=rfl
def Dx3 (x:Res):Dk 1 x.pv=some (.s x.owner):=rfl
def Dx2 (x:Res):Dk 2 x.pv=some (.b x.wild):=rfl
def Dx1 (x:Res):Dk 3 x.pv=some (.s x.target):=rfl
def Dx0 (x:Res):Dk 4 x.pv=some (B6 x.recs):=rfl
def Gl0 (x:Res):Lp 0 5 x.pv=some x.pv:=rfl
def Gt8 (x:Res):Vv 5 x.pv=some x.pv:=rfl
def Fl9 (k:Int) (o:List UInt8) (w:Bool) (t:List UInt8) (l:List Rec):PV.a [.i .i64 k,.s o,.b w,.s t,B6 l]=Res.pv ⟨k,o,w,t,l⟩:=rfl
def Ss (l:List Rec) (k:IntKind) (z:Int) (n:List UInt8) (x:Rec) (h0:0≤z) (h3:l[z.toNat]? =some x):
  Lr 16 0 [.s n] (B6 l) (.i k z)=some (B6 (l.set z.toNat {x with name:=n})):=by
 have h4:(l.map Rec.pv)[z.toNat]? =some x.pv:=by rw[C3,h3];rfl
 simp only[Lr,B6,h0,h4,and_self,if_true,B3];have h5:Oh x.pv 0 [.s n]=some (Rec.pv {x with name:=n}):=rfl;rw[h5];simp[List.map_set]
set_option linter.defProp false in
def EVR:=(And.intro @Dx4 (And.intro @Dx3 (And.intro @Dx2 (And.intro @Dx1 (And.intro @Dx0 (And.intro @Gl0 (And.intro @Gt8 @Fl9)))))))
end Go.X
namespace Go.X.G
open Go Go.X
def replL (n top to:List UInt8):List (List UInt8):=(lbl n).take ((lbl n).length - (lbl top).length)++lbl to
def replN (n top to:List UInt8):List UInt8×Int:=
 if vld n=true∧vld top=true∧vld to=true∧(lbl to)[0]? ≠some [42] then
  if under n top=true∧n≠top then
   if(flat (replL n top to)).length≤254 then(flat (replL n top to),0) else([],9)
  else([],1)
 else([],2)
def yj {l:List (List UInt8)} (h:Ht true l=true) (h2:l[0]? ≠some [42]):Ht false l=true:=by
 cases l with
 |nil=>rfl
 |cons p r=>
  simp only[Ht,Br] at h ⊢;refine⟨⟨h.1.1,?_⟩,h.2⟩;have:p≠[42]:=fun e=>h2 (by rw[e];rfl);simp[this]
def dt {n top to:List UInt8} (hu:under n top=true) (hne:n≠top) (ht:vld to=true) (hs:(lbl to)[0]? ≠some [42]):Ht true (replL n top to)=true∧replL n top to≠[]∧(lbl n).take ((lbl n).length - (lbl top).length)≠[]:=by
 obtain⟨vn,vt,sf⟩:=C4.1 hu;have hlt:(lbl top).length<(lbl n).length:=by
  have:=sf.length_le;rcases Nat.lt_or_ge (lbl top).length (lbl n).length with h|h
  ·exact h
  ·exact absurd (K9 hu h) hne
 have h1:(lbl n).take ((lbl n).length - (lbl top).length)≠[]:=by intro e;have:=congrArg List.length e;rw[Cw,C2] at this;omega
 have h2:Ht true ((lbl n).take ((lbl n).length - (lbl top).length))=true:=by have:=Sb vn;rw[←Dq ((lbl n).length - (lbl top).length) (lbl n),Td,Br] at this;exact this.1
 refine⟨?_,by unfold replL;simp[h1],h1⟩;unfold replL;rw[Td,h2,List.isEmpty_eq_false_iff.2 h1];simp[yj (Sb ht) hs]
def Ek8 {l:List (List UInt8)} (h:Ht true l=true):∀x∈l,x.length≤1000:=fun x hx=>by have:=Vq (Hr h hx);omega
def Ax1 (n top to:List UInt8) (hn:n.length≤9223372036854775807) (ht:top.length≤9223372036854775807) (hto:to.length≤9223372036854775807):S Dg3 3 [.s n,.s top,.s to]=some [.s (replN n top to).1,.i .i64 (replN n top to).2]:=by
 refine Jf6 (N:=1) rfl ?_;have k1:=split_ok n hn;have k2:=split_ok top ht;have k3:=split_ok to hto;have k4:=Gw n top hn ht;have l1:=G2 n;have l2:=G2 top;have l3:=G2 to;unfold replN;rcases Bm (vld n) with v1|v1
 ·rcases Bm (vld top) with v2|v2
  ·rcases Bm (vld to) with v3|v3
   ·rw[v1] at k1;rw[v2] at k2;rw[v3] at k3;have tail:(lbl to)[0]? ≠some [42]→T.ev S 1 Ex9 [.s n,.s top,.s to,Cn (lbl n),.b true,Cn (lbl top),.b true,Cn (lbl to),.b true]=some (.ret (if under n top=true∧n≠top then(if(flat (replL n top to)).length≤254 then [.s (flat (replL n top to)),.i .i64 0] else [.s [],.i .i64 9]) else [.s [],.i .i64 1])):=by
     intro hs;rcases Bm (under n top) with hu|hu
     ·rw[hu] at k4;have hle:=(C4.1 hu).2.2.length_le;by_cases he:n=top
      ·have h5:((lbl n).length:Int)=((lbl top).length:Int):=by rw[he]
       rw[if_neg (by simp[he])];simp(disch:=omega)only[bl,k4,h5,Ab,simprocAttr]
      ·rw[if_pos ⟨hu,he⟩];obtain⟨q1,q2,q3⟩:=dt hu he v3 hs;have h5:¬((lbl n).length:Int)=((lbl top).length:Int):=by intro h;exact he (K9 hu (by omega))
       have h6:Jv 1 (Cn (lbl n)) (.i .i64 0) (.i .i64 (((lbl n).length:Int) - ((lbl top).length:Int)))=some (Cn ((lbl n).take ((lbl n).length - (lbl top).length))):=by
        rw[L6 _ _ _ _ _ (by omega) (by omega) (by omega)];have:(((lbl n).length:Int) - ((lbl top).length:Int)).toNat=(lbl n).length - (lbl top).length:=by omega
        rw[this];simp
       have h7:Jn 1 (Cn []) (Cn ((lbl n).take ((lbl n).length - (lbl top).length)))=some (Cn ((lbl n).take ((lbl n).length - (lbl top).length))):=by have:=Xp [] ((lbl n).take ((lbl n).length - (lbl top).length)) (by rw[Cw];simp;omega);simpa using this
       have h8:Jn 1 (Cn ((lbl n).take ((lbl n).length - (lbl top).length))) (Cn (lbl to))=some (Cn (replL n top to)):=Xp _ _ (by rw[Cw];omega);have hrl:(replL n top to).length≤1000:=by unfold replL;rw[B0,Cw];omega
       have h9:=Df4 (replL n top to) hrl (Ek8 q1);have hj:jn (replL n top to)=flat (replL n top to):=by unfold jn;rw[if_neg q2]
       rw[hj] at h9;have hfl:(flat (replL n top to)).length≤1000000:=by
        have:∀l:List (List UInt8),(∀x∈l,x.length≤999)→(flat l).length≤1000*l.length:=by
         intro l
         induction l with
         |nil=>intro _;simp[flat]
         |cons x r ih=>
          intro h;have a1:=ih fun y hy=>h y (.tail _ hy);have a2:=h x (.head _);rw[Mm,B0,Cj,Cj];omega
        have:=this (replL n top to) (fun x hx=>by have:=Vq (Hr q1 hx);omega);omega
       have h10:=Gd (flat (replL n top to)) (by omega);generalize (lbl n).take ((lbl n).length - (lbl top).length)=th at*;by_cases hlen:(flat (replL n top to)).length≤254
       ·rw[if_pos hlen];have hv:=(Gk0 q1 hlen).1;rw[hj] at hv;rw[hv] at h10;generalize replL n top to=rl at*;simp(disch:=omega)only[bl,k4,h5,h6,h7,h8,h9,h10,Ab,simprocAttr]
       ·rw[if_neg hlen];have hv:vld (flat (replL n top to))=false:=by
         rcases Bm (vld (flat (replL n top to))) with h|h
         ·exact absurd (Hl h) hlen
         ·exact h
        rw[hv] at h10;generalize replL n top to=rl at*;simp(disch:=omega)only[bl,k4,h5,h6,h7,h8,h9,h10,Ab,simprocAttr]
     ·rw[hu] at k4;rw[if_neg (by simp[hu])];simp(disch:=omega)only[bl,k4,Ab,simprocAttr]
    cases hq:lbl to with
    |nil=>
     rw[hq] at k3 tail;have ht:=tail (by simp);rw[if_pos ⟨v1,v2,v3,by simp⟩];simp(disch:=first|omega|(simp;omega))only[↓ht,bl,k1,k2,k3,Ab,simprocAttr];split<;>(try split)<;>rfl
    |cons p r=>
     rw[hq] at k3 tail;have h6:0<((p::r).length:Int):=by simp only[Cj];omega
     by_cases h7:p=[42]
     ·subst h7;rw[if_neg (by simp)];simp(disch:=first|omega|(simp only[Cj];omega))only[bl,k1,k2,k3,Ab,simprocAttr]
     ·have ht:=tail (by simpa using h7);rw[if_pos ⟨v1,v2,v3,by simpa using h7⟩];simp(disch:=first|omega|(simp only[Cj];omega))only[↓ht,bl,k1,k2,k3,h7,Ab,simprocAttr];split<;>(try split)<;>rfl
   ·rw[if_neg (by simp[v3])];rw[v1] at k1;rw[v2] at k2;rw[v3] at k3;simp(disch:=omega)only[bl,k1,k2,k3,Ab,simprocAttr]
  ·rw[if_neg (by simp[v2])];rw[v1] at k1;rw[v2] at k2;simp(disch:=omega)only[bl,k1,k2,k3,Ab,simprocAttr]
 ·rw[if_neg (by simp[v1])];rw[v1] at k1;simp(disch:=omega)only[bl,k1,k2,k3,Ab,simprocAttr]
def od (s t:List UInt8) (hs:s.length≤9223372036854775807) (h:t.isSuffixOf s=true):S vg 2 [.s s,.s t]=some [.s (s.take (s.length - t.length))]:=by
 have hle:t.length≤s.length:=(Hk.1 h).length_le;have k1:=Uk s t hs;rw[h] at k1;have k2:S u7 2 [.s s,.s t]=some [.s (s.take (s.length - t.length))]:=by
  refine Hr0 (N:=1) rfl ?_;have h6:Bs8 (.s s) (.i .i64 0) (.i .i64 ((s.length:Int) - (t.length:Int)))=some (.s (s.take (s.length - t.length))):=by
   rw[Hh8 _ _ _ _ _ (by omega) (by omega) (by omega)];have:((s.length:Int) - (t.length:Int)).toNat=s.length - t.length:=by omega
   rw[this];simp
  simp(disch:=omega)only[Hb4,k1,h6,Ab,simprocAttr]
 refine Ht0 (N:=1) rfl ?_;simp(disch:=omega)only[Hc2,k2,Ab,simprocAttr]
def Ak8 (n top to:List UInt8) (hn:n.length≤9223372036854775807) (ht:top.length≤9223372036854775807) (hto:to.length≤9223372036854775807):S wn 3 [.s n,.s top,.s to]=some [.s (replN n top to).1,.i .i64 (replN n top to).2]:=by
 refine Iq9 (N:=1) rfl ?_;have k1:=Dc n hn;have k2:=Dc top ht;have k3:=Dc to hto;unfold replN;rcases Bm (vld n) with v1|v1
 ·rcases Bm (vld top) with v2|v2
  ·rcases Bm (vld to) with v3|v3
   ·rw[v1] at k1;rw[v2] at k2;rw[v3] at k3;have hp:=Sz v3;have hsf:=Ur v3;obtain⟨c,hc⟩:∃c,to[0]? =some c:=⟨_,Bs hp⟩;rw[hc] at hsf;by_cases hs:c=42
    ·rw[if_neg (by rw[hs] at hsf;simp[hsf.1 rfl])];subst hs;simp(disch:=omega)only[Oy,k1,k2,k3,hc,Ab,simprocAttr]
     try simp
    ·have hs':(lbl to)[0]? ≠some [42]:=fun e=>hs (by have:=hsf.2 e;simpa using this);have hcc:¬(c.toNat:Int)=42:=fun e=>hs (by apply UInt8.toNat.inj;have:(42:UInt8).toNat=42:=rfl;omega)
     rw[if_pos ⟨v1,v2,v3,hs'⟩];have tl:=Hl v2;have k4:=Eq7 n top hn (by omega);rw[dc v1 v2] at k4;by_cases he:n=top
     ·rw[if_neg (by simp[he])];simp(disch:=omega)only[Oy,k1,k2,k3,hc,hcc,he,Ab,simprocAttr]
     ·rcases Bm (under n top) with hu|hu
      ·rw[hu] at k4;rw[if_pos ⟨hu,he⟩];obtain⟨q1,q2,q3⟩:=dt hu he v3 hs';have nl:=Hl v1;have tol:=Hl v3;have hnr:n≠[46]:=by rintro rfl;have:=(C4.1 hu).2.2.length_le;rw[K6] at this;exact he (O4 v1 v2 (by rw[K6];exact(List.length_eq_zero_iff.1 (by simpa using this)).symm))
       have hnf:n=flat (lbl n):=by have:=Qr v1;unfold jn at this;rwa[if_neg (fun h=>hnr ((O3 v1).1 h))] at this
       have hsp:lbl n=(lbl n).take ((lbl n).length - (lbl top).length)++lbl top:=by
        have:=(C4.1 hu).2.2;rw[G5] at this
        conv=>lhs;rw[←Dq ((lbl n).length - (lbl top).length) (lbl n)]
        rw[←this]
       have hhead:∃hd,hd=flat ((lbl n).take ((lbl n).length - (lbl top).length))∧hd.length≤254∧∀p3 p4 p5 p6,Ag5.ev S 1 [.s n,.s top,.s to,p3,p4,p5,p6]=some (.yld 0 [.s hd]):=by
        refine⟨_,rfl,?_,fun p3 p4 p5 p6=> ?_⟩
        ·have:(flat (lbl n)).length≤254:=by rw[←hnf];exact nl
         rw[hsp,Qj,B0] at this;omega
        ·by_cases hr:top=[46]
         ·subst hr;rw[K6,Eg] at hsp;rw[K6,←hsp,←hnf];simp(disch:=omega)only[Oy,Ab,simprocAttr]
         ·have htf:top=flat (lbl top):=by have:=Qr v2;unfold jn at this;rwa[if_neg (fun h=>hr ((O3 v2).1 h))] at this
          have hna:n=flat ((lbl n).take ((lbl n).length - (lbl top).length))++top:=by
           conv=>lhs;rw[hnf,hsp,Qj]
           rw[←htf]
          have hsuf:top.isSuffixOf n=true:=Hk.2 ⟨_,hna.symm⟩;have k5:=od n top hn hsuf;have htk:n.take (n.length - top.length)=flat ((lbl n).take ((lbl n).length - (lbl top).length)):=by
           conv=>lhs;rw[hna]
           rw[B0,Kl,Ch8]
          rw[htk] at k5;generalize flat ((lbl n).take ((lbl n).length - (lbl top).length))=hd at*;simp(disch:=omega)only[Oy,k5,hr,Ab,simprocAttr]
       obtain⟨hd,hd1,hd2,hd3⟩:=hhead;have hfin:flat (replL n top to)=if to=[46] then hd else hd++to:=by
        unfold replL;rw[Qj,←hd1];by_cases hr:to=[46]
        ·rw[if_pos hr,hr,K6];simp[flat]
        ·rw[if_neg hr];have:=Qr v3;unfold jn at this;rw[if_neg (fun h=>hr ((O3 v3).1 h))] at this;rw[←this]
       rw[hfin];by_cases hr:to=[46]
       ·rw[if_pos hr];subst hr;have h1:¬(255:Int)≤(hd.length:Int):=by omega
        rw[if_pos hd2];simp(disch:=omega)only[Oy,k1,k2,k3,k4,hc,hcc,he,hd3,h1,Ab,simprocAttr]
       ·rw[if_neg hr];by_cases hlen:(hd++to).length≤254
        ·rw[if_pos hlen];have h1:¬(255:Int)≤((hd++to).length:Int):=by omega
         simp(disch:=first|omega|(rw[B0] at*;omega))only[Oy,k1,k2,k3,k4,hc,hcc,he,hd3,hr,h1,Ab,simprocAttr]
        ·rw[if_neg hlen];have h1:(255:Int)≤((hd++to).length:Int):=by omega
         simp(disch:=first|omega|(rw[B0] at*;omega))only[Oy,k1,k2,k3,k4,hc,hcc,he,hd3,hr,h1,Ab,simprocAttr]
      ·rw[hu] at k4;rw[if_neg (by simp[hu])];simp(disch:=omega)only[Oy,k1,k2,k3,k4,hc,hcc,he,Ab,simprocAttr]
   ·rw[if_neg (by simp[v3])];rw[v1] at k1;rw[v2] at k2;rw[v3] at k3;simp(disch:=omega)only[Oy,k1,k2,k3,Ab,simprocAttr]
  ·rw[if_neg (by simp[v2])];rw[v1] at k1;rw[v2] at k2;simp(disch:=omega)only[Oy,k1,k2,Ab,simprocAttr]
 ·rw[if_neg (by simp[v1])];rw[v1] at k1;simp(disch:=omega)only[Oy,k1,Ab,simprocAttr]
end Go.X.G
/- What a zone says about a question: the program and the reference. -/
namespace Go.X.G
open Go Go.X
def Xj (z:Zone) (n:List UInt8) (t:Int) (hl:z.recs.length≤1000000):S t8 3 [z.pv,.s n,.i .i64 t]=some [B6 (findR z.recs n t)]:=by refine Jm0 (N:=1) rfl ?_;have k1:=Fs7 z.recs n t hl;simp(disch:=omega)only[Jy3,k1,Ab,simprocAttr]
def U1 (z:Zone) (n:List UInt8) (t:Int) (hl:z.recs.length≤1000000):S Ay7 3 [z.pv,.s n,.i .i64 t]=some [B6 (findR z.recs n t)]:=by refine Jf8 (N:=1) rfl ?_;have k1:=Nh z.recs n t hl;simp(disch:=omega)only[Jx1,k1,Ab,simprocAttr]
abbrev Jw6:Res:=⟨0,[],false,[],[]⟩
def j8 (s:List UInt8):List UInt8:=if s[0]? =some 42 then [] else s
def dnB (z:Zone) (u:List UInt8):Bool:=decide (0<(findR z.recs u 39).length)
def El5 (z:Zone) (n:List UInt8):Option (List UInt8):=((upN z.origin n).drop 1).find? (dnB z)
def s5 (z:Zone) (n u:List UInt8):Res:=
 match findR z.recs u 39 with
 |r::_=>⟨3,u,false,j8 (replN n u r.data.host).1,[r]⟩
 |[]=>Jw6
def Gk7 (z:Zone) (n:List UInt8):Option Res:=(El5 z n).map (s5 z n)
def Nr:Option Res→List PV
 |some x=>[x.pv,.b true]
 |none=>[Jw6.pv,.b false]
def Bg9 {z:Zone} (hz:z.wf) {n:List UInt8} {t:Int} {r:Rec} (h:r∈findR z.recs n t):r.wf:=hz.recs.2 r (C5.1 h).1
def g8 (z:Zone) (n:List UInt8) (t:Int):(findR z.recs n t).length≤z.recs.length:=Dh _ _
def c42 (c:UInt8):(c.toNat:Int)=42↔c=42:=by
 constructor
 ·intro h;apply UInt8.toNat.inj;have:(42:UInt8).toNat=42:=rfl;omega
 ·rintro rfl;rfl
def Gf1 (z:Zone) (n:List UInt8) (hz:z.wf) (hl:z.recs.length≤1000000) (hu:under n z.origin=true) (N:Nat) (hN:1000<N):
  Gx4.ev S N [z.pv,.s n]=some (match Gk7 z n with|some x=> .ret [x.pv,.b true]|none=> .yld 0 [.i .i64 0,.s [],.b false,.s [],B6 []]):=by
 obtain⟨v1,v2,_⟩:=C4.1 hu;have hlb:=G2 n;have nl:=Hl v1;have h0:jn ((lbl n).drop 0)=n:=Zf v1;let res:Option (List UInt8)→Out:=fun o=>match o.map (s5 z n) with|some x=> .ret [x.pv,.b true]|none=> .yld 0 [.i .i64 0,.s [],.b false,.s [],B6 []]
 have:=Gk (fn:=S) (N:=N) (η:=[z.pv,.s n]) (id:=1) (init:=[(.v 1),(.c (.i .i64 (0))),(.c (.s [])),(.c (.b false)),(.c (.s [])),(.c (.l 16 []))]) (body:=Ed6) ((lbl n).length - (lbl z.origin).length)
  (fun k=>[.s (jn ((lbl n).drop k)),.i .i64 0,.s [],.b false,.s [],B6 []]) (fun k=>res (((upN z.origin n).drop (k+1)).find? (dnB z))) ?_ (by omega) (fun k hk=> ?_) ?_
 ·exact this
 ·rw[h0];simp(disch:=omega)only[Ab,simprocAttr]
 ·have hup:(upN z.origin n)[k+1]? =some (jn ((lbl n).drop (k+1))):=Ob hk;have hd:(upN z.origin n).drop (k+1)=jn ((lbl n).drop (k+1))::(upN z.origin n).drop (k+1+1):=by obtain⟨h1,h2⟩:=Bp.1 hup;rw[Df h1,h2]
  obtain⟨q1,q2⟩:=qf hu hk;have q3:¬jn ((lbl n).drop k)=z.origin:=fun h=>by have:=(Sf hu (Nat.le_of_lt hk)).1 h;omega
  have q4:=Zg v1 k;have q5:=Zg v1 (k+1);have k1:=Vs (jn ((lbl n).drop k)) (by omega);rw[q1,q2] at k1;have k2:=Xj z (jn ((lbl n).drop (k+1))) 39 hl;rw[hd];generalize jn ((lbl n).drop (k+1))=nx at*;generalize jn ((lbl n).drop k)=cu at*;cases hf:findR z.recs nx 39 with
  |nil=>
   left;have h5:dnB z nx=false:=by unfold dnB;rw[hf];rfl
   rw[hf] at k2;rw[jx (by simp[h5])];refine⟨?_,rfl⟩;simp(disch:=omega)only[Aq1,k1,k2,q3,EVM,EVC,EVR,Ad,simprocAttr]
   try rfl
  |cons r rest=>
   right;have h5:dnB z nx=true:=by unfold dnB;rw[hf];simp
   have hrw:=Bg9 hz (n:=nx) (t:=39) (r:=r) (by rw[hf];exact .head _);have hll:=g8 z nx 39;have hh:=hrw.data.host;unfold My at hh;have k3:=Ak8 n nx r.data.host (by omega) (by omega) hh;rw[hf] at k2 hll;rw[jw h5];have e:res (some nx)= .ret [(Res.mk 3 nx false (j8 (replN n nx r.data.host).1) [r]).pv,.b true]:=by simp only[res,Cd,s5,hf]
   rw[e];refine⟨?_,rfl⟩;have hpos:(0:Int)<((r::rest).length:Int):=by simp only[Cj];omega
   have hls:Jv 16 (B6 (r::rest)) (.i .i64 0) (.i .i64 1)=some (B6 [r]):=by rw[Jf _ _ _ _ _ (by omega) (by omega) (by omega)];rfl
   have hix:I7 16 (B6 (r::rest)) (.i .i64 0)=some r.pv:=by rw[L9 _ _ _ (by omega)];rfl
   unfold j8;generalize replN n nx r.data.host=rp at*;obtain⟨to,er⟩:=rp;generalize (r::rest)=ll at*;cases to with
   |nil=>
    simp(disch:=omega)only[Aq1,k1,k2,k3,q3,hpos,hls,hix,EVM,EVC,EVR,Ad,simprocAttr]
    try simp
   |cons c tr=>
    by_cases hc:c=42
    ·subst hc;simp(disch:=omega)only[Aq1,k1,k2,k3,q3,hpos,hls,hix,EVM,EVC,EVR,Ad,simprocAttr]
     try simp
    ·have hc2:¬(c.toNat:Int)=42:=fun h=>hc ((c42 c).1 h);simp(disch:=omega)only[Aq1,k1,k2,k3,q3,hpos,hls,hix,hc2,EVM,EVC,EVR,Ad,simprocAttr]
     try simp[hc]
 ·have q3:=(Sf hu (B7 _)).2 rfl;have h9:(upN z.origin n).drop ((lbl n).length - (lbl z.origin).length+1)=[]:=Jc (by simp[upN]);rw[h9,q3,List.find?_nil];refine⟨?_,rfl⟩;simp(disch:=omega)only[Aq1,EVM,EVC,EVR,Ad,simprocAttr]
  try rfl
def pw (z:Zone) (n:List UInt8) (hz:z.wf) (hl:z.recs.length≤1000000) (hu:under n z.origin=true):S Dh1 2 [z.pv,.s n]=some (Nr (Gk7 z n)):=by
 refine Jl4 (N:=1001) rfl ?_;have key:=Gf1 z n hz hl hu 1001 (by omega);cases h:Gk7 z n with
 |none=>
  rw[h] at key;simp(disch:=omega)only[Aq1,key,Nr,EVM,EVC,EVR,Ad,simprocAttr]
 |some x=>
  rw[h] at key;simp(disch:=omega)only[Aq1,key,Nr,EVM,EVC,EVR,Ad,simprocAttr]
def Bg7:∀(l:List (List UInt8)),(∀x∈l,x≠[])→2*l.length≤(flat l).length
 |[],_=>by simp[flat]
 |x::r,h=>by have ih:=Bg7 r fun y hy=>h y (.tail _ hy);have hx:=Ch.2 (h x (.head _));rw[Mm,B0,Cj,Cj];omega
def Gt1 (n:List UInt8):(lbl n).length≤127:=by
 rcases Bm (vld n) with h|h
 ·rcases vld_cases h with⟨_,h2⟩|⟨_,h2,h3,h4⟩
  ·rw[h2];simp
  ·have:=Bg7 (lbl n) fun x hx=>mw (Hr h2 hx);rw[←h3] at this;omega
 ·rw[mj h];simp
def Gn3 (z:Zone) (n:List UInt8) (hl:z.recs.length≤1000000) (hu:under n z.origin=true):S Dg4 2 [z.pv,.s n]=some (match El5 z n with|some u=>[.s u,.b true]|none=>[.s [],.b false]):=by
 refine Jf7 (N:=1001) rfl ?_;obtain⟨v1,v2,_⟩:=C4.1 hu;have hlb:=Gt1 n;have nl:=Hl v1;have h0:jn ((lbl n).drop 0)=n:=Zf v1;let res:Option (List UInt8)→Out:=fun o=>match o with|some u=> .ret [.s u,.b true]|none=> .yld 0 []
 have key:Gw4.ev S 1001 [z.pv,.s n]=some (res (El5 z n)):=by
  have:=Gk (fn:=S) (N:=1001) (η:=[z.pv,.s n]) (id:=1) (init:=[(.v 1),(.c (.i .i64 (0)))]) (body:=Ed2) ((lbl n).length - (lbl z.origin).length)
   (fun k=>[.s (jn ((lbl n).drop k)),.i .i64 (k:Int)]) (fun k=>res (((upN z.origin n).drop (k+1)).find? (dnB z))) ?_ (by omega) (fun k hk=> ?_) ?_
  ·exact this
  ·rw[h0];simp(disch:=omega)only[Ab,simprocAttr]
  ·have hup:(upN z.origin n)[k+1]? =some (jn ((lbl n).drop (k+1))):=Ob hk;have hd:(upN z.origin n).drop (k+1)=jn ((lbl n).drop (k+1))::(upN z.origin n).drop (k+1+1):=by obtain⟨h1,h2⟩:=Bp.1 hup;rw[Df h1,h2]
   obtain⟨q1,q2⟩:=qf hu hk;have q3:¬jn ((lbl n).drop k)=z.origin:=fun h=>by have:=(Sf hu (Nat.le_of_lt hk)).1 h;omega
   have q4:=Zg v1 k;have k1:=i8 (jn ((lbl n).drop k)) (by omega);rw[q1,q2] at k1;have k2:=U1 z (jn ((lbl n).drop (k+1))) 39 hl;rw[hd];generalize jn ((lbl n).drop (k+1))=nx at*;generalize jn ((lbl n).drop k)=cu at*;by_cases h6:0<(findR z.recs nx 39).length
   ·right;have h5:dnB z nx=true:=by unfold dnB;simp[h6]
    have h7:(0:Int)<((findR z.recs nx 39).length:Int):=by omega
    rw[jw h5];refine⟨?_,rfl⟩;generalize findR z.recs nx 39=fr at*;simp(disch:=omega)only[Cl9,k1,k2,q3,h7,EVM,EVC,EVR,Ad,simprocAttr]
    try rfl
   ·left;have h5:dnB z nx=false:=by unfold dnB;simp[h6]
    have h7:¬(0:Int)<((findR z.recs nx 39).length:Int):=by omega
    rw[jx (by simp[h5])];refine⟨?_,rfl⟩;generalize findR z.recs nx 39=fr at*;simp(disch:=omega)only[Cl9,k1,k2,q3,h7,EVM,EVC,EVR,Ad,simprocAttr]
  ·have q3:=(Sf hu (B7 _)).2 rfl;have h9:(upN z.origin n).drop ((lbl n).length - (lbl z.origin).length+1)=[]:=Jc (by simp[upN]);rw[h9,q3,List.find?_nil];refine⟨?_,rfl⟩;simp(disch:=omega)only[Cl9,EVM,EVC,EVR,Ad,simprocAttr]
   try rfl
 cases h:El5 z n with
 |none=>
  rw[h] at key;simp only[res] at key;simp(disch:=omega)only[Cl9,key,EVM,EVC,EVR,Ad,simprocAttr]
 |some u=>
  rw[h] at key;simp only[res] at key;simp(disch:=omega)only[Cl9,key,EVM,EVC,EVR,Ad,simprocAttr]
def allR (z:Zone) (n:List UInt8):List Rec:=z.recs.filter fun r=>decide (r.name=n)
def Ew2 (t:Int):Bool:=decide (t=5)||decide (t=47)||decide (t=46)||decide (t=255)
def typedR (l:List Rec) (t:Int):List Rec:=if t=255 then l else l.filter fun r=>decide (r.typ=t)
def Fs0 (l:List Rec) (t:Int):Option Rec:=if Ew2 t=true then none else l.find? fun r=>decide (r.typ=5)
def saysM (l:List Rec) (t:Int):Res:=
 match Fs0 l t with
 |some c=>⟨2,[],false,c.data.host,[c]⟩
 |none=>if typedR l t=[] then ⟨5,[],false,[],[]⟩ else ⟨1,[],false,[],typedR l t⟩
def Bd0 (z:Zone) (n:List UInt8) (hl:z.recs.length≤1000000):S Cx4 2 [z.pv,.s n]=some [B6 (allR z n)]:=by
 refine Jl1 (N:=z.recs.length+1) rfl ?_;have key:Gx3.ev S (z.recs.length+1) [z.pv,.s n]=some (.yld 0 [B6 ([]++allR z n)]):=by
  refine D7 z.recs (fun i (b:List Rec)=>[B6 b,.i .i64 (i:Int)]) (fun i b r=> .yld 0 [B6 (b++r.filter fun r=>decide (r.name=n))]) (fun i b=>b.length≤i) [] rfl (Dy _) (by omega) (fun i b c r hd hi hc hI=> ?_) (fun b hI=> ?_)
  ·left;by_cases h:c.name=n
   ·refine⟨b++[c],?_,by simp;omega,by simp[h]⟩;simp(disch:=omega)only[Em9,hc,h,EVM,EVC,EVR,Ad,simprocAttr]
    try simp[←h]
   ·refine⟨b,?_,by omega,by simp[h]⟩;simp(disch:=omega)only[Em9,hc,h,EVM,EVC,EVR,Ad,simprocAttr]
  ·simp(disch:=omega)only[Em9,EVM,EVC,EVR,Ad,simprocAttr]
   try simp[Out.goes]
 rw[Dw] at key;generalize allR z n=ar at*;simp(disch:=omega)only[Em9,key,EVM,EVC,EVR,Ad,simprocAttr]
def Br0 (z:Zone) (n:List UInt8) (hl:z.recs.length≤1000000):S Cw6 2 [z.pv,.s n]=some [B6 (allR z n)]:=by
 refine Jf3 (N:=z.recs.length+1) rfl ?_;have key:Gw1.ev S (z.recs.length+1) [z.pv,.s n]=some (.yld 0 [B6 ([]++allR z n)]):=by
  refine D7 z.recs (fun i (b:List Rec)=>[B6 b,.i .i64 (i:Int)]) (fun i b r=> .yld 0 [B6 (b++r.filter fun r=>decide (r.name=n))]) (fun i b=>b.length≤i) [] rfl (Dy _) (by omega) (fun i b c r hd hi hc hI=> ?_) (fun b hI=> ?_)
  ·left;by_cases h:c.name=n
   ·refine⟨b++[c],?_,by simp;omega,by simp[h]⟩;simp(disch:=omega)only[Em6,hc,h,EVM,EVC,EVR,Ad,simprocAttr]
    try simp[←h]
   ·refine⟨b,?_,by omega,by simp[h]⟩;simp(disch:=omega)only[Em6,hc,h,EVM,EVC,EVR,Ad,simprocAttr]
  ·simp(disch:=omega)only[Em6,EVM,EVC,EVR,Ad,simprocAttr]
   try simp[Out.goes]
 rw[Dw] at key;generalize allR z n=ar at*;simp(disch:=omega)only[Em6,key,EVM,EVC,EVR,Ad,simprocAttr]
def Cp9 (r:Rec) (t:Int):S fg 1 [r.pv,.i .i64 t]=some [.b (decide (r.typ≠t))]:=by
 refine Hs9 (N:=1) rfl ?_;simp(disch:=omega)only[Hc1,EVM,EVC,EVR,Ad,simprocAttr]
 try simp
def As7 (l:List Rec) (t:Int) (hl:l.length≤1000000):S gw 2 [B6 l,.i .i64 t]=some [B6 (typedR l t)]:=by
 refine Iq8 (N:=1) rfl ?_;unfold typedR;by_cases h:t=255
 ·rw[if_pos h];simp(disch:=omega)only[Gj7,h,EVM,EVC,EVR,Ad,simprocAttr]
 ·rw[if_neg h];have k1:=bq l hl;have k2:=V1 l fg [.i .i64 t] _ hl (fun r _=>Cp9 r t);have e:(l.filter fun x=> !decide (x.typ≠t))=l.filter fun r=>decide (r.typ=t):=by congr 1;funext x;simp
  rw[e] at k2;generalize (l.filter fun r=>decide (r.typ=t))=fl at*;simp(disch:=omega)only[Gj7,h,k1,k2,Fx,Ln,EVT,EVM,EVC,EVR,Ad,simprocAttr]
def Ew1 (t:Int):S wm 1 [.i .i64 t]=some [.b (Ew2 t)]:=by
 refine Iq7 (N:=1) rfl ?_;unfold Ew2;by_cases h1:t=5
 ·subst h1;simp(disch:=omega)only[qb,EVM,EVC,EVR,Ad,simprocAttr];try simp
 ·by_cases h2:t=47
  ·subst h2;simp(disch:=omega)only[qb,EVM,EVC,EVR,Ad,simprocAttr];try simp
  ·by_cases h3:t=46
   ·subst h3;simp(disch:=omega)only[qb,EVM,EVC,EVR,Ad,simprocAttr];try simp
   ·by_cases h4:t=255
    ·subst h4;simp(disch:=omega)only[qb,EVM,EVC,EVR,Ad,simprocAttr];try simp
    ·simp(disch:=omega)only[qb,h1,h2,h3,h4,EVM,EVC,EVR,Ad,simprocAttr];try simp[h1,h2,h3,h4]
def Ug (l:List Rec) (t:Int):(typedR l t).length≤l.length:=by
 unfold typedR;split
 ·exact B7 _
 ·exact Dh _ _
def Ct9 (l:List Rec) (t:Int) (hl:l.length≤1000000):S Cx5 2 [B6 l,.i .i64 t]=some [(saysM l t).pv]:=by
 refine Jl2 (N:=1) rfl ?_;have k1:=As7 l 5 hl;have k2:=As7 l t hl;have k3:=Ew1 t;have hh:(typedR l 5).head? =l.find? fun r=>decide (r.typ=5):=by unfold typedR;rw[if_neg (by omega),List.head?_filter]
 have hl2:=Ug l 5;have hl3:=Ug l t;have tail:∀a b,T.ev S 1 Ey6 [B6 l,.i .i64 t,a,b]=some (.ret [(if typedR l t=[] then(⟨5,[],false,[],[]⟩:Res) else ⟨1,[],false,[],typedR l t⟩).pv]):=by
  intro a b;by_cases h:typedR l t=[]
  ·rw[if_pos h];rw[h] at k2;simp(disch:=omega)only[Cm3,k2,EVM,EVC,EVR,Ad,simprocAttr]
   try rfl
  ·rw[if_neg h];have hp:(0:Int)<((typedR l t).length:Int):=by have:=Ch.2 h;omega
   generalize typedR l t=tl at*;simp(disch:=omega)only[Cm3,k2,hp,EVM,EVC,EVR,Ad,simprocAttr]
 unfold saysM Fs0;cases hf:typedR l 5 with
 |nil=>
  rw[hf] at k1 hh;have e:(if Ew2 t=true then none else l.find? fun r=>decide (r.typ=5))=none:=by rw[←hh];simp
  rw[e];simp(disch:=omega)only[↓tail,Cm3,k1,EVM,EVC,EVR,Ad,simprocAttr]
 |cons c r=>
  rw[hf] at k1 hh hl2;rw[List.head?_cons] at hh;rw[←hh];have hp:(0:Int)<((c::r).length:Int):=by simp only[Cj];omega
  rcases Bm (Ew2 t) with hd|hd
  ·rw[hd] at k3;simp only[hd,if_true];simp(disch:=omega)only[↓tail,Cm3,k1,k3,hp,EVM,EVC,EVR,Ad,simprocAttr]
  ·rw[hd] at k3;simp only[hd,B5,if_false];have hls:Jv 16 (B6 (c::r)) (.i .i64 0) (.i .i64 1)=some (B6 [c]):=by rw[Jf _ _ _ _ _ (by omega) (by omega) (by omega)];rfl
   have hix:I7 16 (B6 (c::r)) (.i .i64 0)=some c.pv:=by rw[L9 _ _ _ (by omega)];rfl
   generalize (c::r)=ll at*;simp(disch:=omega)only[Cm3,k1,k3,hp,hls,hix,EVM,EVC,EVR,Ad,simprocAttr]
def Aw5 (t:Int) (g r:List Rec):Out:=
 match Fs0 r t with
 |some c=> .ret [(Res.mk 2 [] false c.data.host [c]).pv]
 |none=> .yld 0 (B6 (g++typedR r t)::[.i .i64 0,.s [],.b false,.s [],B6 []])
def Aq8 (c:Rec) (r:List Rec) (t:Int):typedR (c::r) t=if c.typ=t∨t=255 then c::typedR r t else typedR r t:=by
 unfold typedR;by_cases h:t=255
 ·simp[h]
 ·by_cases h2:c.typ=t
  ·simp[h,h2]
  ·simp[h,h2]
def zl (c:Rec) (r:List Rec) (t:Int):Fs0 (c::r) t=if Ew2 t=false∧c.typ=5 then some c else Fs0 r t:=by
 unfold Fs0;rcases Bm (Ew2 t) with h|h
 ·simp[h]
 ·by_cases h2:c.typ=5
  ·simp[h,h2]
  ·simp[h,h2]
def sj (l:List Rec) (t:Int) (hl:l.length≤1000000):S Cw7 2 [B6 l,.i .i64 t]=some [(saysM l t).pv]:=by
 refine Jf4 (N:=l.length+1) rfl ?_;have key:Gw2.ev S (l.length+1) [B6 l,.i .i64 t]=some (Aw5 t [] l):=by
  refine D7 l (fun i (b:List Rec)=>[B6 b,.i .i64 (i:Int),.i .i64 0,.s [],.b false,.s [],B6 []]) (fun i b r=>Aw5 t b r) (fun i b=>b.length≤i) [] rfl (Dy _) (by omega) (fun i b c r hd hi hc hI=> ?_) (fun b hI=> ?_)
  ·have pick:Ew2 t=false∧c.typ=5∨¬(Ew2 t=false∧c.typ=5):=Classical.em _;rcases pick with h|h
   ·right;have hs:Aw5 t b (c::r)= .ret [(Res.mk 2 [] false c.data.host [c]).pv]:=by unfold Aw5;rw[zl,if_pos h]
    rw[hs];refine⟨?_,rfl⟩;obtain⟨h1,h2⟩:=h;simp only[Ew2,Hq,decide_eq_false_iff_not] at h1;obtain⟨⟨⟨d1,d2⟩,d3⟩,d4⟩:=h1;simp(disch:=omega)only[X4,hc,h2,d1,d2,d3,d4,EVM,EVC,EVR,Ad,simprocAttr]
   ·left;have step:Ed1.ev S (l.length+1) ([B6 l,.i .i64 t]++[B6 b,.i .i64 (i:Int),.i .i64 0,.s [],.b false,.s [],B6 []])=some (.yld 1 [B6 (if c.typ=t∨t=255 then b++[c] else b),.i .i64 ((i:Int)+1),.i .i64 0,.s [],.b false,.s [],B6 []]):=by
     have h':¬((((c.typ=5∧¬t=5)∧¬t=47)∧¬t=46)∧¬t=255):=by rintro⟨⟨⟨⟨a1,a2⟩,a3⟩,a4⟩,a5⟩;exact h ⟨by simp[Ew2,a2,a3,a4,a5],a1⟩
     by_cases h3:t=255
     ·rw[if_pos (.inr h3)];by_cases h4:c.typ=5<;>by_cases h6:c.typ=255<;>simp(disch:=omega)only[X4,hc,h3,h4,h6,EVM,EVC,EVR,Ad,simprocAttr]<;>(try simp)<;>(try omega)
     ·by_cases h2:c.typ=t
      ·rw[if_pos (.inl h2)];by_cases h4:t=5
       ·simp(disch:=omega)only[X4,hc,h2,h4,EVM,EVC,EVR,Ad,simprocAttr]
       ·by_cases h5:c.typ=5
        ·rw[h5] at h2;exact absurd h2.symm h4
        ·simp(disch:=omega)only[X4,hc,h2,h4,EVM,EVC,EVR,Ad,simprocAttr]
      ·rw[if_neg (by simp[h2,h3])];by_cases h4:c.typ=5
       ·have h5:t=47∨t=46:=by
         by_cases a3:t=47
         ·exact .inl a3
         ·by_cases a4:t=46
          ·exact .inr a4
          ·exact absurd ⟨⟨⟨⟨h4,fun e=>h2 (by omega)⟩,a3⟩,a4⟩,h3⟩ h'
        have h6:¬t=5:=by omega
        rcases h5 with h5|h5
        ·simp(disch:=omega)only[X4,hc,h2,h3,h4,h5,h6,EVM,EVC,EVR,Ad,simprocAttr]
        ·simp(disch:=omega)only[X4,hc,h2,h3,h4,h5,h6,EVM,EVC,EVR,Ad,simprocAttr]
       ·simp(disch:=omega)only[X4,hc,h2,h3,h4,EVM,EVC,EVR,Ad,simprocAttr]
    refine⟨if c.typ=t∨t=255 then b++[c] else b,step,by split<;>(try rw[B0,List.length_singleton])<;>omega,?_⟩;unfold Aw5;rw[zl,if_neg h,Aq8];by_cases hq:c.typ=t∨t=255
    ·rw[if_pos hq,if_pos hq,Cv];rfl
    ·rw[if_neg hq,if_neg hq]
  ·simp(disch:=omega)only[X4,EVM,EVC,EVR,Ad,simprocAttr];have ha:Fs0 [] t=none:=by unfold Fs0;split<;>rfl
   have hb:typedR [] t=[]:=by unfold typedR;split<;>rfl
   unfold Aw5;rw[ha,hb,Eg];exact⟨rfl,rfl⟩
 unfold Aw5 at key;unfold saysM;have hl3:=Ug l t;cases ha:Fs0 l t with
 |some c=>
  rw[ha] at key;simp only at key;simp(disch:=omega)only[X4,key,EVM,EVC,EVR,Ad,simprocAttr]
 |none=>
  rw[ha] at key;simp only[Dw] at key;by_cases h:typedR l t=[]
  ·rw[h] at key;simp only[h,if_true];simp(disch:=omega)only[X4,key,EVM,EVC,EVR,Ad,simprocAttr]
   try rfl
  ·simp only[h,if_false];have hp:(0:Int)<((typedR l t).length:Int):=by have:=Ch.2 h;omega
   generalize typedR l t=tl at*;simp(disch:=omega)only[X4,key,hp,EVM,EVC,EVR,Ad,simprocAttr]
end Go.X.G
/- nsec: the chain of a zone. -/
namespace Go.X.G
open Go Go.X
def anB (x y:Int):Int:=IntKind.u64.wrap ((BitVec.ofInt IntKind.u64.bits x &&& ~~~ BitVec.ofInt IntKind.u64.bits y).toNat:Int)
def adB (x y:Int):Int:=IntKind.u64.wrap ((BitVec.ofInt IntKind.u64.bits x &&& BitVec.ofInt IntKind.u64.bits y).toNat:Int)
def orB (x y:Int):Int:=IntKind.u64.wrap ((BitVec.ofInt IntKind.u64.bits x|||BitVec.ofInt IntKind.u64.bits y).toNat:Int)
def Gd6 (x y:Int):X.bin .andNot (.i .u64 x) (.i .u64 y)=some (.i .u64 (anB x y)):=by rw[D8];rfl
def Gd7 (x y:Int):X.bin .and (.i .u64 x) (.i .u64 y)=some (.i .u64 (adB x y)):=by rw[Py];rfl
def Dd4 (x y:Int):X.bin .or (.i .u64 x) (.i .u64 y)=some (.i .u64 (orB x y)):=by rw[Gd3];rfl
def ez (l:List Int) (hk:∀t∈l,knw t=true) (hl:l.length≤1000000):S uj 1 [Ic l]=some [.i .u64 (l.foldl bitO 0)]:=by refine Jm1 (N:=1) rfl ?_;have h:=Eg6 l hk hl;generalize l.foldl bitO 0=v at*;simp(disch:=omega)only[Jy4,h,Ac,simprocAttr]
def o4:Int:=211106232532992
def Aj8:Int:=8796093022212
def Ix1:S uj 1 [.l 1 [.i .i64 47,.i .i64 46]]=some [.i .u64 o4]:=by
 have:=ez [47,46] (by decide) (by decide);have e:[47,46].foldl bitO 0=o4:=by kernel_rfl
 rw[e] at this;exact this
def Ix0:S uj 1 [.l 1 [.i .i64 2,.i .i64 43]]=some [.i .u64 Aj8]:=by
 have:=ez [2,43] (by decide) (by decide);have e:[2,43].foldl bitO 0=Aj8:=by kernel_rfl
 rw[e] at this;exact this
def tyO (z:Zone) (n:List UInt8):Int:=anB ((typesR z.recs n).foldl bitO 0) o4
def chBits (z:Zone) (n:List UInt8):Int:=orB (if n∈cutsN z then adB (tyO z n) Aj8 else tyO z n) o4
def Lg (z:Zone) (ttl:Int) (n:List UInt8):Option Rec:=
 if tyO z n=0 then none else some ⟨n,47,ttl,⟨false,0,0,z.origin,[],[],0,0,0,0,0,0,chBits z n⟩⟩
def chain0 (z:Zone) (ttl:Int):List Rec:=(namesN z).filterMap (Lg z ttl)
def minE (z:Zone):Int:=match findR z.recs z.origin 6 with|[]=>0|r::_=>r.data.e
def Gm6 (h:List UInt8) (r:Rec):Rec:={r with data:={r.data with host:=h}}
def lnk (g:List Rec) (i:Nat):List Rec:=
 if 0<i then match g[i - 1]?,g[i]? with
  |some a,some b=>g.set (i - 1) (Gm6 b.name a)
  |_,_=>g
 else g
def xv:Nat→Nat→List Rec→List Rec
 |0,_,g=>g
 |k+1,i,g=>xv k (i+1) (lnk g i)
def chainN (z:Zone):List Rec:=xv (chain0 z (minE z)).length 0 (chain0 z (minE z))
def Zb (g:List Rec) (i:Nat):(lnk g i).length=g.length:=by
 unfold lnk;split
 ·split
  ·rw[Iw]
  ·rfl
 ·rfl
def Hl5 (l:List Rec) (j:Nat) (h:List UInt8) (x:Rec) (hx:l[j]? =some x):Lr 16 6 [.s h] (B6 l) (.i .i64 (j:Int))=some (B6 (l.set j (Gm6 h x))):=by
 have h1:=(Bp.1 hx).1;have h3:(l.map Rec.pv)[j]? =some x.pv:=by rw[C3,hx];rfl
 have h0:(0:Int)≤(j:Int):=by omega
 simp only[Lr,B6,h0,Ec,h3,and_self,if_true,B3];have h4:Oh x.pv 6 [.s h]=some (Gm6 h x).pv:=rfl;rw[h4];simp[List.map_set]
def Ft0 (z:Zone) (ttl:Int) (s:List Rec) (hz:z.wf) (hl:z.recs.length≤1000000) (cl:(cutsN z).length≤1000000) (hn:(namesN z).length≤1000000) (hs:∃r,s=[r]∧r.data.e=ttl) (p1:PV) (N:Nat) (hN:(namesN z).length<N):
  Gz5.ev S N [z.pv,p1,.i .u64 o4,.i .u64 Aj8,B6 s,Cn (cutsN z),Cn (namesN z)]=some (.yld 0 [B6 (chain0 z ttl)]):=by
 obtain⟨r0,rfl,hr0⟩:=hs;have hor:(chain0 z ttl)=[]++(namesN z).filterMap (Lg z ttl):=rfl;rw[hor];have ki:=fun n=>sq (cutsN z) n cl;have kt:=fun n=>Eg3 z.recs n hl;refine D7 (N:=N) (namesN z) (fun i (g:List Rec)=>[B6 g,.i .i64 (i:Int)]) (fun i g r=> .yld 0 [B6 (g++r.filterMap (Lg z ttl))]) (fun i g=>g.length≤i) [] rfl (Dy _) hN (fun i g c r hd hi hc hI=> ?_) (fun g hI=> ?_)
 ·left;have e1:=Gd6 ((typesR z.recs c).foldl bitO 0) o4;have e2:anB ((typesR z.recs c).foldl bitO 0) o4=tyO z c:=rfl;rw[e2] at e1;have kt:=kt c;have ki:=ki c;have eb:chBits z c=orB (if c∈cutsN z then adB (tyO z c) Aj8 else tyO z c) o4:=rfl;have hil:(i:Int)<((namesN z).length:Int):=by omega
  generalize (typesR z.recs c).foldl bitO 0=ty at*;by_cases h0:tyO z c=0
  ·have hci:Lg z ttl c=none:=by unfold Lg;rw[if_pos h0]
   refine⟨g,?_,by omega,by rw[Gf0,hci]⟩;rw[h0] at e1;generalize namesN z=nn at*;generalize cutsN z=cc at*;simp(disch:=omega)only[js,hc,hil,kt,ki,e1,Ac,simprocAttr]
  ·have hci:Lg z ttl c=some ⟨c,47,ttl,⟨false,0,0,z.origin,[],[],0,0,0,0,0,0,chBits z c⟩⟩:=by unfold Lg;rw[if_neg h0]
   have ho:=Dd4 (if c∈cutsN z then adB (tyO z c) Aj8 else tyO z c) o4;rw[←eb] at ho;refine⟨g++[⟨c,47,ttl,⟨false,0,0,z.origin,[],[],0,0,0,0,0,0,chBits z c⟩⟩],?_,by simp;omega,by rw[Gf0,hci,Cv];rfl⟩;have ea:=Gd7 (tyO z c) Aj8;generalize chBits z c=bits at*;generalize tyO z c=t at*;generalize adB t Aj8=u at*;generalize namesN z=nn at*;by_cases h1:c∈cutsN z
   ·rw[if_pos h1] at ho;generalize cutsN z=cc at*;simp(disch:=omega)only[js,hc,hil,kt,ki,e1,ea,ho,h0,h1,hr0,Ac,simprocAttr]
   ·rw[if_neg h1] at ho;generalize cutsN z=cc at*;simp(disch:=omega)only[js,hc,hil,kt,ki,e1,ea,ho,h0,h1,hr0,Ac,simprocAttr]
 ·generalize namesN z=nn at*;simp(disch:=omega)only[js,Gn,Ac,simprocAttr];simp[Out.goes]
def Fs9 (c0:List Rec) (hl:c0.length≤1000000) (N:Nat) (hN:c0.length<N) (p0 p1 p2 p3 p4 p5 p6:PV):
  Gv1.ev S N [p0,p1,p2,p3,p4,p5,p6,B6 c0]=some (.yld 0 [B6 (xv c0.length 0 c0)]):=by
 refine D7 (N:=N) c0 (fun i (g:List Rec)=>[B6 g,.i .i64 (i:Int)]) (fun i g r=> .yld 0 [B6 (xv r.length i g)]) (fun i g=>g.length=c0.length) c0 rfl rfl hN (fun i g c r hd hi hc hI=> ?_) (fun g hI=> ?_)
 ·left;refine⟨lnk g i,?_,by rw[Zb];exact hI,rfl⟩;have hil:(i:Int)<(c0.length:Int):=by omega
  unfold lnk;by_cases h0:0<i
  ·have a1:g[i - 1]? =some (g[i - 1]'(by omega)):=Bs (by omega);have a2:g[i]? =some (g[i]'(by omega)):=Bs (by omega);generalize g[i - 1]'(by omega)=a at*;generalize g[i]'(by omega)=b at*;rw[if_pos h0,a1,a2];simp only;have e1:(i:Int) - 1=((i - 1:Nat):Int):=by omega
   have e2:IntKind.i64.wrap ((i:Int) - 1)=((i - 1:Nat):Int):=by rw[w64 (by omega) (by omega)];exact e1
   have e3:=Hl5 g (i - 1) b.name a a1;have h0':(0:Int)<(i:Int):=by omega
   simp(disch:=omega)only[js,hil,h0',e1,e2,e3,a1,a2,Ac,simprocAttr]
  ·have h0':¬(0:Int)<(i:Int):=by omega
   rw[if_neg h0];simp(disch:=omega)only[js,hil,h0',Ac,simprocAttr]
 ·simp(disch:=omega)only[js,Gn,Ac,simprocAttr];simp[Out.goes,xv]
def Qx (z:Zone) (ttl:Int):(chain0 z ttl).length≤(namesN z).length:=List.length_filterMap_le _ _
def Fp3 (z:Zone) (hl:z.recs.length≤1000):(cutsN z).length≤1000000:=by have:=S1 ((z.recs.filter (Ep z)).map Rec.name);have h2:=Dh (Ep z) z.recs;rw[D2] at this;unfold cutsN;omega
def El0 (z:Zone) (hz:z.wf) (hl:z.recs.length≤1000):S Dl7 1 [z.pv]=some (if I9 z=0 then [B6 (chainN z),.i .i64 0] else [B6 [],.i .i64 13]):=by
 have hn:=Jx z hl;have hc:=Fp3 z hl;have hcl:=Qx z (minE z);refine Jp7 (N:=(namesN z).length+1) rfl ?_;have k1:=Eh9 z hz (by omega);by_cases h:I9 z=0
 ·rw[if_pos h];rw[h] at k1;have ho:=T3 h;obtain⟨s,es⟩:=jv.1 ho.soa;have k2:=Xj z z.origin 6 (by omega);have k3:=Ar6 z hz (by omega);have k4:=X1 z hz (by omega);have em:minE z=s.data.e:=by unfold minE;rw[es]
  have l0:=Ft0 z (minE z) [s] hz (by omega) hc hn ⟨s,rfl,em.symm⟩ (.i .i64 0) ((namesN z).length+1) (by omega);have l1:=Fs9 (chain0 z (minE z)) (by omega) ((namesN z).length+1) (by omega);rw[es] at k2;have ec:xv (chain0 z (minE z)).length 0 (chain0 z (minE z))=chainN z:=rfl;rw[ec] at l1;generalize chainN z=cn at*;generalize chain0 z (minE z)=c0 at*;generalize cutsN z=cc at*;generalize namesN z=nn at*;have o1:=Ix1;have o2:=Ix0;have q1:K4 1 [.i .i64 47,.i .i64 46]=some (.l 1 [.i .i64 47,.i .i64 46]):=rfl;have q2:K4 1 [.i .i64 2,.i .i64 43]=some (.l 1 [.i .i64 2,.i .i64 43]):=rfl;simp(disch:=omega)only[js,k1,k2,k3,k4,l0,l1,o1,o2,q1,q2,Et,Ff,Ac,simprocAttr]
 ·rw[if_neg h];simp(disch:=omega)only[js,k1,h,Et,Ff,Ac,simprocAttr]
end Go.X.G
/- nsec: the sample, and the laws NsecCovers, NsecAbsent, NsecEmpty. -/
namespace Go.X.G
open Go Go.X
end Go.X.G
/- What a checked zone says of its names. -/
namespace Go.X.G
open Go Go.X
def Pp {n:List UInt8} (h:vld n=true):under n n=true:=C4.2 ⟨h,h,List.suffix_refl _⟩
def df {a b:List UInt8} (h1:under a b=true) (h2:under b a=true):a=b:=by refine K9 h1 ?_;exact(C4.1 h2).2.2.length_le
def xm {z:Zone} {r:Rec}:Ep z r=true↔r.typ=2∧r.name≠z.origin∧under r.name z.origin=true:=by unfold Ep Ft;simp only[Br,decide_eq_true_eq,ne_eq]
def Mn {l:List Rec} {n:List UInt8} {t:Int} {r:Rec}:r∈findR l n t↔r∈l∧r.name=n∧r.typ=t:=by unfold findR;rw[C5];simp only[isK,Br,decide_eq_true_eq]
def ZOk.soaR {z:Zone} (h:ZOk z):∃r∈z.recs,r.name=z.origin∧r.typ=6:=by
 have:=h.soa;cases e:findR z.recs z.origin 6 with
 |nil=>rw[e] at this;cases this
 |cons r l=>
  have:r∈findR z.recs z.origin 6:=by rw[e];exact .head _
  exact⟨r,(Mn.1 this).1,(Mn.1 this).2⟩
def Cz1 (z:Zone):N6 z z.origin=false:=by
 cases h:N6 z z.origin with
 |false=>rfl
 |true=>
  unfold N6 at h;simp only[Dd,Br,decide_eq_true_eq] at h;obtain⟨r,_,⟨h1,_⟩,h3⟩:=h;obtain⟨_,h4,h5⟩:=xm.1 h1;exact absurd (df h5 h3) h4
def ZOk.exO {z:Zone} (h:ZOk z):exB z z.origin=true:=by obtain⟨r,hr,e,_⟩:=h.soaR;have u:=Pp h.origin;exact(Tm z _).2 ⟨r,hr,by rw[e];exact u,by rw[e];exact Cz1 z,by rw[e];exact u,u⟩
def Fm9 {z:Zone} {n:List UInt8} (h:exB z n=true):under n z.origin=true:=by obtain⟨_,_,_,_,_,h⟩:=(Tm z n).1 h;exact h
def Kf7 {z:Zone} (h:ZOk z) {n:List UInt8} (hu:under n z.origin=true):encN z n≠[]∧under n (encN z n)=true∧exB z (encN z n)=true:=by
 unfold encN;rw[if_pos hu];cases e:Ch1 z n with
 |none=>
  unfold Ch1 at e;rw[List.find?_eq_none] at e;exact absurd h.exO (e _ ((Lz hu).2 ⟨hu,Pp h.origin⟩))
 |some x=>
  obtain⟨h1,h2⟩:=O9 hu e;exact⟨As5 (C4.1 h1).2.1,h1,h2⟩
def Hk9 {z:Zone} {n x:List UInt8} (hu:under n x=true) (hx:exB z x=true):(lbl x).length≤(lbl (encN z n)).length:=by
 have hne:=As5 (C4.1 hu).2.1;have h0:=zf z n;obtain⟨h1,h2⟩:=Xn n (namesN z) [] (.inl rfl);rw[h0] at h1 h2;have hm:x∈namesN z:=by have:=Vy z x;rw[hx] at this;simpa using this
 by_cases hb:encN z n=[]
 ·have:=(h1 hb).2 x hm;rw[hu] at this;cases this
 ·exact(h2 hb).2.2.2 x hm hu
def Av4 {a b c:List (List UInt8)} (h1:a<:+c) (h2:b<:+c) (h:a.length≤b.length):a<:+b:=by exact List.suffix_of_suffix_length_le h1 h2 h
def zq {z:Zone} {n:List UInt8} (ho:ZOk z) (h:cutN z n≠[]):
  under n (cutN z n)=true∧cutN z n≠z.origin∧(findR z.recs (cutN z n) 2).length≠0∧encN z n=cutN z n∧under n z.origin=true∧exB z (cutN z n)=true:=by
 obtain⟨_,h2⟩:=Rr z n z.recs [] (.inl rfl);obtain⟨g1,g2,_,g4⟩:=h2 h;change under n (cutN z n)=true at g1;change cutN z n=[]∨∃r∈z.recs,Ep z r=true∧r.name=cutN z n at g2;change∀r∈z.recs,Ep z r=true→under n r.name=true→(lbl (cutN z n)).length≤(lbl r.name).length at g4;obtain⟨r,hr,hc,hn⟩:=g2.resolve_left h;generalize cutN z n=c at*;obtain⟨c1,c2,c3⟩:=xm.1 hc;rw[hn] at c2 c3;have hu:=Pn g1 c3;have hh:N6 z c=false:=by
  cases e:N6 z c with
  |false=>rfl
  |true=>
   unfold N6 at e;simp only[Dd,Br,decide_eq_true_eq] at e;obtain⟨x,hx,⟨x1,x2⟩,x3⟩:=e;have:=g4 x hx x1 (Pn g1 x3);exact absurd (K9 x3 this).symm x2
 have hv:=(C4.1 c3).1;have hex:exB z c=true:=(Tm z c).2 ⟨r,hr,by rw[hn];exact c3,by rw[hn];exact hh,by rw[hn];exact Pp hv,c3⟩;refine⟨g1,c2,?_,?_,hu,hex⟩
 ·have:r∈findR z.recs c 2:=Mn.2 ⟨hr,hn,c1⟩;intro e;rw[List.length_eq_zero_iff.1 e] at this;cases this
 ·obtain⟨_,e1,e2⟩:=(Kf7 ho hu);have hm:=Hk9 g1 hex;generalize encN z n=e at*;obtain⟨_,_,s1⟩:=C4.1 g1;obtain⟨_,ve,s2⟩:=C4.1 e1;have s3:=Av4 s1 s2 hm;have ec:under e c=true:=C4.2 ⟨ve,hv,s3⟩;by_cases hl:(lbl e).length≤(lbl c).length
  ·exact K9 ec hl
  ·exfalso;obtain⟨x,hx,x1,x2,x3,_⟩:=(Tm z e).1 e2;have hxc:=Pn x3 ec;have:N6 z x.name=true:=by unfold N6;simp only[Dd,Br,decide_eq_true_eq];refine⟨r,hr,⟨hc,fun q=> ?_⟩,by rw[hn];exact hxc⟩;have:=(C4.1 x3).2.2.length_le;rw[←q,hn] at this;exact hl this
   rw[x2] at this;cases this
end Go.X.G
/- nsec: what the chain of a checked zone is; the law NsecOrder. -/
namespace Go.X.G
open Go Go.X
def bv (x:Int):BitVec 64:=BitVec.ofInt 64 x
def Hv8 (v:BitVec 64):bv (IntKind.u64.wrap (v.toNat:Int))=v:=by have h:=v.isLt;rw[Gj9 (by omega) (by omega)];unfold bv;rw[BitVec.ofInt_natCast,BitVec.ofNat_toNat,BitVec.setWidth_eq]
def Kd4 (x y:Int):bv (orB x y)=bv x|||bv y:=Hv8 _
def Dm9 (g:List Rec) (i j:Nat) (a:Rec) (hi:i<g.length) (ha:g[j]? =some a):(lnk g i)[j]? =some (if 0<i∧j=i - 1 then Gm6 (g[i]'hi).name a else a):=by
 unfold lnk;by_cases h0:0<i
 ·have a1:g[i - 1]? =some (g[i - 1]'(by omega)):=Bs (by omega);have a2:g[i]? =some (g[i]'hi):=Bs hi;rw[if_pos h0,a1,a2];simp only;by_cases hj:j=i - 1
  ·subst hj;rw[if_pos ⟨h0,rfl⟩,M1 (by omega)];rw[a1] at ha;injection ha with ha;rw[ha]
  ·rw[if_neg (by omega),R7 (by omega),ha]
 ·rw[if_neg h0,if_neg (by omega),ha]
def nxt (g:List Rec) (j:Nat) (a:Rec):Rec:=match g[j+1]? with
 |some b=>Gm6 b.name a
 |none=>a
def Bf0:∀(k i:Nat) (g:List Rec),g.length=i+k→∀(j:Nat) (a:Rec),g[j]? =some a→(xv k i g)[j]? =some (if i≤j+1 then nxt g j a else a)
 |0,i,g,hl,j,a,ha=>by
  show g[j]? =_;rw[ha];by_cases h:i≤j+1
  ·rw[if_pos h];have:g[j+1]? =none:=by rw[Rj];omega
   unfold nxt;rw[this]
  ·rw[if_neg h]
 |k+1,i,g,hl,j,a,ha=>by
  show (xv k (i+1) (lnk g i))[j]? =_;have hi:i<g.length:=by omega
  have hj:=Dm9 g i j a hi ha;rw[Bf0 k (i+1) (lnk g i) (by rw[Zb];omega) j _ hj];by_cases h1:0<i∧j=i - 1
  ·rw[if_neg (by omega),if_pos h1,if_pos (by omega)];unfold nxt;have e:j+1=i:=by omega
   rw[e,Bs hi]
  ·rw[if_neg h1];by_cases h2:i≤j+1
   ·have h3:i+1≤j+1:=by omega
    rw[if_pos h2,if_pos h3];unfold nxt;cases hb:g[j+1]? with
    |none=>
     have:(lnk g i)[j+1]? =none:=by rw[Rj] at hb ⊢;rw[Zb];exact hb
     rw[this]
    |some b=>
     rw[Dm9 g i (j+1) b hi hb,if_neg (by omega)]
   ·rw[if_neg h2,if_neg (by omega)]
def Bd9:∀(k i:Nat) (g:List Rec),(xv k i g).length=g.length
 |0,_,_=>rfl
 |k+1,i,g=>by show (xv k (i+1) (lnk g i)).length=_;rw[Bd9,Zb]
def Vm (z:Zone):(chainN z).length=(chain0 z (minE z)).length:=Bd9 _ _ _
def Cf1 {z:Zone} {j:Nat} {a:Rec} (h:(chain0 z (minE z))[j]? =some a):(chainN z)[j]? =some (nxt (chain0 z (minE z)) j a):=by unfold chainN;rw[Bf0 _ 0 _ (by omega) j a h,if_pos (by omega)]
def Cf2 {z:Zone} {ttl:Int} {a:Rec} (h:a∈chain0 z ttl):∃n∈namesN z,tyO z n≠0∧a=⟨n,47,ttl,⟨false,0,0,z.origin,[],[],0,0,0,0,0,0,chBits z n⟩⟩:=by
 unfold chain0 at h;rw[List.mem_filterMap] at h;obtain⟨n,hn,ha⟩:=h;unfold Lg at ha;split at ha
 ·cases ha
 ·rename_i h0;injection ha with ha;exact⟨n,hn,h0,ha.symm⟩
structure ChainOk (z:Zone) (l:List Rec):Prop where
 pos:0<l.length
 first:∀a,l[0]? =some a→a.name=z.origin
 last:∀a,l[l.length - 1]? =some a→a.data.host=z.origin
 each:∀a∈l,a.typ=47∧bit a.data.bits 47=1∧bit a.data.bits 46=1∧(∃r∈z.recs,r.name=a.name)∧under a.name z.origin=true
 next:∀i a b,l[i]? =some a→l[i+1]? =some b→a.data.host=b.name∧ltN a.name b.name
def Cf0 {z:Zone} {j:Nat} {b:Rec} (h:(chainN z)[j]? =some b):∃a,(chain0 z (minE z))[j]? =some a∧b=nxt (chain0 z (minE z)) j a:=by have hlt:=(Bp.1 h).1;rw[Vm] at hlt;have e:=Bs hlt;refine⟨_,e,?_⟩;rw[Cf1 e] at h;injection h with h;exact h.symm
end Go.X.G
/- Wildcards; what a zone says about a question. -/
namespace Go.X.G
open Go Go.X
def Np (n:List UInt8) (r:Rec):Rec:={r with name:=n}
def Xw (l:List Rec) (n:List UInt8) (i:Nat) (c:Rec) (r g:List Rec) (hd:l.drop i=c::r) (hi:i<l.length) (hc:l[i]? =some c) (hg:g=(l.take i).map (Np n)++l.drop i):
  g[i]? =some c∧g.length=l.length∧g.set i {c with name:=n}=(l.take (i+1)).map (Np n)++l.drop (i+1):=by
 have hA:((l.take i).map (Np n)).length=i:=by rw[D2,Cw];omega
 have hd1:l.drop (i+1)=r:=by rw[←Ew (i:=1) (j:=i),hd];rfl
 have ht:(l.take (i+1)).map (Np n)=(l.take i).map (Np n)++[Np n c]:=by rw[Dm,hc,Jk9];rfl
 rw[ht,hd1];rw[hd] at hg;have hlen:l.length=i+(r.length+1):=by have:=congrArg List.length hd;rw[Dj,Cj] at this;omega
 generalize (l.take i).map (Np n)=A at*;subst hg;refine⟨?_,?_,?_⟩
 ·rw[Cc (by omega),hA];simp
 ·rw[B0,Cj,hA];omega
 ·rw[Pl _ _ (by omega),hA];simp[Np]
def Gg3 (z:Zone) (q:Ques) (l:List Rec) (p2 p3 p4 p5:PV) (N:Nat) (hN:l.length<N) (hl:l.length≤1000000):
  Gx2.ev S N [z.pv,q.pv,p2,p3,p4,p5,B6 l]=some (.yld 0 [B6 (l.map (Np q.name))]):=by
 refine D7 l (fun i (g:List Rec)=>[B6 g,.i .i64 (i:Int)]) (fun i g r=> .yld 0 [B6 (l.map (Np q.name))]) (fun i g=>g=(l.take i).map (Np q.name)++l.drop i) l (by simp(disch:=omega)only[Ab,simprocAttr]) (by simp) hN (fun i g c r hd hi hc hI=> ?_) (fun g hI=> ?_)
 ·left;obtain⟨h1,h2,h3⟩:=Xw l q.name i c r g hd hi hc hI;refine⟨g.set i {c with name:=q.name},?_,h3,rfl⟩;have hs:Lr 16 0 [.s q.name] (B6 g) (.i .i64 (i:Int))=some (B6 (g.set i {c with name:=q.name})):=by have:=Ss g .i64 (i:Int) q.name c (by omega) (by rw[Ec];exact h1);rwa[Ec] at this
  generalize g.set i {c with name:=q.name}=g' at*;simp(disch:=omega)only[Br4,h1,hs,EVM,EVC,EVR,Ad,simprocAttr]
 ·have e:g=l.map (Np q.name):=by rw[hI];simp
  rw[←e];simp(disch:=omega)only[Br4,EVM,EVC,EVR,Ad,simprocAttr]
  try simp[Out.goes]
def Bs2 (z:Zone) (q:Ques):Option Res:=
 if starOk (encN z q.name)=true∧allR z (starN (encN z q.name))≠[] then
  some {saysM ((allR z (starN (encN z q.name))).map (Np q.name)) q.typ with owner:=starN (encN z q.name),wild:=true}
 else none
def Xs (z:Zone) (n:List UInt8):(allR z n).length≤z.recs.length:=Dh _ _
def Qk (z:Zone) (n:List UInt8):(encN z n).length≤254:=by
 unfold encN;rcases Bm (under n z.origin) with hu|hu
 ·rw[if_pos hu];cases h:Ch1 z n with
  |none=>simp
  |some e=>exact Hl (C4.1 (O9 hu h).1).2.1
 ·rw[if_neg (by simp[hu])];simp
def Bs6:starOk []=false:=by decide
def Gg2 (z:Zone) (q:Ques) (hz:z.wf) (hl:z.recs.length≤1000) (hq:q.name.length≤9223372036854775807):S Dh0 2 [z.pv,q.pv]=some (Nr (Bs2 z q)):=by
 refine Jl0 (N:=2000) rfl ?_;have k1:=Ow z q.name hz hl hq;have el:=Qk z q.name;have k2:=oh (encN z q.name) (by omega);have k3:=Bd0 z (starN (encN z q.name)) (by omega);have al:=Xs z (starN (encN z q.name));unfold Bs2;by_cases h1:encN z q.name=[]
 ·rw[h1] at k1 ⊢;rw[Bs6,if_neg (by simp)];simp(disch:=omega)only[Br4,k1,Nr,EVM,EVC,EVR,Ad,simprocAttr]
  try simp
 ·have h2:decide (encN z q.name≠[])=true:=by simp[h1]
  rw[h2] at k1;rcases Bm (starOk (encN z q.name)) with h3|h3
  ·rw[h3] at k2;by_cases h4:allR z (starN (encN z q.name))=[]
   ·rw[if_neg (by simp[h4])];rw[h4] at k3;simp(disch:=omega)only[Br4,k1,k2,k3,Nr,EVM,EVC,EVR,Ad,simprocAttr]
    try simp
   ·rw[if_pos ⟨h3,h4⟩];have h5:¬((allR z (starN (encN z q.name))).length:Int)=0:=by have:=Ch.2 h4;omega
    have k4:=fun p2 p3 p4 p5=>Gg3 z q (allR z (starN (encN z q.name))) p2 p3 p4 p5 2000 (by omega) (by omega);have k5:=Ct9 ((allR z (starN (encN z q.name))).map (Np q.name)) q.typ (by rw[D2];omega);generalize (allR z (starN (encN z q.name))).map (Np q.name)=ml at*;generalize allR z (starN (encN z q.name))=al at*;simp(disch:=omega)only[Br4,k1,k2,k3,k4,k5,h5,Nr,EVM,EVC,EVR,Ad,simprocAttr]
  ·rw[h3] at k2;rw[if_neg (by simp[h3])];generalize allR z (starN (encN z q.name))=al at*;simp(disch:=omega)only[Br4,k1,k2,k3,Nr,EVM,EVC,EVR,Ad,simprocAttr]
   try simp
def Cz2 (z:Zone) (q:Ques):Res:=
 match Gk7 z q.name with
 |some x=>x
 |none=>if exB z q.name=true then {saysM (allR z q.name) q.typ with owner:=q.name} else(Bs2 z q).getD ⟨6,q.name,false,[],[]⟩
def findM (z:Zone) (q:Ques):Res:=
 if under q.name z.origin=true then
  if cutN z q.name≠[]∧(cutN z q.name≠q.name∨q.typ≠43) then ⟨4,cutN z q.name,false,[],findR z.recs (cutN z q.name) 2⟩ else Cz2 z q
 else Jw6
def Hj3 (z:Zone) (q:Ques) (hz:z.wf) (hl:z.recs.length≤1000) (hq:q.name.length≤9223372036854775807):S Dl6 2 [z.pv,q.pv]=some [(findM z q).pv]:=by
 refine Jp6 (N:=1) rfl ?_;have g1:=hz.origin;unfold My at g1;have k0:=Gv q.name z.origin hq g1;have k1:=Gf2 z q.name hz (by omega) hq;have k2:=Xj z (cutN z q.name) 2 (by omega);have k4:=dw z q.name hz hl;have k5:=Bd0 z q.name (by omega);have al:=Xs z q.name;have k6:=Ct9 (allR z q.name) q.typ (by omega);have k7:=Gg2 z q hz hl hq;unfold findM;rcases Bm (under q.name z.origin) with hu|hu
 ·rw[if_pos hu];rw[hu] at k0;have k3:=pw z q.name hz (by omega) hu;have tail:∀p3 p4,T.ev S 1 Al6 [z.pv,q.pv,.b true,p3,p4]=some (.ret [(Cz2 z q).pv]):=by
   intro p3 p4;unfold Cz2;cases hr:Gk7 z q.name with
   |some x=>
    rw[hr] at k3;simp only[Nr] at k3;simp(disch:=omega)only[jr,k3,EVM,EVC,EVR,Ad,simprocAttr]
   |none=>
    rw[hr] at k3;simp only[Nr] at k3;rcases Bm (exB z q.name) with he|he
    ·rw[he] at k4;simp only[he,if_true];generalize saysM (allR z q.name) q.typ=sm at*;generalize allR z q.name=ar at*;simp(disch:=omega)only[jr,k3,k4,k5,k6,EVM,EVC,EVR,Ad,simprocAttr]
    ·rw[he] at k4;simp only[he,B5,if_false];cases hw:Bs2 z q with
     |some x=>
      rw[hw] at k7;simp only[Nr] at k7;simp(disch:=omega)only[jr,k3,k4,k7,EVM,EVC,EVR,Ad,simprocAttr]
      try rfl
     |none=>
      rw[hw] at k7;simp only[Nr] at k7;simp(disch:=omega)only[jr,k3,k4,k7,EVM,EVC,EVR,Ad,simprocAttr]
      try rfl
  by_cases h1:cutN z q.name=[]
  ·rw[h1] at k1;rw[if_neg (by simp[h1])];simp(disch:=omega)only[↓tail,jr,k0,k1,ne_eq,not_true,decide_false,EVM,EVC,EVR,Ad,simprocAttr]
  ·have h2:decide (cutN z q.name≠[])=true:=by simp[h1]
   rw[h2] at k1;by_cases h3:cutN z q.name=q.name
   ·by_cases h4:q.typ=43
    ·rw[if_neg (by simp[h3,h4])];rw[h3] at k1;simp(disch:=omega)only[↓tail,jr,k0,k1,h4,EVM,EVC,EVR,Ad,simprocAttr]
    ·rw[if_pos ⟨h1,.inr h4⟩];rw[h3] at k1 k2 ⊢;generalize findR z.recs q.name 2=fr at*;simp(disch:=omega)only[jr,k0,k1,k2,h4,EVM,EVC,EVR,Ad,simprocAttr]
   ·rw[if_pos ⟨h1,.inl h3⟩];generalize findR z.recs (cutN z q.name) 2=fr at*;simp(disch:=omega)only[jr,k0,k1,k2,h3,EVM,EVC,EVR,Ad,simprocAttr]
 ·rw[if_neg (by simp[hu])];rw[hu] at k0;simp(disch:=omega)only[jr,k0,EVM,EVC,EVR,Ad,simprocAttr]
def Fz7 (z:Zone) (q:Ques) (l:List Rec) (p2 p3 p4 p5 p6 p7 p8 p9 p10 p11:PV) (N:Nat) (hN:l.length<N) (hl:l.length≤1000000):
  Gy3.ev S N [z.pv,q.pv,p2,p3,p4,p5,p6,p7,p8,p9,p10,p11,B6 l]=some (.yld 0 [B6 (l.map (Np q.name))]):=by
 refine D7 l (fun i (g:List Rec)=>[B6 g,.i .i64 (i:Int)]) (fun i g r=> .yld 0 [B6 (l.map (Np q.name))]) (fun i g=>g=(l.take i).map (Np q.name)++l.drop i) l (by simp(disch:=omega)only[Ab,simprocAttr]) (by simp) hN (fun i g c r hd hi hc hI=> ?_) (fun g hI=> ?_)
 ·left;obtain⟨h1,h2,h3⟩:=Xw l q.name i c r g hd hi hc hI;refine⟨g.set i {c with name:=q.name},?_,h3,rfl⟩;have hs:Lr 16 0 [.s q.name] (B6 g) (.i .i64 (i:Int))=some (B6 (g.set i {c with name:=q.name})):=by have:=Ss g .i64 (i:Int) q.name c (by omega) (by rw[Ec];exact h1);rwa[Ec] at this
  generalize g.set i {c with name:=q.name}=g' at*;simp(disch:=omega)only[Sk,h1,hs,EVM,EVC,EVR,Ad,simprocAttr]
 ·have e:g=l.map (Np q.name):=by rw[hI];simp
  have hgl:g.length=l.length:=by rw[e,D2]
  rw[←e];simp(disch:=omega)only[Sk,EVM,EVC,EVR,Ad,simprocAttr]
  try simp[Out.goes]
def Dj9 {z:Zone} {n u:List UInt8} (h:El5 z n=some u):∃r rest,findR z.recs u 39=r::rest:=by
 unfold El5 at h;have:=List.find?_some h;unfold dnB at this;cases hf:findR z.recs u 39 with
 |nil=>rw[hf] at this;simp at this
 |cons r rest=>exact⟨r,rest,rfl⟩
def Fb2 {z:Zone} {n u:List UInt8} (hu:under n z.origin=true) (h:El5 z n=some u):u.length≤254:=by unfold El5 at h;have h1:=Hj (List.mem_of_find?_eq_some h);exact Hl (C4.1 ((Lz hu).1 h1).2).1
def Fb0 (z:Zone) (q:Ques) (hz:z.wf) (hl:z.recs.length≤1000) (hq:q.name.length≤9223372036854775807) (hdn:∀u,(findR z.recs u 39).length≤1):S Dh7 2 [z.pv,q.pv]=some [(findM z q).pv]:=by
 refine Jm8 (N:=2000) rfl ?_;have g1:=hz.origin;unfold My at g1;have k0:=Gw q.name z.origin hq g1;have k1:=Ax2 z q.name hz (by omega) hq;have k2:=U1 z (cutN z q.name) 2 (by omega);have k4:=d6 z q.name hz hl;have k5:=Br0 z q.name (by omega);have al:=Xs z q.name;have k6:=sj (allR z q.name) q.typ (by omega);unfold findM;rcases Bm (under q.name z.origin) with hu|hu
 ·rw[if_pos hu];rw[hu] at k0;have k3:=Gn3 z q.name (by omega) hu;have tail:∀p3 p4,T.ev S 2000 Ah2 [z.pv,q.pv,.b true,p3,p4]=some (.ret [(Cz2 z q).pv]):=by
   intro p3 p4;unfold Cz2 Gk7;cases hr:El5 z q.name with
   |some u=>
    rw[hr] at k3;simp only at k3;obtain⟨r,rest,hf⟩:=Dj9 hr;have hu1:=hdn u;rw[hf,Cj] at hu1;have hrest:rest=[]:=List.length_eq_zero_iff.1 (by omega);subst hrest;have hrw:=Bg9 hz (n:=u) (t:=39) (r:=r) (by rw[hf];exact .head _);have hh:=hrw.data.host;unfold My at hh;have ul:=Fb2 hu hr;have k8:=U1 z u 39 (by omega);have k9:=Ax1 q.name u r.data.host hq (by omega) hh;rw[hf] at k8;simp only[Cd,s5,hf];have hix:I7 16 (B6 [r]) (.i .i64 0)=some r.pv:=by rw[L9 _ _ _ (by omega)];rfl
    unfold j8;generalize replN q.name u r.data.host=rp at*;obtain⟨to,er⟩:=rp;generalize [r]=ll at*;cases to with
    |nil=>
     simp(disch:=omega)only[Sk,k3,k8,k9,hix,EVM,EVC,EVR,Ad,simprocAttr]
     try simp
    |cons c tr=>
     have hp:(0:Int)<((c::tr).length:Int):=by simp only[Cj];omega
     by_cases hc:c=42
     ·subst hc;simp(disch:=first|omega|(simp only[Cj];omega))only[Sk,k3,k8,k9,hix,EVM,EVC,EVR,Ad,simprocAttr]
      try simp
     ·have hc2:¬(c.toNat:Int)=42:=fun h=>hc ((c42 c).1 h);simp(disch:=first|omega|(simp only[Cj];omega))only[Sk,k3,k8,k9,hix,hc2,EVM,EVC,EVR,Ad,simprocAttr]
      try simp[hc]
   |none=>
    rw[hr] at k3;simp only at k3;simp only[Option.map_none];rcases Bm (exB z q.name) with he|he
    ·rw[he] at k4;simp only[he,if_true];generalize saysM (allR z q.name) q.typ=sm at*;generalize allR z q.name=ar at*;simp(disch:=omega)only[Sk,k3,k4,k5,k6,EVM,EVC,EVR,Ad,simprocAttr]
    ·rw[he] at k4;simp only[he,B5,if_false];have e1:=Ol z q.name hz hl hq;have el:=Qk z q.name;have e2:=ol (encN z q.name) (by omega);have e3:=Br0 z (starN (encN z q.name)) (by omega);have al:=Xs z (starN (encN z q.name));unfold Bs2;rcases Bm (starOk (encN z q.name)) with h3|h3
     ·rw[h3] at e2;by_cases h4:allR z (starN (encN z q.name))=[]
      ·rw[if_neg (by simp[h4])];rw[h4] at e3;simp(disch:=omega)only[Sk,k3,k4,e1,e2,e3,EVM,EVC,EVR,Ad,simprocAttr]
       try rfl
      ·rw[if_pos ⟨h3,h4⟩];have h5:¬((allR z (starN (encN z q.name))).length:Int)=0:=by have:=Ch.2 h4;omega
       have e4:=fun p2 p3 p4 p5 p6 p7 p8 p9 p10 p11=>Fz7 z q (allR z (starN (encN z q.name))) p2 p3 p4 p5 p6 p7 p8 p9 p10 p11 2000 (by omega) (by omega);have e5:=sj ((allR z (starN (encN z q.name))).map (Np q.name)) q.typ (by rw[D2];omega);generalize (allR z (starN (encN z q.name))).map (Np q.name)=ml at*;generalize allR z (starN (encN z q.name))=al at*;simp(disch:=omega)only[Sk,k3,k4,e1,e2,e3,e4,e5,h5,EVM,EVC,EVR,Ad,simprocAttr]
       try rfl
     ·rw[h3] at e2;rw[if_neg (by simp[h3])];generalize allR z (starN (encN z q.name))=al at*;simp(disch:=omega)only[Sk,k3,k4,e1,e2,e3,EVM,EVC,EVR,Ad,simprocAttr]
      try rfl
  by_cases h1:cutN z q.name=[]
  ·rw[h1] at k1;rw[if_neg (by simp[h1])];simp(disch:=omega)only[↓tail,Sk,k0,k1,ne_eq,not_true,decide_false,EVM,EVC,EVR,Ad,simprocAttr]
  ·have h2:decide (cutN z q.name≠[])=true:=by simp[h1]
   rw[h2] at k1;by_cases h3:cutN z q.name=q.name
   ·by_cases h4:q.typ=43
    ·rw[if_neg (by simp[h3,h4])];rw[h3] at k1;simp(disch:=omega)only[↓tail,Sk,k0,k1,h4,EVM,EVC,EVR,Ad,simprocAttr]
    ·rw[if_pos ⟨h1,.inr h4⟩];rw[h3] at k1 k2 ⊢;generalize findR z.recs q.name 2=fr at*;simp(disch:=omega)only[Sk,k0,k1,k2,h4,EVM,EVC,EVR,Ad,simprocAttr]
   ·rw[if_pos ⟨h1,.inl h3⟩];generalize findR z.recs (cutN z q.name) 2=fr at*;simp(disch:=omega)only[Sk,k0,k1,k2,h3,EVM,EVC,EVR,Ad,simprocAttr]
 ·rw[if_neg (by simp[hu])];rw[hu] at k0;simp(disch:=omega)only[Sk,k0,EVM,EVC,EVR,Ad,simprocAttr]
end Go.X.G
/- nsec: the reference's chain. -/
namespace Go.X.G
open Go Go.X
def t6 {z:Zone} {n:List UInt8} (h:n∈namesN z):N6 z n=false∧under n z.origin=true:=by obtain⟨r,hr,h1,h2,h3,h4⟩:=(U7 z n).1 h;refine⟨?_,h4⟩;rw[Ar4];intro hn;unfold N6 at hn h2;rw[Dd] at hn;obtain⟨c,hc,h5⟩:=hn;simp only[Br,decide_eq_true_eq] at h5;obtain⟨⟨c1,c2⟩,c3⟩:=h5;rw[List.any_eq_false] at h2;refine h2 c hc ?_;simp only[Br,decide_eq_true_eq];refine⟨⟨c1,fun e=> ?_⟩,Pn h3 c3⟩;rw[←e] at h3;exact c2 (df h3 c3)
def Fp5 {z:Zone} {n:List UInt8} (h:n∈namesN z):(decide (cutN z n≠[]) && decide (cutN z n=n))=decide (n∈cutsN z):=by
 obtain⟨hh,hu⟩:=t6 h;have hv:=(C4.1 hu).1;rw[Ac4] at hh;obtain⟨h1,h2⟩:=Rr z n z.recs [] (.inl rfl);have e:cutN z n=dj z n [] z.recs:=rfl;rw[←e] at h1 h2;rw[D5];simp only[Br,decide_eq_true_eq,Z9];constructor
 ·rintro⟨g1,g2⟩;obtain⟨_,g3,_⟩:=h2 g1;rcases g3 with g3|⟨r,hr,g3,g4⟩
  ·exact absurd g3 g1
  ·exact⟨r,hr,g3,g4.trans g2⟩
 ·rintro⟨r,hr,g1,g2⟩;have g3:cutN z n≠[]:=fun q=>by have:=(h1 q).2 r hr g1;rw[g2,Pp hv] at this;cases this
  refine⟨g3,?_⟩;simp only[H8,decide_eq_false_iff_not,ne_eq,H0] at hh;exact hh.resolve_left g3
def Ix2 (t:Int):orB (orB t 140737488355328) 70368744177664=orB t o4:=by
 have h:bv (orB t 140737488355328)|||bv 70368744177664=bv t|||bv o4:=by rw[Kd4,BitVec.or_assoc];congr 1
 have e1:orB (orB t 140737488355328) 70368744177664=IntKind.u64.wrap ((bv (orB t 140737488355328)|||bv 70368744177664).toNat:Int):=rfl;rw[e1,h];rfl
def Q6:List Rec→Int
 |[]=>0
 |r::l=>if r.typ=6 then r.data.e else Q6 l
def xj (z:Zone) (hl:z.recs.length≤1000000):S Dg5 1 [z.pv]=some [.i .i64 (Q6 z.recs)]:=by
 refine Jf9 (N:=z.recs.length+1) rfl ?_;have key:Gw5.ev S (z.recs.length+1) [z.pv]=some (if z.recs.any (fun r=>decide (r.typ=6))=true then .ret [.i .i64 (Q6 z.recs)] else .yld 0 []):=by
  refine Es z.recs (fun i=>[.i .i64 (i:Int)]) (fun i r=>if r.any (fun r=>decide (r.typ=6))=true then .ret [.i .i64 (Q6 r)] else .yld 0 []) rfl (by omega) (fun i c r hd hi hc=> ?_) ?_
  ·by_cases h:c.typ=6
   ·right;simp(disch:=omega)only[Cm0,hc,h,Ac,simprocAttr];simp[h,Q6,Out.goes]
   ·left;simp(disch:=omega)only[Cm0,hc,h,Ac,simprocAttr];simp[h,Q6]
  ·simp(disch:=omega)only[Cm0,Ac,simprocAttr];simp[Out.goes]
 rcases Bm (z.recs.any (fun r=>decide (r.typ=6))) with h|h<;>rw[h] at key
 ·simp(disch:=omega)only[Cm0,key,Ac,simprocAttr]
  try simp
 ·have:Q6 z.recs=0:=by
   generalize z.recs=l at h
   induction l with
   |nil=>rfl
   |cons r l ih=>
    rw[List.any_cons,Hq] at h;unfold Q6;rw[if_neg (by simpa using h.1)];exact ih h.2
  rw[this];simp(disch:=omega)only[Cm0,key,Ac,simprocAttr]
  try simp
def Cz7 {z:Zone} (ho:ZOk z):Q6 z.recs=minE z:=by
 have hs:∀r∈z.recs,r.typ=6→r.data.e=minE z:=fun r hr ht=>by have:=ho.recs r hr;unfold M9 at this;simp only[ht,Br,decide_true,Uz,Cm,decide_eq_false_iff_not,H0,ne_eq] at this;have hm:r∈findR z.recs z.origin 6:=Mn.2 ⟨hr,this.1.1.2,ht⟩;obtain⟨s,es⟩:=jv.1 ho.soa;unfold minE;rw[es] at hm ⊢;rw[Dx.1 hm]
 have hx:∃r∈z.recs,r.typ=6:=by obtain⟨r,hr,_,ht⟩:=ho.soaR;exact⟨r,hr,ht⟩
 generalize minE z=m at*;generalize z.recs=l at*
 induction l with
 |nil=>obtain⟨r,hr,_⟩:=hx;cases hr
 |cons r l ih=>
  unfold Q6;by_cases h:r.typ=6
  ·rw[if_pos h];exact hs r (.head _) h
  ·rw[if_neg h];refine ih ?_ (fun x hx=>hs x (.tail _ hx));obtain⟨x,hx,ht⟩:=hx;rcases Ck.1 hx with e|hx
   ·rw[e] at ht;exact absurd ht h
   ·exact⟨x,hx,ht⟩
def Cg7 (z:Zone) (hz:z.wf) (ho:ZOk z) (hl:z.recs.length≤1000) (p1:PV) (N:Nat) (hN:(namesN z).length<N):
  Gy4.ev S N [z.pv,p1,Cn (namesN z)]=some (.yld 0 [B6 (chain0 z (minE z))]):=by
 have hor:(chain0 z (minE z))=[]++(namesN z).filterMap (Lg z (minE z)):=rfl;rw[hor];have hn:=Jx z hl;have kt:=fun n=>Eg4 z.recs n (by omega);have km:=xj z (by omega);rw[Cz7 ho] at km;have b47:S Rz 1 [.i .i64 47]=some [.i .u64 140737488355328]:=by simpa using T6 47 (by decide)
 have b46:S Rz 1 [.i .i64 46]=some [.i .u64 70368744177664]:=by simpa using T6 46 (by decide)
 have b43:S Rz 1 [.i .i64 43]=some [.i .u64 8796093022208]:=by simpa using T6 43 (by decide)
 have b2:S Rz 1 [.i .i64 2]=some [.i .u64 4]:=by simpa using T6 2 (by decide)
 have o1:X.bin .or (.i .u64 140737488355328) (.i .u64 70368744177664)=some (.i .u64 o4):=by kernel_rfl
 have o2:X.bin .or (.i .u64 4) (.i .u64 8796093022208)=some (.i .u64 Aj8):=by kernel_rfl
 refine D7 (N:=N) (namesN z) (fun i (g:List Rec)=>[B6 g,.i .i64 (i:Int)]) (fun i g r=> .yld 0 [B6 (g++r.filterMap (Lg z (minE z)))]) (fun i g=>g.length≤i) [] rfl (Dy _) hN (fun i g c r hd hi hc hI=> ?_) (fun g hI=> ?_)
 ·left;have hm:=Cq hc;have hcut:=Fp5 hm;have hv:=Hl (C4.1 (t6 hm).2).1;have kc:=Ax2 z c hz (by omega) (by omega);have e1:=Gd6 ((typesR z.recs c).foldl bitO 0) o4;have e2:anB ((typesR z.recs c).foldl bitO 0) o4=tyO z c:=rfl;rw[e2] at e1;have kt:=kt c;have eb:chBits z c=orB (if c∈cutsN z then adB (tyO z c) Aj8 else tyO z c) o4:=rfl;have hil:(i:Int)<((namesN z).length:Int):=by omega
  by_cases h0:tyO z c=0
  ·have hci:Lg z (minE z) c=none:=by unfold Lg;rw[if_pos h0]
   refine⟨g,?_,by omega,by rw[Gf0,hci]⟩;rw[h0] at e1;generalize (typesR z.recs c).foldl bitO 0=ty at*;generalize namesN z=nn at*;simp(disch:=omega)only[jl,hc,hil,kt,b47,b46,o1,e1,Ac,simprocAttr]
  ·have hci:Lg z (minE z) c=some ⟨c,47,minE z,⟨false,0,0,z.origin,[],[],0,0,0,0,0,0,chBits z c⟩⟩:=by unfold Lg;rw[if_neg h0]
   refine⟨g++[⟨c,47,minE z,⟨false,0,0,z.origin,[],[],0,0,0,0,0,0,chBits z c⟩⟩],?_,by simp;omega,by rw[Gf0,hci,Cv];rfl⟩;have fin:∀t,X.bin .or (.i .u64 t) (.i .u64 140737488355328)=some (.i .u64 (orB t 140737488355328)):=fun t=>Dd4 _ _;have fin2:∀t,X.bin .or (.i .u64 (orB t 140737488355328)) (.i .u64 70368744177664)=some (.i .u64 (orB t o4)):=fun t=>by rw[Dd4,Ix2]
   have ea:=Gd7 (tyO z c) Aj8;generalize (typesR z.recs c).foldl bitO 0=ty at*;rw[eb];by_cases h1:c∈cutsN z
   ·rw[if_pos h1];rw[decide_eq_true h1] at hcut;simp only[Br,decide_eq_true_eq] at hcut;obtain⟨g1,g2⟩:=hcut;have g1':decide (cutN z c≠[])=true:=decide_eq_true g1;rw[g1',g2] at kc;have f1:=fin (adB (tyO z c) Aj8);have f2:=fin2 (adB (tyO z c) Aj8);generalize orB (adB (tyO z c) Aj8) o4=bits at*;generalize orB (adB (tyO z c) Aj8) 140737488355328=mid at*;generalize adB (tyO z c) Aj8=u at*;generalize tyO z c=t at*;generalize namesN z=nn at*;generalize minE z=me at*;simp(disch:=omega)only[jl,hc,hil,kt,kc,km,b47,b46,b43,b2,o1,o2,e1,ea,f1,f2,h0,Et,Ff,Ac,simprocAttr]
   ·rw[if_neg h1];rw[decide_eq_false h1] at hcut;have f1:=fin (tyO z c);have f2:=fin2 (tyO z c);generalize orB (tyO z c) o4=bits at*;generalize orB (tyO z c) 140737488355328=mid at*;generalize tyO z c=t at*;generalize namesN z=nn at*;generalize minE z=me at*;generalize cutN z c=cu at*;by_cases g1:cu=[]
    ·have g1':decide (cu≠[])=false:=by simp[g1]
     rw[g1'] at kc;simp(disch:=omega)only[jl,hc,hil,kt,kc,km,b47,b46,o1,e1,f1,f2,h0,Et,Ff,Ac,simprocAttr]
    ·have g1':decide (cu≠[])=true:=by simp[g1]
     rw[g1',Uz,decide_eq_false_iff_not] at hcut;rw[g1'] at kc;simp(disch:=omega)only[jl,hc,hil,kt,kc,km,b47,b46,o1,e1,f1,f2,h0,hcut,Et,Ff,Ac,simprocAttr]
 ·generalize namesN z=nn at*;simp(disch:=omega)only[jl,Gn,Ac,simprocAttr];simp[Out.goes]
def Fg2 (c0:List Rec):xv (c0.drop 1).length 1 c0=xv c0.length 0 c0:=by
 cases c0 with
 |nil=>rfl
 |cons a l=>rfl
def Cg6 (c0:List Rec) (hl:c0.length≤1000000) (N:Nat) (hN:c0.length<N) (p0 p1 p2:PV):
  Gv0.ev S N [p0,p1,p2,B6 c0]=some (.yld 0 [B6 (xv c0.length 0 c0)]):=by
 rw[←Fg2];refine D7 (N:=N) (c0.drop 1) (fun i (g:List Rec)=>[B6 g,.i .i64 (i:Int)]) (fun i g r=> .yld 0 [B6 (xv r.length (i+1) g)]) (fun i g=>g.length=c0.length) c0 rfl rfl (by rw[Dj];omega) (fun i g c r hd hi hc hI=> ?_) (fun g hI=> ?_)
 ·left;rw[Dj] at hi;refine⟨lnk g (i+1),?_,by rw[Zb];exact hI,rfl⟩;have hgl:(g.length:Int)=(c0.length:Int):=by omega
  have hil:(i:Int)+1<(c0.length:Int):=by omega
  have e1:(i:Int)+1=((i+1:Nat):Int):=by omega
  have a1:g[i]? =some (g[i]'(by omega)):=Bs (by omega);have a2:g[i+1]? =some (g[i+1]'(by omega)):=Bs (by omega);unfold lnk;rw[if_pos (by omega),Kl,a1,a2];simp only;generalize g[i]'(by omega)=a at*;generalize g[i+1]'(by omega)=b at*;have e3:=Hl5 g i b.name a a1;have e4:((i:Int)+1).toNat=i+1:=by omega
  simp(disch:=omega)only[jl,hgl,hil,e3,e4,a1,a2,Ac,simprocAttr]
 ·rw[Dj] at*;have hgl:(g.length:Int)=(c0.length:Int):=by omega
  have hil:¬((c0.length - 1:Nat):Int)+1<(c0.length:Int):=by omega
  simp(disch:=omega)only[jl,hgl,hil,Ac,simprocAttr];simp[Out.goes,xv]
def Cg5 (z:Zone) (hz:z.wf) (hl:z.recs.length≤1000):S Dh8 1 [z.pv]=some (if I9 z=0 then [B6 (chainN z),.i .i64 0] else [B6 [],.i .i64 13]):=by
 have hn:=Jx z hl;have hcl:=Qx z (minE z);refine Jm9 (N:=(namesN z).length+1) rfl ?_;have k1:=jj z hz;by_cases h:I9 z=0
 ·rw[if_pos h];rw[h] at k1;have ho:=T3 h;have k4:=Rx z hz (by omega);have l0:=Cg7 z hz ho hl (.i .i64 0) ((namesN z).length+1) (by omega);have l1:=Cg6 (chain0 z (minE z)) (by omega) ((namesN z).length+1) (by omega);have ec:xv (chain0 z (minE z)).length 0 (chain0 z (minE z))=chainN z:=rfl;rw[ec] at l1;generalize chainN z=cn at*;generalize chain0 z (minE z)=c0 at*;generalize namesN z=nn at*;simp(disch:=omega)only[jl,k1,k4,l0,l1,Et,Ff,Ac,simprocAttr]
 ·rw[if_neg h];simp(disch:=omega)only[jl,k1,h,Et,Ff,Ac,simprocAttr]
end Go.X.G
/- What a checked zone says about a question, in plain words. -/
namespace Go.X.G
open Go Go.X
def Cw0 {z:Zone} {n:List UInt8} (ho:ZOk z) (hu:under n z.origin=true) (hx:exB z n=false) (hc:cutN z n=[]∨cutN z n=n):∀r∈z.recs,under r.name n=false:=by
 intro r hr;rcases Bm (under r.name n) with h|h
 ·exfalso;have h1:=ho.under hr;have hh:N6 z r.name=true:=by
   rcases Bm (N6 z r.name) with e|e
   ·exact e
   ·have:=(Tm z n).2 ⟨r,hr,h1,e,h,hu⟩;rw[hx] at this;cases this
  rw[Ac4] at hh;simp only[Br,decide_eq_true_eq] at hh;obtain⟨c1,_,_,_,_,c2⟩:=zq ho hh.1;obtain⟨_,g2⟩:=Rr z r.name z.recs [] (.inl rfl);obtain⟨_,g3,_,_⟩:=g2 hh.1;obtain⟨x,hxm,x1,x2⟩:=g3.resolve_left hh.1;change x.name=cutN z r.name at x2;generalize cutN z r.name=c at*;obtain⟨_,_,s1⟩:=C4.1 c1;obtain⟨_,vn,s2⟩:=C4.1 h;obtain⟨_,vc,_⟩:=C4.1 c1;by_cases hl:(lbl n).length≤(lbl c).length
  ·have hcn:under c n=true:=C4.2 ⟨vc,vn,Av4 s2 s1 hl⟩;obtain⟨y,y1,y2,y3,y4,_⟩:=(Tm z c).1 c2;have:=(Tm z n).2 ⟨y,y1,y2,y3,Pn y4 hcn,hu⟩;rw[hx] at this;cases this
  ·have hnc:under n c=true:=C4.2 ⟨vn,vc,Av4 s1 s2 (by omega)⟩;obtain⟨k1,k2⟩:=Rr z n z.recs [] (.inl rfl);rcases hc with hc|hc
   ·have:=(k1 hc).2 x hxm x1;rw[x2,hnc] at this;cases this
   ·by_cases hc0:cutN z n=[]
    ·have:=(k1 hc0).2 x hxm x1;rw[x2,hnc] at this;cases this
    ·obtain⟨_,_,_,k3⟩:=k2 hc0;have:=k3 x hxm x1 (by rw[x2];exact hnc);change (lbl (cutN z n)).length≤_ at this;rw[hc,x2] at this;omega
 ·exact h
def Pq (z:Zone) (n:List UInt8) (t:Int):Nat:=(z.recs.filter fun r=>decide (r.name=n) && (decide (t=255)||decide (r.typ=t))).length
def Ng (z:Zone) (n:List UInt8) (t:Int):Pq z n t=(typedR (allR z n) t).length:=by
 unfold Pq typedR allR;split
 ·rename_i h;subst h;simp
 ·rename_i h;rw[List.filter_filter];congr 1;refine List.filter_congr fun r _=> ?_;simp[h,Bool.and_comm]
def Cd6 (z:Zone) (n:List UInt8):Pq z n 2=(findR z.recs n 2).length:=by unfold Pq findR;congr 1
def ql {l:List Rec} {t:Int} {x:Rec} (h:x∈typedR l t):x∈l∧(x.typ=t∨t=255):=by
 unfold typedR at h;split at h
 ·rename_i e;exact⟨h,.inr e⟩
 ·obtain⟨h1,h2⟩:=C5.1 h;exact⟨h1,.inl (by simpa using h2)⟩
def qh (l:List Rec) (n:List UInt8) (t:Int):(typedR (l.map (Np n)) t).length=(typedR l t).length:=by
 unfold typedR;split
 ·simp
 ·rw[List.filter_map,D2];rfl
structure FindOk (z:Zone) (q:Ques) (r:Res):Prop where
 ans:r.kind=1→r.recs≠[]∧r.recs.length=Pq z r.owner q.typ∧(r.wild=false→r.owner=q.name)∧∀x∈r.recs,x.name=q.name∧(x.typ=q.typ∨q.typ=255)∧{x with name:=r.owner}∈z.recs
 nothing:r.kind=6∨r.wild=true→∀x∈z.recs,under x.name q.name=false
 out:r.kind=0→under q.name z.origin=false
 nodata:r.kind=5→Pq z r.owner q.typ=0
 nx:r.kind=6→r.recs=[]∧r.wild=false
 ref:r.kind=4→under q.name r.owner=true∧r.owner≠z.origin∧r.recs.length=Pq z r.owner 2∧r.recs≠[]∧∀x∈r.recs,x.typ=2
 kinds:r.kind=0∨r.kind=1∨(r.kind=2∧r.recs≠[])∨(r.kind=3∧r.recs≠[])∨r.kind=4∨r.kind=5∨r.kind=6
def says_kind (l:List Rec) (t:Int):((saysM l t).kind=2∧(saysM l t).recs≠[])∨((saysM l t).kind=5∧typedR l t=[])∨((saysM l t).kind=1∧typedR l t≠[]∧(saysM l t).recs=typedR l t):=by
 unfold saysM;split
 ·exact .inl ⟨rfl,by simp⟩
 ·split
  ·rename_i h;exact .inr (.inl ⟨rfl,h⟩)
  ·rename_i h;exact .inr (.inr ⟨rfl,h,rfl⟩)
def Yz (l:List Rec) (t:Int):(saysM l t).wild=false:=by
 unfold saysM;split
 ·rfl
 ·split<;>rfl
def yz (z:Zone) (q:Ques) (ho:ZOk z):FindOk z q (findM z q):=by
 unfold findM;split
 ·rename_i hu;split
  ·rename_i hc;obtain⟨f1,f2,f3,_⟩:=zq ho hc.1;refine⟨fun h=>by simp at h,fun h=>by simp at h,fun h=>by simp at h,fun h=>by simp at h,fun h=>by simp at h,fun _=>⟨f1,f2,(Cd6 z _).symm,fun e=>f3 (by have e':findR z.recs (cutN z q.name) 2=[]:=e;rw[e'];rfl),fun x hx=>(Mn.1 hx).2.2⟩,by simp⟩
  ·rename_i hc;have hc':cutN z q.name=[]∨cutN z q.name=q.name:=by
    by_cases h0:cutN z q.name=[]
    ·exact .inl h0
    ·refine .inr (Classical.byContradiction fun h1=>hc ⟨h0,.inl h1⟩)
   unfold Cz2;cases hr:Gk7 z q.name with
   |some x=>
    simp only;unfold Gk7 at hr;cases hr2:El5 z q.name with
    |none=>rw[hr2] at hr;cases hr
    |some u=>
     rw[hr2] at hr;simp only[Cd,Bn] at hr;obtain⟨r0,rest,hf⟩:=Dj9 hr2;unfold s5 at hr;rw[hf] at hr;subst hr;exact⟨fun h=>by simp at h,fun h=>by simp at h,fun h=>by simp at h,fun h=>by simp at h,fun h=>by simp at h,fun h=>by simp at h,by simp⟩
   |none=>
    simp only;split
    ·rename_i hex;rcases says_kind (allR z q.name) q.typ with⟨k,k'⟩|⟨k,kt⟩|⟨k,kt,kr⟩
     ·refine⟨fun h=> ?_,fun h=> ?_,fun h=> ?_,fun h=> ?_,fun h=> ?_,fun h=> ?_,.inr (.inr (.inl ⟨k,k'⟩))⟩<;>simp[k,Yz] at h
     ·refine⟨fun h=> ?_,fun h=> ?_,fun h=> ?_,fun _=> ?_,fun h=> ?_,fun h=> ?_,by simp[k]⟩
      ·simp[k] at h
      ·simp[k,Yz] at h
      ·simp[k] at h
      ·show Pq z q.name q.typ=0;rw[Ng,kt];rfl
      ·simp[k] at h
      ·simp[k] at h
     ·refine⟨fun _=>⟨?_,?_,fun _=>rfl,?_⟩,fun h=> ?_,fun h=> ?_,fun h=> ?_,fun h=> ?_,fun h=> ?_,by simp[k]⟩
      ·show (saysM (allR z q.name) q.typ).recs≠[];rw[kr];exact kt
      ·show (saysM (allR z q.name) q.typ).recs.length=Pq z q.name q.typ;rw[kr,Ng]
      ·intro x hx;change x∈(saysM (allR z q.name) q.typ).recs at hx;rw[kr] at hx;obtain⟨h1,h2⟩:=ql hx;obtain⟨h3,h4⟩:=C5.1 h1;have h5:x.name=q.name:=by simpa using h4
       refine⟨h5,h2,?_⟩;show {x with name:=q.name}∈z.recs;rw[←h5];exact h3
      ·simp[k,Yz] at h
      ·simp[k] at h
      ·simp[k] at h
      ·simp[k] at h
      ·simp[k] at h
    ·rename_i hex;have hex':exB z q.name=false:=by simpa using hex
     have hno:=Cw0 ho hu hex' hc';unfold Bs2;split
     ·simp only[Ev];generalize starN (encN z q.name)=s;rcases says_kind ((allR z s).map (Np q.name)) q.typ with⟨k,k'⟩|⟨k,kt⟩|⟨k,kt,kr⟩
      ·refine⟨fun h=> ?_,fun _=>hno,fun h=> ?_,fun h=> ?_,fun h=> ?_,fun h=> ?_,.inr (.inr (.inl ⟨k,k'⟩))⟩<;>simp[k] at h
      ·refine⟨fun h=> ?_,fun _=>hno,fun h=> ?_,fun _=> ?_,fun h=> ?_,fun h=> ?_,by simp[k]⟩
       ·simp[k] at h
       ·simp[k] at h
       ·show Pq z s q.typ=0;rw[Ng,←qh (allR z s) q.name q.typ,kt];rfl
       ·simp[k] at h
       ·simp[k] at h
      ·refine⟨fun _=>⟨?_,?_,fun h=> ?_,?_⟩,fun _=>hno,fun h=> ?_,fun h=> ?_,fun h=> ?_,fun h=> ?_,by simp[k]⟩
       ·show (saysM ((allR z s).map (Np q.name)) q.typ).recs≠[];rw[kr];exact kt
       ·show (saysM ((allR z s).map (Np q.name)) q.typ).recs.length=Pq z s q.typ;rw[kr,Ng,qh]
       ·simp at h
       ·intro x hx;change x∈(saysM ((allR z s).map (Np q.name)) q.typ).recs at hx;rw[kr] at hx;obtain⟨h1,h2⟩:=ql hx;obtain⟨y,h3,rfl⟩:=Fl.1 h1;obtain⟨h4,h5⟩:=C5.1 h3;have h6:y.name=s:=by simpa using h5
        refine⟨rfl,h2,?_⟩;show {Np q.name y with name:=s}∈z.recs;rw[←h6];exact h4
       ·simp[k] at h
       ·simp[k] at h
       ·simp[k] at h
       ·simp[k] at h
     ·simp only[Option.getD_none];refine⟨fun h=>by simp at h,fun _=>hno,fun h=>by simp at h,fun h=>by simp at h,fun _=>⟨rfl,rfl⟩,fun h=>by simp at h,by simp⟩
 ·rename_i hu;have hu':under q.name z.origin=false:=by simpa using hu
  refine⟨fun h=>by simp at h,fun h=>by simp at h,fun _=>hu',fun h=>by simp at h,fun h=>by simp at h,fun h=>by simp at h,by simp⟩
end Go.X.G
/- The law NsecOrder. -/
namespace Go.X.G
open Go Go.X
def Gn7 (x y:Int):Ep2 (orB x y):=by have h:=(BitVec.ofInt IntKind.u64.bits x|||BitVec.ofInt IntKind.u64.bits y).isLt;have h2:(2:Nat) ^ IntKind.u64.bits=18446744073709551616:=rfl;unfold orB Ep2;rw[Gj9 (by omega) (by omega)];omega
def Ff8 {z:Zone} (hz:z.wf):Xz (minE z):=by
 unfold minE;cases e:findR z.recs z.origin 6 with
 |nil=>unfold Xz;simp
 |cons r l=>
  have:r∈findR z.recs z.origin 6:=by rw[e];exact .head _
  exact(hz.recs.2 r (Mn.1 this).1).data.e
def zb {z:Zone} (hz:z.wf):∀a∈chain0 z (minE z),a.wf:=fun a ha=>by obtain⟨n,hn,_,rfl⟩:=Cf2 ha;have hv:=Hl (C4.1 (Fm9 (z:=z) (n:=n) (by rw[←Vy];simpa using hn))).1;exact⟨by unfold My;simp only;omega,by unfold Xz;simp,Ff8 hz,⟨by unfold Ep2;simp,by unfold Ep2;simp,hz.origin,by unfold My;simp,by unfold My;simp,by unfold Xz;simp,by unfold Xz;simp,by unfold Xz;simp,by unfold Xz;simp,by unfold Xz;simp,by unfold Xz;simp,Gn7 _ _⟩⟩
def Ay2 {z:Zone} (hz:z.wf):∀a∈chainN z,a.wf:=fun b hb=>by
 obtain⟨j,hj⟩:=List.mem_iff_getElem?.1 hb;obtain⟨c,hc,rfl⟩:=Cf0 hj;have hw:=zb hz c (Cq hc);unfold nxt;split
 ·rename_i d hd;have hd:=zb hz d (Cq hd);exact⟨hw.name,hw.typ,hw.ttl,⟨hw.data.hi,hw.data.lo,hd.name,hw.data.mail,hw.data.text,hw.data.a,hw.data.b,hw.data.c,hw.data.d,hw.data.e,hw.data.f,hw.data.bits⟩⟩
 ·exact hw
end Go.X.G
/- nsec: Needed; the law NsecChains. -/
namespace Go.X.G
open Go Go.X
def Rl (z:Zone) (name owner star:List UInt8) (r:Rec):Bool:=decide (r.name=owner)||Md r z.origin name||(decide (star≠[]) && Md r z.origin star)
def w6 (x:Res) (name:List UInt8):List UInt8:=if x.wild=true then x.owner else name
def Az7 (z:Zone) (x:Res) (name:List UInt8):List UInt8:=if x.kind=6 then starN (encN z name) else []
def neededN (z:Zone) (name:List UInt8):List Rec:=
 if I9 z=0 then
  if(findM z ⟨name,43⟩).kind=0∨(findM z ⟨name,43⟩).kind=4∨(findM z ⟨name,43⟩).kind=3 then []
  else(chainN z).filter (Rl z name (w6 (findM z ⟨name,43⟩) name) (Az7 z (findM z ⟨name,43⟩) name))
 else []
def rc (n:List UInt8):(starN n).length≤254:=by
 unfold starN;split
 ·rename_i h;unfold starOk at h;simp only[Br] at h;exact Hl h.2
 ·simp
def Dm3 (z:Zone) (x:Res) (name:List UInt8):(Az7 z x name).length≤254:=by
 unfold Az7;split
 ·exact rc _
 ·simp
def Cg3 (z:Zone) (name owner star:List UInt8) (r:Rec) (hr:r.wf) (hz:z.wf) (hn:name.length≤9223372036854775807) (hs:star.length≤9223372036854775807):S l7 1 [r.pv,.s owner,z.pv,.s name,.s star]=some [.b (!Rl z name owner star r)]:=by
 refine Jp2 (N:=1) rfl ?_;have g1:=hz.origin;unfold My at g1;have k1:=Aj3 r z.origin name hr g1 hn;have k2:=Aj3 r z.origin star hr g1 hs;unfold Rl;by_cases h1:r.name=owner
 ·simp(disch:=omega)only[En0,h1,Et,Ff,Ac,simprocAttr]
  try simp
 ·rcases Bm (Md r z.origin name) with e1|e1
  ·simp(disch:=omega)only[En0,h1,k1,e1,Et,Ff,Ac,simprocAttr]
   try simp
  ·by_cases h2:star=[]
   ·subst h2;simp(disch:=omega)only[En0,h1,k1,e1,Et,Ff,Ac,simprocAttr]
    try simp[h1]
   ·rcases Bm (Md r z.origin star) with e2|e2<;>simp(disch:=omega)only[En0,h1,h2,k1,k2,e1,e2,Et,Ff,Ac,simprocAttr]<;>simp[h1,h2]
def Vt (z:Zone) (name owner star:List UInt8) (hz:z.wf) (l:List Rec) (hw:∀r∈l,r.wf) (hl:l.length≤1000000) (hn:name.length≤9223372036854775807) (hs:star.length≤9223372036854775807):
  S cp 1048578 [B6 l,.f l7 [.s owner,z.pv,.s name,.s star]]=some [B6 (l.filter (Rl z name owner star))]:=by
 have:=V1 l l7 [.s owner,z.pv,.s name,.s star] (fun r=> !Rl z name owner star r) hl (fun r hr=>Cg3 z name owner star r (hw r hr) hz hn hs);simpa using this
def zz {z:Zone} (hl:z.recs.length≤1000):(chainN z).length≤1000000:=by have:=Qx z (minE z);have:=Jx z hl;rw[Vm];omega
def Cg2 (z:Zone) (name:List UInt8) (hz:z.wf) (hw:I9 z=0→∀a∈chainN z,a.wf) (hl:z.recs.length≤1000) (hn:name.length≤9223372036854775807):S Iy8 2 [z.pv,.s name]=some [B6 (neededN z name)]:=by
 refine Kg1 (N:=1) rfl ?_;have k1:=El0 z hz hl;unfold neededN;by_cases h:I9 z=0
 ·rw[if_pos h] at k1 ⊢;have ho:=T3 h;have hw:=hw h;have hcl:=zz hl;have k2:=Hj3 z ⟨name,43⟩ hz hl hn;have hx:=yz z ⟨name,43⟩ ho;have k3:=Ow z name hz hl hn;have el:=Qk z name;have k4:=oh (encN z name) (by omega);have sl:=rc (encN z name);have d1:=Vt z name name (starN (encN z name)) hz (chainN z) hw hcl hn (by omega);generalize findM z ⟨name,43⟩=x at*;have d2:=Vt z name x.owner [] hz (chainN z) hw hcl hn (by simp);have d3:=Vt z name name [] hz (chainN z) hw hcl hn (by simp);generalize chainN z=l at*;unfold w6 Az7;by_cases h0:x.kind=0
  ·simp(disch:=omega)only[Gf8,k1,k2,h0,K0,Et,Ff,EVM,EVR,Ac,simprocAttr]
   try simp
  ·by_cases h4:x.kind=4
   ·simp(disch:=omega)only[Gf8,k1,k2,h0,h4,K0,Et,Ff,EVM,EVR,Ac,simprocAttr]
    try simp
   ·by_cases h3:x.kind=3
    ·simp(disch:=omega)only[Gf8,k1,k2,h0,h4,h3,K0,Et,Ff,EVM,EVR,Ac,simprocAttr]
     try simp
    ·rw[if_neg (by simp[h0,h4,h3])];by_cases h6:x.kind=6
     ·rw[if_pos h6,(hx.nx h6).2,if_neg (by simp)];generalize starN (encN z name)=st at*;generalize starOk (encN z name)=so at*;generalize List.filter (Rl z name name st) l=fl at*;simp(disch:=omega)only[Gf8,k1,k2,k3,k4,d1,h0,h4,h3,h6,Fx,Ln,K0,Et,Ff,EVM,EVR,Ac,simprocAttr]
     ·rw[if_neg h6];rcases Bm x.wild with e|e
      ·rw[if_pos e];generalize List.filter (Rl z name x.owner []) l=fl at*;simp(disch:=omega)only[Gf8,k1,k2,d2,h0,h4,h3,h6,e,Fx,Ln,K0,Et,Ff,EVM,EVR,Ac,simprocAttr]
      ·rw[if_neg (by rw[e];simp)];generalize List.filter (Rl z name name []) l=fl at*;simp(disch:=omega)only[Gf8,k1,k2,d3,h0,h4,h3,h6,e,Fx,Ln,K0,Et,Ff,EVM,EVR,Ac,simprocAttr]
 ·rw[if_neg h] at k1 ⊢;simp(disch:=omega)only[Gf8,k1,K0,Et,Ff,EVM,EVR,Ac,simprocAttr]
def Ap1 (z:Zone) (name owner star:List UInt8) (hz:z.wf) (l:List Rec) (hw:∀r∈l,r.wf) (hl:l.length≤1000000) (hn:name.length≤9223372036854775807) (hs:star.length≤9223372036854775807) (p3 p4:PV):
  Dt4.ev S (l.length+1) [z.pv,.s name,B6 l,p3,p4,.s owner,.s star]=some (.yld 0 [B6 (l.filter (Rl z name owner star))]):=by
 have g1:=hz.origin;unfold My at g1;have key:Dt4.ev S (l.length+1) [z.pv,.s name,B6 l,p3,p4,.s owner,.s star]=some (.yld 0 [B6 ([]++l.filter (Rl z name owner star))]):=by
  refine D7 l (fun i (g:List Rec)=>[B6 g,.i .i64 (i:Int)]) (fun i g r=> .yld 0 [B6 (g++r.filter (Rl z name owner star))]) (fun i g=>g.length≤i) [] rfl (Dy _) (by omega) (fun i g c r hd hi hc hI=> ?_) (fun g hI=> ?_)
  ·left;have hcw:=hw c (Cq hc);have k1:=bk c z.origin name hcw g1 hn;have k2:=bk c z.origin star hcw g1 hs;have body:Ef0.ev S (l.length+1) ([z.pv,.s name,B6 l,p3,p4,.s owner,.s star]++[B6 g,.i .i64 (i:Int)])=some (.yld 1 [B6 (if Rl z name owner star c=true then g++[c] else g),.i .i64 ((i:Int)+1)]):=by
    unfold Rl;by_cases h1:c.name=owner
    ·simp(disch:=omega)only[Uc,hc,h1,Ac,simprocAttr]
     try simp
    ·rcases Bm (Md c z.origin name) with e1|e1
     ·simp(disch:=omega)only[Uc,hc,h1,k1,e1,Ac,simprocAttr]
      try simp
     ·by_cases h2:star=[]
      ·subst h2;simp(disch:=omega)only[Uc,hc,h1,k1,e1,Ac,simprocAttr]
       try simp[h1]
      ·rcases Bm (Md c z.origin star) with e2|e2<;>simp(disch:=omega)only[Uc,hc,h1,h2,k1,k2,e1,e2,Ac,simprocAttr]<;>simp[h1,h2]
   rcases Bm (Rl z name owner star c) with h|h
   ·refine⟨g++[c],?_,by simp;omega,by rw[En h,Cv];rfl⟩;rw[body,h,if_pos rfl];rfl
   ·refine⟨g,?_,by omega,by rw[G6 (by rw[h];simp)]⟩;rw[body,h,if_neg (by simp)];rfl
  ·simp(disch:=omega)only[Uc,Ac,simprocAttr]
   try simp[Out.goes]
 simpa using key
def Ap0 (z:Zone) (name:List UInt8) (hz:z.wf) (hw:I9 z=0→∀a∈chainN z,a.wf) (hl:z.recs.length≤1000) (hn:name.length≤9223372036854775807):S Dm0 2 [z.pv,.s name]=some [B6 (neededN z name)]:=by
 refine Jr0 (N:=(chainN z).length+1) rfl ?_;have k1:=Cg5 z hz hl;unfold neededN;by_cases h:I9 z=0
 ·rw[if_pos h] at k1 ⊢;have ho:=T3 h;have hw:=hw h;have hcl:=zz hl;have k2:=Fb0 z ⟨name,43⟩ hz hl hn (fun u=>ho.single u 39 (by simp));have hx:=yz z ⟨name,43⟩ ho;have k3:=Ol z name hz hl hn;have el:=Qk z name;have k4:=ol (encN z name) (by omega);generalize findM z ⟨name,43⟩=x at*;have sl:=Dm3 z x name;have d:=fun p3 p4=>Ap1 z name (w6 x name) (Az7 z x name) hz (chainN z) hw hcl hn (by omega) p3 p4;generalize List.filter (Rl z name (w6 x name) (Az7 z x name)) (chainN z)=fl at*;generalize chainN z=l at*;by_cases h0:x.kind=0
  ·simp(disch:=omega)only[Uc,k1,k2,h0,K0,Et,Ff,EVM,EVR,Ac,simprocAttr]
   try simp
  ·by_cases h4:x.kind=4
   ·simp(disch:=omega)only[Uc,k1,k2,h0,h4,K0,Et,Ff,EVM,EVR,Ac,simprocAttr]
    try simp
   ·by_cases h3:x.kind=3
    ·simp(disch:=omega)only[Uc,k1,k2,h0,h4,h3,K0,Et,Ff,EVM,EVR,Ac,simprocAttr]
     try simp
    ·rw[if_neg (by simp[h0,h4,h3])];unfold w6 Az7 at d;by_cases h6:x.kind=6
     ·rw[if_pos h6] at d;generalize starN (encN z name)=st at*;generalize starOk (encN z name)=so at*;rcases Bm x.wild with e|e
      ·rw[if_pos e] at d;simp(disch:=omega)only[Uc,k1,k2,k3,k4,d,h0,h4,h3,h6,e,K0,Et,Ff,EVM,EVR,Ac,simprocAttr]
      ·rw[if_neg (by rw[e];simp)] at d;simp(disch:=omega)only[Uc,k1,k2,k3,k4,d,h0,h4,h3,h6,e,K0,Et,Ff,EVM,EVR,Ac,simprocAttr]
     ·rw[if_neg h6] at d;rcases Bm x.wild with e|e
      ·rw[if_pos e] at d;simp(disch:=omega)only[Uc,k1,k2,d,h0,h4,h3,h6,e,K0,Et,Ff,EVM,EVR,Ac,simprocAttr]
      ·rw[if_neg (by rw[e];simp)] at d;simp(disch:=omega)only[Uc,k1,k2,d,h0,h4,h3,h6,e,K0,Et,Ff,EVM,EVR,Ac,simprocAttr]
 ·rw[if_neg h] at k1 ⊢;simp(disch:=omega)only[Uc,k1,K0,Et,Ff,EVM,EVR,Ac,simprocAttr]
end Go.X.G
/- Valid data are known by their bytes; records that are alike. -/
namespace Go.X.G
open Go Go.X
end Go.X.G
