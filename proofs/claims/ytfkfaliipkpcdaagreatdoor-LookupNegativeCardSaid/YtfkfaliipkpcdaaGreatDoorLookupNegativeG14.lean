/- Zones in the program: Check and New. -/
import Derived.Test.YtfkfaliipkpcdaaGreatDoorLookupNegativeG13
import Derived.Test.YtfkfaliipkpcdaaGreatDoorLookupNegativeG11
import Derived.Test.YtfkfaliipkpcdaaGreatDoorLookupNegativeG12
open Bool renaming eq_false_or_eq_true→Aq,not_eq_false→Fh
open Classical renaming not_not→I4
open List renaming getElem?_eq_some_iff→Av,length_append→Ay,mem_cons→Am,length_take→Ap,length_cons→As,getElem?_drop→A6,length_nil→A9,mem_of_getElem?→Bv,length_pos_iff→Bw,all_eq_true→Bd,mem_append_right→Br,take_add_one→Cw,mem_append_left→Cc,flatMap_cons→G1
open Nat renaming le_refl→Af,le_trans→C6
open Option renaming map_some→A3
set_option maxHeartbeats 1000000
set_option linter.unusedVariables false
set_option linter.unusedSimpArgs false
namespace Go.X.G
open Go Go.X
def Gw (gs:List (List Rec)):PV:= .l 1 (gs.map Ag)
theorem Ow (l:List (List Rec)):F4 (Gw l)=some (.i .i64 (l.length:Int)):=by simp [Gw,F4]
theorem Ep (l:List (List Rec)) (k:IntKind) (z:Int) (h:0≤z):Gt 1 (Gw l) (.i k z)=(l[z.toNat]?).map Ag:=by simp [Gw,Yk _ _ _ _ h]
theorem Bn7 (x:List Rec):Jn 1 [Ag x]=some (Gw [x]):=rfl
theorem ix (l:List (List Rec)) (x:List Rec) (h:l.length+1≤1073741824):H3 1 (Gw l) (Gw [x])=some (Gw (l++[x])):=by have:=T4 1 (l.map Ag) [Ag x] (by simpa using h);simpa [Gw] using this
theorem Gc4 {α:Type} (l:List α) (s i:Nat) (c:α) (h:l[i]? =some c) (hs:s≤i):sl l s (i+1)=sl l s i++[c]:=by unfold sl;have hi:=(Av.1 h).1;rw [Cw,h,List.drop_append_of_le_length (by rw [Ap];omega)];rfl
theorem Cj9 (l:List Rec) (hl:l.length≤1000000):S Bh7 1 [Ag l]=some [Gw (grp l)]:=by
 obtain ⟨N,hN⟩:∃N,N=l.length+1:=⟨_,rfl⟩;refine Jq6 (N:=N) rfl ?_;have key:Fk8.ev S N [Ag l]=some (.yld 0 [Gw ([]++Ug (sl l 0 0) l)]):=by
  refine Fx l (fun i (g:List (List Rec)×Nat)=>[Gw g.1, .i .i64 (g.2:Int), .i .i64 (i:Int)]) (fun i g r=> .yld 0 [Gw (g.1++Ug (sl l g.2 i) r)]) (fun i g=>g.2≤i∧g.1.length≤i) ([],0) ?_ (by simp) (by omega) (fun i g c r hd hi hc hI=> ?_) (fun g hI=> ?_)
  ·rfl
  ·left;obtain ⟨out,st⟩:=g;obtain ⟨hI1,hI2⟩:=hI;simp only at hI1 hI2 ⊢;have hlt:(i:Int)<(l.length:Int):=by omega
   have e1:((i:Int)+1).toNat=i+1:=by omega
   have e2:(i:Int).toNat=i:=by omega
   have e3:(st:Int).toNat=st:=by omega
   have hsl:=Gc4 l st i c hc hI1;have hsl2:List.drop st (List.take (i+1) l)=sl l st i++[c]:=hsl;have hsl3:sl l st st=[]:=by unfold sl;rw [List.drop_eq_nil_iff,Ap];omega
   have hsl4:sl l (i+1) (i+1)=[]:=by unfold sl;rw [List.drop_eq_nil_iff,Ap];omega
   have hr:r=l.drop (i+1):=by have:=congrArg List.tail hd;simpa using this.symm
   by_cases hc2:(match r with|[]=>true|y::_=> !decide (y.name=c.name))=true
   ·refine ⟨(out++[sl l st i++[c]],i+1),?_,⟨by simp,by simp;omega⟩,?_⟩
    ·cases r with
     |nil=>
      have hend:(i:Int)+1=(l.length:Int):=by have:=congrArg List.length hr;simp at this;omega
      simp only;simp (disch:=omega) only [Ar8,hlt,hend.symm,e1,e2,e3,hc,hsl2,Bn7,ix,EVC,xe,EVP,EV,simprocAttr]
      try (congr 3;omega)
     |cons y r'=>
      have hy:l[i+1]? =some y:=by have:=congrArg (fun q=>q[0]?) hr;simpa [A6] using this.symm
      have hyl:=(Av.1 hy).1;have hend:¬(i:Int)+1=(l.length:Int):=by omega
      have hyc:¬y.name=c.name:=by simpa using hc2
      simp only;simp (disch:=omega) only [Ar8,hlt,hend,e1,e2,e3,hc,hy,hyc,hsl2,Bn7,ix,EVC,xe,EVP,EV,simprocAttr]
      try congr 3
    ·have eg:Ug (sl l st i) (c::r)=(sl l st i++[c])::Ug [] r:=by
      cases r with
      |nil=>rfl
      |cons y r'=>rw [Ug,if_pos hc2]
     simp only [eg,hsl4];simp
   ·refine ⟨(out,st),?_,⟨by simp;omega,by simp;omega⟩,?_⟩
    ·cases r with
     |nil=>simp at hc2
     |cons y r'=>
      have hy:l[i+1]? =some y:=by have:=congrArg (fun q=>q[0]?) hr;simpa [A6] using this.symm
      have hyl:=(Av.1 hy).1;have hend:¬(i:Int)+1=(l.length:Int):=by omega
      have hyc:y.name=c.name:=by simpa using hc2
      simp only;simp (disch:=omega) only [Ar8,hlt,hend,e1,e2,e3,hc,hy,hyc,EVC,xe,EVP,EV,simprocAttr]
      try rfl
    ·have eg:Ug (sl l st i) (c::r)=Ug (sl l st i++[c]) r:=by
      cases r with
      |nil=>simp at hc2
      |cons y r'=>rw [Ug,if_neg hc2]
     simp only [eg,hsl]
  ·have hlt:¬(l.length:Int)<(l.length:Int):=by omega
   refine ⟨?_,rfl⟩;simp (disch:=omega) only [Ar8,hlt,EVC,xe,EVP,EV,simprocAttr];simp [Ug]
 have e:[]++Ug (sl l 0 0) l=grp l:=by simp [sl,grp]
 rw [e] at key;generalize grp l=gs at*;simp (disch:=omega) only [Ar8,key,EVC,xe,EVP,EV,simprocAttr]
def Am0 (o:List UInt8):List (List Rec)→List UInt8→List UInt8→Bool→Option Bool
 |[],_,_,soa=>some soa
 |g::gs,cut,red,soa=>
  if propG o g (decide (Dm (nmG g) cut≠[])) (decide (Dm (nmG g) red≠[]))=true then
   Am0 o gs (if Dm (nmG g) cut=[]∧nmG g≠o∧F5 g 2=true then nmG g else Dm (nmG g) cut) (if F5 g 39=true then nmG g else Dm (nmG g) red) (soa||decide (nmG g=o))
  else none
theorem Cv9 (o:List UInt8):∀(gs:List (List Rec)) (cut red:List UInt8) (soa:Bool),nr o gs cut red soa=decide (Am0 o gs cut red soa=some true)
 |[],_,_,soa=>by simp [nr,Am0]
 |g::gs,cut,red,soa=>by
  simp only [nr,Am0];split
  ·exact Cv9 o gs _ _ _
  ·simp
def In0:Option Bool→Out
 |some b=> .yld 0 [.b b]
 |none=> .ret [.i .i64 13]
section
variable (z:Zone) (g:List Rec) (gs:List (List Rec)) (x:Rec) (N:Nat) (i:Nat) (cut red:List UInt8) (soa:Bool)
theorem Jn4 (hi:gs[i]? =some g) (hx:g[0]? =some x) (hxl:x.name.length≤9223372036854775807) (hcl:cut.length≤9223372036854775807) (p1 p2 p3 p4 p5:PV):
  ∃p11,Ts.ev S N [z.pv,p1,p2,p3,p4,p5,Gw gs, .s cut, .s red, .b soa, .i .i64 (i:Int)]=Tt.ev S N [z.pv,p1,p2,p3,p4,p5,Gw gs, .s cut, .s red, .b soa, .i .i64 (i:Int),p11, .s (Dm x.name cut)]:=by
 have x17:=By Ts.eq_1;have x16:=By o0.eq_1;have x0:=By Dd1.eq_1;have hu:=F7 x.name cut hxl hcl;have ei:(i:Int).toNat=i:=by omega
 by_cases h1:cut=[]
 ·refine ⟨.u,?_⟩;have e:Dm x.name cut=cut:=by unfold Dm;simp [h1]
  rw [e];replace h1:=eq_true h1;simp (disch:=omega) only [x17,x16,x0,h1,hi,hx,ei,Ep,EVC,xe,EVP,EV,simprocAttr]
 ·rcases Aq (under x.name cut) with h2|h2<;>rw [h2] at hu
  ·refine ⟨.b true,?_⟩;have e:Dm x.name cut=cut:=by unfold Dm;simp [h2]
   rw [e];simp (disch:=omega) only [x17,x16,x0,h1,hu,hi,hx,ei,Ep,EVC,xe,EVP,EV,simprocAttr]
  ·refine ⟨.b false,?_⟩;have e:Dm x.name cut=[]:=by unfold Dm;simp [h1,h2]
   rw [e];simp (disch:=omega) only [x17,x16,x0,h1,hu,hi,hx,ei,Ep,EVC,xe,EVP,EV,simprocAttr]
theorem Jn3 (hi:gs[i]? =some g) (hx:g[0]? =some x) (hxl:x.name.length≤9223372036854775807) (hrl:red.length≤9223372036854775807) (p1 p2 p3 p4 p5 p11 p12:PV):
  ∃p13,Tt.ev S N [z.pv,p1,p2,p3,p4,p5,Gw gs, .s cut, .s red, .b soa, .i .i64 (i:Int),p11,p12]=Y9.ev S N [z.pv,p1,p2,p3,p4,p5,Gw gs, .s cut, .s red, .b soa, .i .i64 (i:Int),p11,p12,p13, .s (Dm x.name red)]:=by
 have x15:=By Tt.eq_1;have x14:=By o4.eq_1;have x1:=By Dq4.eq_1;have hu:=F7 x.name red hxl hrl;have ei:(i:Int).toNat=i:=by omega
 by_cases h1:red=[]
 ·refine ⟨.u,?_⟩;have e:Dm x.name red=red:=by unfold Dm;simp [h1]
  rw [e];replace h1:=eq_true h1;simp (disch:=omega) only [x15,x14,x1,h1,hi,hx,ei,Ep,EVC,xe,EVP,EV,simprocAttr]
 ·rcases Aq (under x.name red) with h2|h2<;>rw [h2] at hu
  ·refine ⟨.b true,?_⟩;have e:Dm x.name red=red:=by unfold Dm;simp [h2]
   rw [e];simp (disch:=omega) only [x15,x14,x1,h1,hu,hi,hx,ei,Ep,EVC,xe,EVP,EV,simprocAttr]
  ·refine ⟨.b false,?_⟩;have e:Dm x.name red=[]:=by unfold Dm;simp [h1,h2]
   rw [e];simp (disch:=omega) only [x15,x14,x1,h1,hu,hi,hx,ei,Ep,EVC,xe,EVP,EV,simprocAttr]
theorem Jn2 (hi:gs[i]? =some g) (hx:g[0]? =some x) (hnm:nmG g=x.name) (hg:g≠[]) (hl:g.length≤1000000) (hil:i≤1000000) (hxl:x.name.length≤9223372036854775807) (hzl:z.origin.length≤9223372036854775807) (cu re:List UInt8) (p1 p2 p3 p4 p5 p7 p8 p11 p13:PV):
  Y9.ev S N [z.pv,p1,p2,p3,p4,p5,Gw gs,p7,p8, .b soa, .i .i64 (i:Int),p11, .s cu,p13, .s re]=
   some (if propG z.origin g (decide (cu≠[])) (decide (re≠[]))=true then .yld 1 [.s (if cu=[]∧x.name≠z.origin∧F5 g 2=true then x.name else cu), .s (if F5 g 39=true then x.name else re), .b (soa||decide (x.name=z.origin)), .i .i64 ((i:Int)+1)] else .ret [.i .i64 13]):=by
 have hp:=Aw9 z.origin cu re g hg hl hzl (by rw [hnm];exact hxl);have k2:=J2 g 2 hl;have k39:=J2 g 39 hl;have ei:(i:Int).toNat=i:=by omega
 generalize propG z.origin g (decide (cu≠[])) (decide (re≠[]))=P at*;cases P
 ·simp (disch:=omega) only [Rr,hp,hi,hx,ei,Ep,EVC,xe,EVP,EV,simprocAttr]
  try simp
 ·by_cases h1:cu=[]
  ·by_cases h2:x.name=z.origin
   ·rcases Aq (F5 g 39) with h3|h3<;>rw [h3] at k39
    ·cases soa<;>(have h1':=eq_true h1;have h2':=eq_true h2;simp (disch:=omega) only [Rr,hp,hi,hx,ei,h1',h2',k39,Ep,EVC,xe,EVP,EV,simprocAttr];simp [h2,h3])
    ·cases soa<;>(have h1':=eq_true h1;have h2':=eq_true h2;simp (disch:=omega) only [Rr,hp,hi,hx,ei,h1',h2',k39,Ep,EVC,xe,EVP,EV,simprocAttr];simp [h2,h3])
   ·rcases Aq (F5 g 2) with h4|h4<;>rw [h4] at k2
    ·rcases Aq (F5 g 39) with h3|h3<;>rw [h3] at k39
     ·cases soa<;>(have h1':=eq_true h1;simp (disch:=omega) only [Rr,hp,hi,hx,ei,h1',h2,k2,k39,Ep,EVC,xe,EVP,EV,simprocAttr];simp [h1,h2,h3,h4])
     ·cases soa<;>(have h1':=eq_true h1;simp (disch:=omega) only [Rr,hp,hi,hx,ei,h1',h2,k2,k39,Ep,EVC,xe,EVP,EV,simprocAttr];simp [h1,h2,h3,h4])
    ·rcases Aq (F5 g 39) with h3|h3<;>rw [h3] at k39
     ·cases soa<;>(have h1':=eq_true h1;simp (disch:=omega) only [Rr,hp,hi,hx,ei,h1',h2,k2,k39,Ep,EVC,xe,EVP,EV,simprocAttr];simp [h2,h3,h4])
     ·cases soa<;>(have h1':=eq_true h1;simp (disch:=omega) only [Rr,hp,hi,hx,ei,h1',h2,k2,k39,Ep,EVC,xe,EVP,EV,simprocAttr];simp [h2,h3,h4])
  ·by_cases h2:x.name=z.origin
   ·rcases Aq (F5 g 39) with h3|h3<;>rw [h3] at k39
    ·cases soa<;>(have h2':=eq_true h2;simp (disch:=omega) only [Rr,hp,hi,hx,ei,h1,h2',k39,Ep,EVC,xe,EVP,EV,simprocAttr];simp [h1,h2,h3])
    ·cases soa<;>(have h2':=eq_true h2;simp (disch:=omega) only [Rr,hp,hi,hx,ei,h1,h2',k39,Ep,EVC,xe,EVP,EV,simprocAttr];simp [h1,h2,h3])
   ·rcases Aq (F5 g 39) with h3|h3<;>rw [h3] at k39
    ·cases soa<;>(simp (disch:=omega) only [Rr,hp,hi,hx,ei,h1,h2,k39,Ep,EVC,xe,EVP,EV,simprocAttr];simp [h1,h2,h3])
    ·cases soa<;>(simp (disch:=omega) only [Rr,hp,hi,hx,ei,h1,h2,k39,Ep,EVC,xe,EVP,EV,simprocAttr];simp [h1,h2,h3])
end
theorem yz:∀(n:Nat) (l:List Rec),l.length≤n→(∀g∈grp l,g≠[]∧∀x∈g,x∈l)∧(grp l).length≤l.length
 |_,[],_=>by simp [grp,Ug]
 |0,x::r,hn=>by simp at hn
 |n+1,x::r,hn=>by
  obtain ⟨g,l',h1,h2,h3,h4,h5⟩:=Rw x r;have hlen:=congrArg List.length h1;have hg0:0<g.length:=Bw.2 h2;simp only [Ay,As] at hlen hn;obtain ⟨i1,i2⟩:=yz n l' (by omega);rw [h5];refine ⟨fun g' hg'=> ?_,by simp;omega⟩;rcases Am.1 hg' with rfl|hg'
  ·exact ⟨h2,fun w hw=>by rw [h1];exact Cc _ hw⟩
  ·obtain ⟨j1,j2⟩:=i1 g' hg';exact ⟨j1,fun w hw=>by rw [h1];exact Br _ (j2 w hw)⟩
theorem Bt8 (p:Prop) [Decidable p] (a b:List UInt8) (ha:a.length≤9223372036854775807) (hb:b.length≤9223372036854775807):(if p then a else b).length≤9223372036854775807:=by split<;>assumption
theorem Jl3 (z:Zone) (hz:z.wf) (hl:z.recs.length≤1000000) (N:Nat) (hN:z.recs.length+1<N) (p1 p2 p3 p4 p5:PV):
  Fq9.ev S N [z.pv,p1,p2,p3,p4,p5,Gw (grp z.recs)]=some (In0 (Am0 z.origin (grp z.recs) [] [] false)):=by
 obtain ⟨gf1,gf2⟩:=yz z.recs.length z.recs (Af _);have hgl:∀g∈grp z.recs,g.length≤1000000:=fun g hg=>by
  have:∀(n:Nat) (l:List Rec),l.length≤n→∀g∈grp l,g.length≤l.length:=by
   intro n
   induction n with
   |zero=>intro l hl g hg;cases l with
    |nil=>simp [grp,Ug] at hg
    |cons x r=>simp at hl
   |succ n ih=>
    intro l hl g hg;cases l with
    |nil=>simp [grp,Ug] at hg
    |cons x r=>
     obtain ⟨g0,l',h1,h2,h3,h4,h5⟩:=Rw x r;have hlen:=congrArg List.length h1;have hg0:0<g0.length:=Bw.2 h2;simp only [Ay,As] at hlen hl;rw [h5] at hg;rcases Am.1 hg with rfl|hg
     ·simp only [As];omega
     ·have:=ih l' (by omega) g hg;simp only [As];omega
  exact C6 (this _ _ (Af _) g hg) hl
 generalize grp z.recs=gs at*;have:=Fx (fn:=S) (N:=N) (η:=[z.pv,p1,p2,p3,p4,p5,Gw gs]) (id:=1) (init:=[.c (.s []), .c (.s []), .c (.b false), .c (.i .i64 0)]) (body:=Wh) gs (fun i (a:List UInt8×List UInt8×Bool)=>[.s a.1, .s a.2.1, .b a.2.2, .i .i64 (i:Int)]) (fun i a r=>In0 (Am0 z.origin r a.1 a.2.1 a.2.2)) (fun i a=>a.1.length≤9223372036854775807∧a.2.1.length≤9223372036854775807) ([],[],false) ?_ (by simp) (by omega) (fun i a g r hd hi hc hI=> ?_) (fun a hI=> ?_)
 ·exact this
 ·simp (disch:=omega) only [EVC,xe,EVP,EV,simprocAttr]
  try rfl
 ·obtain ⟨cut,red,soa⟩:=a;obtain ⟨hI1,hI2⟩:=hI;simp only at hI1 hI2 ⊢;have hgm:=Bv hc;obtain ⟨hg,hgz⟩:=gf1 g hgm;obtain ⟨x,hx,hxm⟩:∃x,g[0]? =some x∧x∈g:=by
   cases g with
   |nil=>exact absurd rfl hg
   |cons x r=>exact ⟨x,rfl, .head _⟩
  have hnm:nmG g=x.name:=by
   cases g with
   |nil=>exact absurd rfl hg
   |cons y r=>simp at hx;rw [←hx];rfl
  have hxl:x.name.length≤9223372036854775807:=(hz.recs.2 x (hgz x hxm)).name;have hzl:z.origin.length≤9223372036854775807:=hz.origin;obtain ⟨p11,kA⟩:=Jn4 z g gs x N i cut red soa hc hx hxl hI1 p1 p2 p3 p4 p5;have hku:(Dm x.name cut).length≤9223372036854775807:=by unfold Dm;split<;>simp [hI1]
  have hkr:(Dm x.name red).length≤9223372036854775807:=by unfold Dm;split<;>simp [hI2]
  obtain ⟨p13,kB⟩:=Jn3 z g gs x N i cut red soa hc hx hxl hI2 p1 p2 p3 p4 p5 p11 (.s (Dm x.name cut));have kC:=Jn2 z g gs x N i soa hc hx hnm hg (hgl g hgm) (by omega) hxl hzl (Dm x.name cut) (Dm x.name red) p1 p2 p3 p4 p5 (.s cut) (.s red) p11 p13;have kall:=kA.trans (kB.trans kC);have hlt:(i:Int)<(gs.length:Int):=by omega
  have hb:Wh.ev S N [z.pv,p1,p2,p3,p4,p5,Gw gs, .s cut, .s red, .b soa, .i .i64 (i:Int)]=Ts.ev S N [z.pv,p1,p2,p3,p4,p5,Gw gs, .s cut, .s red, .b soa, .i .i64 (i:Int)]:=by have xb:=By Wh.eq_1;simp (disch:=omega) only [xb,hlt,Ow,EVC,xe,EVP,EV,simprocAttr]
  have hb2:=hb.trans kall;have estep:Am0 z.origin (g::r) cut red soa=if propG z.origin g (decide (Dm x.name cut≠[])) (decide (Dm x.name red≠[]))=true then Am0 z.origin r (if Dm x.name cut=[]∧x.name≠z.origin∧F5 g 2=true then x.name else Dm x.name cut) (if F5 g 39=true then x.name else Dm x.name red) (soa||decide (x.name=z.origin)) else none:=by simp only [Am0,hnm]
  by_cases hP:propG z.origin g (decide (Dm x.name cut≠[])) (decide (Dm x.name red≠[]))=true
  ·left;rw [if_pos hP] at hb2 estep;refine ⟨(if Dm x.name cut=[]∧x.name≠z.origin∧F5 g 2=true then x.name else Dm x.name cut,if F5 g 39=true then x.name else Dm x.name red,soa||decide (x.name=z.origin)),hb2,⟨?_,?_⟩,?_⟩
   ·exact Bt8 _ _ _ hxl hku
   ·exact Bt8 _ _ _ hxl hkr
   ·rw [estep]
  ·right;rw [if_neg hP] at hb2 estep;rw [estep];exact ⟨hb2,rfl⟩
 ·have hlt:¬(gs.length:Int)<(gs.length:Int):=by omega
  have xb:=By Wh.eq_1;refine ⟨?_,rfl⟩;simp (disch:=omega) only [xb,hlt,Ow,EVC,xe,EVP,EV,simprocAttr];rfl
theorem qn (z:Zone) (hz:z.wf):Wz z=if vld z.origin=false then 2 else if 2048<z.recs.length∨Qf z.recs=true then 9 else if z.recs.all Pj=false then 5 else if z.recs≠sortR z.recs then 7 else if Am0 z.origin (grp z.recs) [] [] false=some true then 0 else 13:=by
 unfold Wz;rcases Aq (vld z.origin) with h1|h1
 ·have n1:¬vld z.origin=false:=by simp [h1]
  rw [if_neg n1,if_neg n1];by_cases h2:2048<z.recs.length
  ·rw [if_pos h2,if_pos (.inl h2)]
  ·rw [if_neg h2];have hcr:=Al4 z.recs;rcases Aq (z.recs.all fun r=>decide ((findR z.recs r.name r.typ).length≤64)) with h3|h3
   ·rw [h3] at hcr;have hn2:¬(2048<z.recs.length∨Qf z.recs=true):=by
     rintro (q|q)
     ·exact h2 q
     ·rw [hcr] at q;cases q
    have n3:¬(z.recs.all fun r=>decide ((findR z.recs r.name r.typ).length≤64))=false:=by simp only [h3];simp
    rw [if_neg n3,if_neg hn2];rcases Aq (z.recs.all Pj) with h4|h4
    ·have n4:¬z.recs.all Pj=false:=by simp only [h4];simp
     rw [if_neg n4,if_neg n4];by_cases h5:z.recs=sortR z.recs
     ·have n5:¬z.recs≠sortR z.recs:=by simpa using h5
      rw [if_neg n5,if_neg n5];have hv:∀r∈z.recs,Pj r=true:=Bd.1 h4;have hr:z.recs.Pairwise ltR:=by rw [h5];exact (P9 z.recs hv).1
      have hk:=zw z (fun r h=>Z9 (hv r h)) (Bv0 hr) z.recs.length [] z.recs [] [] false (Af _) rfl (by simp) ⟨by simp,by simp,by simp,by simp⟩;rw [Cv9,decide_eq_true_eq] at hk;have hk2:=Bw6 z hv hr;have hk3:Am0 z.origin (grp z.recs) [] [] false=some true↔(findR z.recs z.origin 6).length=1∧f5 z.recs z.origin 2=true∧∀r∈z.recs,Sg z r=true:=by rw [hk,←hk2];simp
      by_cases h6:Am0 z.origin (grp z.recs) [] [] false=some true
      ·obtain ⟨a,b,c⟩:=hk3.1 h6;have c':z.recs.all (Sg z)=true:=Bd.2 c;have n7:¬((findR z.recs z.origin 6).length≠1∨f5 z.recs z.origin 2=false):=by simp [a,b]
       have n8:¬z.recs.all (Sg z)=false:=by simp only [c'];simp
       rw [if_pos h6,if_neg n7,if_neg n8]
      ·rw [if_neg h6];by_cases h7:(findR z.recs z.origin 6).length≠1∨f5 z.recs z.origin 2=false
       ·rw [if_pos h7]
       ·rw [if_neg h7];by_cases h8:z.recs.all (Sg z)=false
        ·rw [if_pos h8]
        ·exfalso;simp only [not_or,ne_eq,I4,Fh] at h7 h8;exact h6 (hk3.2 ⟨h7.1,h7.2,Bd.1 h8⟩)
     ·rw [if_pos h5,if_pos h5]
    ·rw [if_pos h4,if_pos h4]
   ·rw [h3] at hcr;rw [if_pos h3,if_pos (.inr hcr)]
 ·rw [if_pos h1,if_pos h1]
theorem Dp8 (z:Zone) (hz:z.wf) (hl:z.recs.length≤1000000):S Bm6 1 [z.pv]=some [.i .i64 (Wz z)]:=by
 obtain ⟨N,hN⟩:∃N,N=z.recs.length+2:=⟨_,rfl⟩;refine Jw7 (N:=N) rfl ?_;rw [qn z hz];have hzl:z.origin.length≤9223372036854775807:=hz.origin;have k1:=B4 z.origin hzl;have k2:=Al3 z.recs hl;have k3:=H6 z.recs Bl1 [] (fun r=> !Pj r) hl (fun r hr=>by refine Jv0 (N:=1) rfl ?_;have:=Dn8 r (hz.recs.2 r hr);simp (disch:=omega) only [Ir3,this,EVC,xe,EVP,EV,simprocAttr])
 have e3:(z.recs.any fun r=> !Pj r)= !z.recs.all Pj:=by rw [List.not_all_eq_any_not]
 rw [e3] at k3;have k4:=Er0 z.recs hz.recs.2 hl;have hsl:(sortR z.recs).length≤1000000:=by obtain ⟨r,h1,h2,_⟩:=Ot Ih9 (by rw [Eg0];exact Im8) z.recs hz.recs.2 hl;rw [Eg0] at h1;have:=Ys eqF r;rw [wx h1] at this;omega
 have k5:=Dp5 z.recs (sortR z.recs) hl hsl;have k6:=Cj9 z.recs hl;have k7:=fun p1 p2 p3 p4 p5=>Jl3 z hz hl N (by omega) p1 p2 p3 p4 p5;have xt:=By Bj2.eq_1;have x28:=By oq.eq_1;have x27:=By ov.eq_1;have x26:=By ow.eq_1;have x25:=By ox.eq_1;have x24:=By oy.eq_1;have x23:=By oz.eq_1;have x22:=By ob.eq_1;have x21:=By oc.eq_1;have x20:=By od.eq_1;have x19:=By og.eq_1;have x18:=By ol.eq_1;rcases Aq (vld z.origin) with h1|h1
 ·have n1:¬vld z.origin=false:=by simp [h1]
  rw [if_neg n1];rw [h1] at k1;by_cases h2:2048<z.recs.length
  ·rw [if_pos (.inl h2)];have h2':(2048:Int)<(z.recs.length:Int):=by omega
   simp (disch:=omega) only [xt,x28,x27,x26,k1,h2',EVC,xe,EVP,EV,simprocAttr]
  ·have h2':¬(2048:Int)<(z.recs.length:Int):=by omega
   rcases Aq (Qf z.recs) with h3|h3<;>rw [h3] at k2
   ·rw [if_pos (.inr h3)];simp (disch:=omega) only [xt,x28,x27,x26,k1,k2,h2',EVC,xe,EVP,EV,simprocAttr]
   ·have n2:¬(2048<z.recs.length∨Qf z.recs=true):=by simp only [h2,h3];simp
    rw [if_neg n2];rcases Aq (z.recs.all Pj) with h4|h4<;>rw [h4] at k3
    ·have n4:¬z.recs.all Pj=false:=by simp only [h4];simp
     rw [if_neg n4];by_cases h5:z.recs=sortR z.recs
     ·have n5:¬z.recs≠sortR z.recs:=by simpa using h5
      rw [if_neg n5];have e5:decide (z.recs=sortR z.recs)=true:=decide_eq_true h5;rw [e5] at k5;clear h5 e5;generalize sortR z.recs=sr at*;cases h6:Am0 z.origin (grp z.recs) [] [] false with
      |none=>
       rw [h6] at k7;simp only [In0] at k7;generalize grp z.recs=gs at*;rw [if_neg (by simp)];simp (disch:=omega) only [xt,x28,x27,x26,x25,x24,x23,x22,x21,x20,x19,x18,k1,k2,h2',k3,k4,k5,k6,k7,Ow,EVC,xe,EVP,EV,simprocAttr]
      |some b=>
       rw [h6] at k7;simp only [In0] at k7;generalize grp z.recs=gs at*;cases b
       ·rw [if_neg (by simp)];simp (disch:=omega) only [xt,x28,x27,x26,x25,x24,x23,x22,x21,x20,x19,x18,k1,k2,h2',k3,k4,k5,k6,k7,Ow,EVC,xe,EVP,EV,simprocAttr]
       ·rw [if_pos rfl];simp (disch:=omega) only [xt,x28,x27,x26,x25,x24,x23,x22,x21,x20,x19,x18,k1,k2,h2',k3,k4,k5,k6,k7,Ow,EVC,xe,EVP,EV,simprocAttr]
     ·rw [if_pos h5];have e5:decide (z.recs=sortR z.recs)=false:=decide_eq_false h5;rw [e5] at k5;clear h5 e5;generalize sortR z.recs=sr at*;simp (disch:=omega) only [xt,x28,x27,x26,x25,x24,x23,x22,x21,k1,k2,h2',k3,k4,k5,EVC,xe,EVP,EV,simprocAttr]
    ·rw [if_pos h4];simp (disch:=omega) only [xt,x28,x27,x26,x25,x24,k1,k2,h2',k3,EVC,xe,EVP,EV,simprocAttr]
     try simp
 ·rw [if_pos h1];rw [h1] at k1;simp (disch:=omega) only [xt,x28,k1,EVC,xe,EVP,EV,simprocAttr]
end Go.X.G
/- The laws LookupTrue and LookupNothing. -/
namespace Go.X.G
open Go Go.X
end Go.X.G
/- The law LookupResponds. -/
namespace Go.X.G
open Go Go.X
theorem U7 (z:Zone) (m:Msg) (hz:z.wf) (hl:z.recs.length≤60) (hq:m.q.name.length≤9223372036854775807):S Ag3 2 [z.pv,m.pv]=some [(respondM z m).pv]:=by
 refine Jw9 (N:=1000) rfl ?_;have k1:=Bv3 m;unfold respondM;by_cases h1:m.op=0
 ·by_cases h2:m.q.typ=251
  ·rw [if_pos (.inr (.inl h2))];have k1:=k1 4;generalize replyM m 4=o at*;simp (disch:=omega) only [Kr,h1,h2,k1,EVM,EVC,EVR,O6,xe,EVP,EV,simprocAttr]
  ·by_cases h3:m.q.typ=252
   ·rw [if_pos (.inr (.inr h3))];have k1:=k1 4;generalize replyM m 4=o at*;simp (disch:=omega) only [Kr,h1,h3,k1,EVM,EVC,EVR,O6,xe,EVP,EV,simprocAttr]
   ·rw [if_neg (by simp [h1,h2,h3])];have k2:=En1 z m.q hz (by omega) hq;have hrs:=zx z m.q hl;have hwf:=Cw1 z m.q hz hq;have hne:=Cw2 z m.q;generalize chaseM z m.q=cm at*;obtain ⟨l,ok⟩:=cm;simp only at k2 hrs hwf hne ⊢;have hlen:=hrs.len;obtain ⟨r,rest,hr⟩:=List.exists_cons_of_ne_nil hne;have hr0:l[0]? =some r:=by rw [hr];rfl
    obtain ⟨last,hla⟩:∃x,l.getLast? =some x:=⟨_,List.getLast?_eq_some_getLast hne⟩;have hlm:last∈l:=List.mem_of_getLast? hla;have hli:=Eg2 l hne hlen;rw [hla,A3] at hli;have hi0:Gt 5 (Gf l) (.i .i64 0)=some r.pv:=by rw [Yj _ _ _ (by omega)];simp [hr0]
    unfold Ey8;rw [hr0,hla];simp only;by_cases h4:r.kind=0
    ·rw [if_pos h4];have k1:=k1 5;generalize replyM m 5=o at*;simp (disch:=omega) only [Kr,h1,h2,h3,k1,k2,hi0,h4,EVM,EVC,EVR,O6,xe,EVP,EV,simprocAttr]
    ·rw [if_neg h4];cases ok with
     |false=>
      rw [if_pos rfl];have k1:=k1 2;generalize replyM m 2=o at*;simp (disch:=omega) only [Kr,h1,h2,h3,k1,k2,hi0,h4,EVM,EVC,EVR,O6,xe,EVP,EV,simprocAttr]
     |true=>
      rw [if_neg (by simp)];have k1:=k1 0;have k3:=fun p3 p4=>Gd0 z m l p3 p4 .u hrs;have k4:=Cj5 last.recs (by have:=hrs.recs last hlm;omega);have hhl:=Mq last.recs [];have hhw:=M9 last.recs [] (hwf last hlm) (by simp);have hrl:=hrs.recs last hlm;rw [A9] at hhl;have k5:=Ds1 z (hostsF [] last.recs) hz hl (by omega) hhw;have k6:=Zx z (hostsF [] last.recs) hl (by omega);have k7:=Dp0 z (by omega);unfold Id6;generalize replyM m 0=o at*;generalize ansF m.q.name [] l=an at*;generalize (hostsF [] last.recs).flatMap (An7 z)=gl at*;generalize (hostsF [] last.recs).flatMap (An0 z)=ad at*;generalize hostsF [] last.recs=ho at*;generalize soaR z=so at*;by_cases e4:last.kind=4
      ·simp only [e4,if_true];simp (disch:=omega) only [Kr,h1,h2,h3,k1,k2,k3,k4,k5,hi0,hli,h4,e4,EVM,EVC,EVR,O6,xe,EVP,EV,simprocAttr]
      ·by_cases e5:last.kind=5
       ·simp only [e5,if_true,show¬(5:Int)=4 by omega,if_false];simp (disch:=omega) only [Kr,h1,h2,h3,k1,k2,k3,k7,hi0,hli,h4,e5,EVM,EVC,EVR,O6,xe,EVP,EV,simprocAttr]
       ·by_cases e6:last.kind=6
        ·simp only [e6,if_true,show¬(6:Int)=4 by omega,show¬(6:Int)=5 by omega,if_false];simp (disch:=omega) only [Kr,h1,h2,h3,k1,k2,k3,k7,hi0,hli,h4,e6,EVM,EVC,EVR,O6,xe,EVP,EV,simprocAttr]
        ·by_cases e1:last.kind=1
         ·simp only [e1,if_true,show¬(1:Int)=4 by omega,show¬(1:Int)=5 by omega,show¬(1:Int)=6 by omega,if_false];simp (disch:=omega) only [Kr,h1,h2,h3,k1,k2,k3,k4,k6,hi0,hli,h4,e1,EVM,EVC,EVR,O6,xe,EVP,EV,simprocAttr]
         ·by_cases e3:last.kind=3
          ·by_cases et:last.target=[]
           ·simp only [e3,et,if_true,show¬(3:Int)=4 by omega,show¬(3:Int)=5 by omega,show¬(3:Int)=6 by omega,show¬(3:Int)=1 by omega,if_false,and_self];simp (disch:=omega) only [Kr,h1,h2,h3,k1,k2,k3,hi0,hli,h4,e3,et,EVM,EVC,EVR,O6,xe,EVP,EV,simprocAttr]
           ·simp only [e3,et,show¬(3:Int)=4 by omega,show¬(3:Int)=5 by omega,show¬(3:Int)=6 by omega,show¬(3:Int)=1 by omega,if_false,and_false];simp (disch:=omega) only [Kr,h1,h2,h3,k1,k2,k3,hi0,hli,h4,e3,et,EVM,EVC,EVR,O6,xe,EVP,EV,simprocAttr]
          ·simp only [e1,e3,e4,e5,e6,if_false,false_and];simp (disch:=omega) only [Kr,h1,h2,h3,k1,k2,k3,hi0,hli,h4,e1,e3,e4,e5,e6,EVM,EVC,EVR,O6,xe,EVP,EV,simprocAttr]
 ·rw [if_pos (.inl h1)];have k1:=k1 4;generalize replyM m 4=o at*;simp (disch:=omega) only [Kr,h1,k1,EVM,EVC,EVR,O6,xe,EVP,EV,simprocAttr]
end Go.X.G
/- The law LookupResponds: the row's own part. -/
namespace Go.X.G
open Go Go.X
theorem Yy (f:List UInt8→List Rec) (k:Nat) (h:∀x,(f x).length≤k):∀l:List (List UInt8),(l.flatMap f).length≤k*l.length
 |[]=>by simp
 |x::r=>by have h1:=Yy f k h r;have h2:=h x;rw [G1,Ay,As,Nat.mul_add];omega
theorem kz (z:Zone) (m:Msg) (hl:z.recs.length≤60):(respondM z m).ans.length≤1000000∧(respondM z m).auth.length≤1000000∧(respondM z m).ext.length≤1000000:=by
 unfold respondM;split
 ·simp [replyM]
 ·have hrs:=zx z m.q hl;generalize (chaseM z m.q).1=l at*;generalize (chaseM z m.q).2=ok at*;unfold Ey8;split
  ·rename_i r last h0 h1;split
   ·simp [replyM]
   ·split
    ·simp [replyM]
    ·have ha:=Av9 l m.q.name [] hrs.recs;have hn:=hrs.len;have hlr:=hrs.recs last (List.mem_of_getLast? h1);have hh:=Mq last.recs [];have hs:=Ex7 z;have hg:=Yy (An7 z) 120 (fun x=>by have:=Eh4 z x;omega) (hostsF [] last.recs);have hd:=Yy (An0 z) 120 (fun x=>by have:=Aw5 z x;omega) (hostsF [] last.recs);rw [A9] at ha hh;unfold Id6;generalize ansF m.q.name [] l=an at*;generalize (hostsF [] last.recs).flatMap (An7 z)=gl at*;generalize (hostsF [] last.recs).flatMap (An0 z)=ad at*;split
     ·refine ⟨?_,?_,?_⟩<;>simp only [replyM,A9]<;>omega
     ·split
      ·refine ⟨?_,?_,?_⟩<;>simp only [replyM,A9]<;>omega
      ·split
       ·refine ⟨?_,?_,?_⟩<;>simp only [replyM,A9]<;>omega
       ·split
        ·refine ⟨?_,?_,?_⟩<;>simp only [replyM,A9]<;>omega
        ·split
         ·refine ⟨?_,?_,?_⟩<;>simp only [replyM,A9]<;>omega
         ·refine ⟨?_,?_,?_⟩<;>simp only [replyM,A9]<;>omega
  ·simp [replyM]
end Go.X.G
/- The law LookupNegative. -/
namespace Go.X.G
open Go Go.X
def Gx5:Msg:=⟨0,0,0,false,false,false,false,false,false,false,false,0,⟨[120,46],15⟩,[],[],[]⟩
theorem Ep5:(respondM sample11 Gx5).resp=true∧∃r,(respondM sample11 Gx5).auth=[r]∧r.typ=6:=by refine ⟨by kernel_rfl,⟨[120,46],6,5,{zero with host:=[110,46,120,46],mail:=[109,46,120,46],e:=5}⟩,by kernel_rfl,rfl⟩
theorem law_LookupNegative (z:Zone) (q:Ques) (hz:z.wf) (hq:q.wf):S Iq2 2 [z.pv,q.pv]=some [.b true]:=by
 refine Jm8 (N:=1) rfl ?_;have s1:=Bq6;have w1:=U7 sample11 Gx5 kv (by decide) (by decide);obtain ⟨w2,r0,w3,w4⟩:=Ep5;have hawm:Gx5.pv=Gx5.pv:=rfl;have hqn:q.name.length≤9223372036854775807:=hq.name;have w3l:((respondM sample11 Gx5).auth.length:Int)=1:=by rw [w3];rfl
 have w3g:(respondM sample11 Gx5).auth[0]? =some r0:=by rw [w3];rfl
 unfold Gx5 at w1 w2 w3l w3g;generalize respondM sample11 ⟨0,0,0,false,false,false,false,false,false,false,false,0,⟨[120,46],15⟩,[],[],[]⟩=x0 at*;generalize sample11=sm at*;by_cases h3:z.recs.length≤60
 ·have k2:=Dp8 z hz (by omega);have h3':¬(60:Int)<(z.recs.length:Int):=by omega
  by_cases h4:q.name.length≤300
  ·have h4':¬(300:Int)<(q.name.length:Int):=by omega
   by_cases h5:Wz z=0
   ·have ho:=Cw0 h5;have k3:=U7 z ⟨0,0,0,false,false,false,false,false,false,false,false,0,q,[],[],[]⟩ hz h3 hqn;have hn:=Ed3 z ⟨0,0,0,false,false,false,false,false,false,false,false,0,q,[],[],[]⟩ ho;have hrl:=kz z ⟨0,0,0,false,false,false,false,false,false,false,false,0,q,[],[],[]⟩ h3;have k4:=Dp0 z (by omega);rw [h5] at k2;generalize respondM z ⟨0,0,0,false,false,false,false,false,false,false,false,0,q,[],[],[]⟩=x at*;have kr:∀l,x.auth=l→S ln 2 [Ag x.auth,Ag l]=some [.b true]:=fun l h=>by rw [Ay6 _ _ hrl.2.1,h];simp
    have st:En3.ev S 1 [z.pv,q.pv,sm.pv,x0.pv, .i .i64 0,x.pv]=some (.ret [.b true]):=by
     by_cases c3:x.code=3
     ·obtain ⟨b1,b2,b3⟩:=hn.nx c3;have k5:=kr _ b3;simp (disch:=omega) only [Ds6,c3,b1,b2,k4,k5,EVM,EVC,EVR,xe,EVP,EV,simprocAttr]
      try simp
     ·by_cases c0:x.code=0
      ·by_cases ca:x.ans=[]
       ·rcases Aq x.aa with cb|cb
        ·obtain ⟨b2,b3⟩:=hn.aa c0 ca cb;have k5:=kr _ b2;simp (disch:=omega) only [Ds6,c3,c0,ca,cb,b3,k4,k5,EVM,EVC,EVR,xe,EVP,EV,simprocAttr]
         try simp
        ·obtain ⟨r,l,b2,b3⟩:=hn.ref c0 ca cb;have hg:x.auth[0]? =some r:=by rw [b2];rfl
         have hpos:(0:Int)<(x.auth.length:Int):=by rw [b2];simp only [As];omega
         simp (disch:=omega) only [Ds6,c3,c0,ca,cb,hg,b3,hpos,EVM,EVC,EVR,xe,EVP,EV,simprocAttr]
         try simp
       ·have hpos:(0:Int)<(x.ans.length:Int):=by have:=Bw.2 ca;omega
        simp (disch:=omega) only [Ds6,c3,c0,hpos,EVM,EVC,EVR,xe,EVP,EV,simprocAttr]
      ·simp (disch:=omega) only [Ds6,c3,c0,EVM,EVC,EVR,xe,EVP,EV,simprocAttr]
    generalize hC:En3=C9 at st;simp (disch:=omega) only [Ds6,hC,s1,w1,w2,w3l,w3g,w4,k2,k3,h3',h4',st,EVM,EVC,EVR,xe,EVP,EV,simprocAttr]
   ·simp (disch:=omega) only [Ds6,s1,w1,w2,w3l,w3g,w4,k2,h3',h4',h5,EVM,EVC,EVR,xe,EVP,EV,simprocAttr]
  ·have h4':(300:Int)<(q.name.length:Int):=by omega
   simp (disch:=omega) only [Ds6,s1,w1,w2,w3l,w3g,w4,h3',h4',EVM,EVC,EVR,xe,EVP,EV,simprocAttr]
 ·have h3':(60:Int)<(z.recs.length:Int):=by omega
  simp (disch:=omega) only [Ds6,s1,w1,w2,w3l,w3g,w4,h3',EVM,EVC,EVR,xe,EVP,EV,simprocAttr]
end Go.X.G
