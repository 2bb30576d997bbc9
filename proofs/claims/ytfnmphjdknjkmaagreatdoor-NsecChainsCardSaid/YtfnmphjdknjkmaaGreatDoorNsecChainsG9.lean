/- Names: what the reference's functions give. -/
import Derived.Test.YtfnmphjdknjkmaaGreatDoorNsecChainsG7
import Derived.Test.YtfnmphjdknjkmaaGreatDoorNsecChainsG8
open Bool renaming eq_false_or_eq_true→Bl,and_eq_true→Br,or_eq_true→Cy,not_eq_true'→Cg,eq_iff_iff→D9,eq_false_iff→R6,and_true→Uk
open Int renaming toNat_natCast→F0
open List renaming getElem?_eq_some_iff→Bp,getElem?_eq_getElem→Bs,length_append→B3,mem_cons→Cj,mem_of_getElem?→Ck,length_cons→Cv,append_assoc→Cw,length_pos_iff→Cl,length_nil→C3,getD_eq_getElem?_getD→C6,take_append_drop→C9,drop_eq_getElem_cons→Dy,nil_append→Dc,cons_append→Dd,take_add_one→Df,getElem?_cons_zero→Dh,drop_drop→D5,length_map→D8,take_length→Es,drop_zero→Fx,isSuffixOf_iff_suffix→G6,drop_eq_nil_of_le→Hz,mem_cons_self→If,flatMap_cons→Jv,cons_prefix_cons→J7,drop_append_of_le_length→Lq,getLast_eq_getElem→Lt,append_cancel_right→T9,take_succ_cons→Gy1,reverse_prefix→Gy2,count_eq_zero→Jk6
open Nat renaming le_refl→B7,zero_le→Db,mod_eq_of_lt→Fq,one_mul→Gh
open Option renaming map_eq_some_iff→Bt,map_some→Cf
open Option.some renaming injEq→Bn
set_option maxHeartbeats 1000000
set_option linter.defProp false
set_option linter.unusedVariables false
set_option linter.unusedSimpArgs false
namespace Go.X.G
open Go Go.X
def Aj:=And.intro xe<|And.intro EVP EV
def Tv (c:UInt8):Bool:=decide (97≤(c.toNat:Int)) && decide ((c.toNat:Int)≤122)||decide (48≤(c.toNat:Int)) && decide ((c.toNat:Int)≤57)||decide ((c.toNat:Int)=45)||decide ((c.toNat:Int)=95)
def Cb5 (c:UInt8):(decide (97≤(c.toNat:Int)) && decide ((c.toNat:Int)≤122)||decide (48≤(c.toNat:Int)) && decide ((c.toNat:Int)≤57)||decide ((c.toNat:Int)=45)||decide ((c.toNat:Int)=95))=Tv c:=rfl
def K4 (s:List UInt8):Bool:=decide (s=[42])||(decide (1≤s.length) && decide (s.length≤63) && s.all Tv)
def Cc0 (s:List UInt8) (N:Nat) (hN:s.length<N) (hs:s.length≤4294967296):
  Dt4.ev S N [.s s]=some (if s.all Tv=true then .yld 0 [] else .ret [.b false]):=by
 refine E2 s (fun i=>[.i .i64 (i:Int)]) (fun i r=>if r.all Tv=true then .yld 0 [] else .ret [.b false]) rfl hN (fun i c r hd hi hc=> ?_) ?_
 ·simp(disch:=omega)only[Cs2,xe,EV,simprocAttr,hc,Cb5];cases h:Tv c<;>simp[h,Out.goes]
 ·simp(disch:=omega) [Cs2,xe,EV,simprocAttr,Out.goes]
def Cb9 (s:List UInt8) (hs:s.length≤4294967296):S wq 1 [.s s]=some [.b (K4 s)]:=by
 refine Hp0 (N:=s.length+1) rfl ?_;simp(disch:=omega)only[Cs2,Cc0,xe,EV,simprocAttr];unfold K4
 grind
end Go.X.G
/- Names: what the reference's functions give. -/
namespace Go.X.G
open Go Go.X
def spl (first:Bool) (cur:List UInt8):List UInt8→Option (List (List UInt8))
 |[]=>some []
 |c::r=>if c=46 then(if K4 cur=true∧(cur=[42]→first=true) then(spl false [] r).map (cur::·) else none) else spl first (cur++[c]) r
def nm (n:List UInt8):Option (List (List UInt8)):=
 if n=[46] then some [] else if 2≤n.length∧n.length≤254∧n[n.length - 1]? =some 46 then spl true [] n else none
def lbl (n:List UInt8):List (List UInt8):=(nm n).getD []
def vld (n:List UInt8):Bool:=(nm n).isSome
def Gb7 {α:Type} (n:List α) (i j:Nat) (c:α) (h:n[i]? =some c) (hj:j≤i):(n.take (i+1)).drop j=(n.take i).drop j++[c]:=by have hi:i<n.length:=(Bp.1 h).1;rw[Df,h,Lq (by simp;omega)];rfl
def Gb8 {α:Type} (n:List α) (i:Nat):(n.take i).drop i=[]:=by rw[List.drop_eq_nil_iff];simp;omega
def dh (l:List (List UInt8)):Option (List (List UInt8))→Out
 |some ls=> .yld 0 [.l 1 ((l++ls).map .s)]
 |none=> .ret [.l 1 [],.b false]
def Fw4 (n:List UInt8) (N:Nat) (hN:n.length<N) (hs:n.length≤1000):
  Gj5.ev S N [.s n]=some (dh [] (spl true [] n)):=by
 refine Ed n (fun i (g:List (List UInt8)×Nat)=>[.l 1 (g.1.map .s),.i .i64 (g.2:Int),.i .i64 (i:Int)]) (fun i g r=>dh g.1 (spl (decide (g.2=0)) ((n.take i).drop g.2) r)) (fun i g=>g.1.length≤i∧g.2≤i) ([],0) rfl ⟨B7 _,B7 _⟩ hN (fun i g c r hd hi hc hI=> ?_) (fun g hI=> ?_)
 ·obtain⟨l,st⟩:=g;obtain⟨h1,h2⟩:=hI;simp only at h1 h2 ⊢;have hl:((n.take i).drop st).length≤4294967296:=by simp;omega
  have hm:(l.map PV.s).length=l.length:=D8 ..;have hd':=En7 c 46 (by omega);by_cases hdot:c=46
  ·have hdi:=hd'.2 hdot;simp(disch:=omega)only[pq,xe,EV,simprocAttr,hc,Cb9];simp only[spl,if_pos hdot];by_cases h:K4 ((n.take i).drop st)=true∧((n.take i).drop st=[42]→st=0)
   ·obtain⟨h3,h4⟩:=h;left;refine⟨(l++[(n.take i).drop st],i+1),?_,?_,?_⟩
    ·rw[if_neg (by simp only[h3];intro h;simp at h;have:=h4 h.1;omega)];simp
    ·simp;omega
    ·simp only[Gb8];rw[if_pos ⟨h3,by simpa using h4⟩];cases h9:spl false [] r<;>simp[h9,dh]
   ·right;have h':¬(K4 ((n.take i).drop st)=true∧((n.take i).drop st=[42]→decide (st=0)=true)):=by simpa using h
    rw[if_neg h'];refine⟨?_,rfl⟩;rw[if_pos]
    ·rfl
    ·cases h5:K4 ((n.take i).drop st)
     ·simp
     ·simp only[h5,true_and] at h;have ⟨h6,h7⟩:=Classical.not_imp.1 h;simp[h6];omega
  ·have hdi:¬(c.toNat:Int)=46:=fun h=>hdot (hd'.1 h);left;refine⟨(l,st),?_,?_,?_⟩
   ·simp(disch:=omega)only[pq,xe,EV,simprocAttr,hc]
   ·simp only;omega
   ·simp only[spl];rw[if_neg hdot,Gb7 n i st c hc h2]
 ·simp(disch:=omega) [pq,xe,EV,simprocAttr,Out.goes,spl,dh]
def split_ok (n:List UInt8) (hs:n.length≤9223372036854775807):S Rv 1 [.s n]=some [Cn (lbl n),.b (vld n)]:=by
 refine Jz7 (N:=n.length+1) rfl ?_;unfold Cn lbl vld nm;by_cases h1:n=[46]
 ·simp(disch:=omega) [pq,xe,EV,simprocAttr,h1]
 ·rw[if_neg h1];by_cases h2:n.length<2
  ·simp(disch:=omega)only[pq,xe,EV,simprocAttr,h1];have h3:¬(2≤n.length∧n.length≤254∧n[n.length - 1]? =some 46):=by omega
   rw[if_neg h3];rfl
  ·by_cases h3:254<n.length
   ·simp(disch:=omega)only[pq,xe,EV,simprocAttr,h1];have h3:¬(2≤n.length∧n.length≤254∧n[n.length - 1]? =some 46):=by omega
    rw[if_neg h3];rfl
   ·have h4:=Bs (l:=n) (i:=n.length - 1) (by omega);have h5:((n.length:Int) - 1).toNat=n.length - 1:=by omega
    have h6:=En7 (n[n.length - 1]'(by omega)) 46 (by omega);simp(disch:=omega)only[pq,xe,EV,simprocAttr,h1,h4,h5,Fw4];by_cases h7:n[n.length - 1]'(by omega)=46
    ·rw[if_pos (show 2≤n.length∧n.length≤254∧some (n[n.length - 1]'(by omega))=some 46 from⟨by omega,by omega,by rw[h7]⟩),if_neg (fun h=>h (h6.2 h7))];cases h8:spl true [] n
     ·simp[dh,Ef6]
     ·simp(disch:=omega) [pq,dh,xe,EV,simprocAttr]
    ·rw[if_neg (show¬(2≤n.length∧n.length≤254∧some (n[n.length - 1]'(by omega))=some 46) from fun h=>h7 (by simpa using h.2.2)),if_pos (show (((n[n.length - 1]'(by omega)).toNat:Int)≠46) from fun h=>h7 (h6.1 h))];rfl
end Go.X.G
/- Names: what the reference's functions give, ctd. -/
namespace Go.X.G
open Go Go.X
def Aw0:∀(r:List UInt8) (f:Bool) (cur:List UInt8) (l:List (List UInt8)),spl f cur r=some l→l.length≤r.length
 |[],f,cur,l,h=>by simp[spl] at h;simp[←h]
 |c::r,f,cur,l,h=>by
  simp only[spl] at h;split at h
  ·split at h
   ·obtain⟨m,hm,rfl⟩:=Bt.1 h;have:=Aw0 r _ _ _ hm;simp;omega
   ·cases h
  ·have:=Aw0 r _ _ _ h;simp;omega
def Iv4 {n:List UInt8} {l:List (List UInt8)} (h:nm n=some l):l.length≤254:=by
 unfold nm at h;split at h
 ·injection h with h;subst h;simp
 ·split at h
  ·rename_i h2;have:=Aw0 _ _ _ _ h;omega
  ·cases h
def Gl (n:List UInt8):(lbl n).length≤254:=by
 unfold lbl;cases h:nm n with
 |none=>simp
 |some l=>exact Iv4 h
def Gx (n:List UInt8) (hs:n.length≤9223372036854775807):S bf 1 [.s n]=some [.b (vld n)]:=by refine Jz1 (N:=1) rfl ?_;simp(disch:=omega)only[Jk9,split_ok,Aj,simprocAttr]
def J2 (n:List UInt8) (hs:n.length≤9223372036854775807):S bd 1 [.s n]=some [Cn (lbl n)]:=by refine Jz0 (N:=1) rfl ?_;simp(disch:=omega)only[Jk8,split_ok,Aj,simprocAttr]
def Vk {α:Type} [DecidableEq α]:List α→List α→Nat
 |x::xs,y::ys=>if x=y then Vk xs ys+1 else 0
 |_,_=>0
def Jz (a b:List (List UInt8)):Nat:=Vk a.reverse b.reverse
def Ex5 {α:Type} [DecidableEq α]:∀(a b:List α),Vk a b≤a.length∧Vk a b≤b.length
 |[],b=>by simp[Vk]
 |x::xs,[]=>by simp[Vk]
 |x::xs,y::ys=>by have:=Ex5 xs ys;simp only[Vk];split<;>simp<;>omega
def Bd8 (a b:List (List UInt8)):Jz a b≤a.length∧Jz a b≤b.length:=by have:=Ex5 a.reverse b.reverse;simpa [Jz] using this
def Gf1 (a b:List (List UInt8)) (N:Nat) (hN:a.length<N) (ha:a.length≤1000000) (hb:b.length≤1000000):
  Dr6.ev S N [Cn a,Cn b]=some (.yld 0 [.i .i64 (Jz a b:Int)]):=by
 have key:=Jc (fn:=S) (N:=N) (η:=[Cn a,Cn b]) (id:=1) (init:=[(.c (.i .i64 (0)))]) (body:=Ed6) (α:=Nat) (fun k=>[.i .i64 (k:Int)]) (fun k=> .yld 0 [.i .i64 ((k+Vk (a.reverse.drop k) (b.reverse.drop k):Nat):Int)]) (fun k=>k≤a.length∧k≤b.length) (fun k=>a.length - k) 0 rfl ⟨Db _,Db _⟩ (by omega) ?_
 ·simpa [Jz,Dr6] using key
 ·rintro k ⟨h1,h2⟩;by_cases h3:k<a.length
  ·by_cases h4:k<b.length
   ·have e1:((a.length:Int) - 1 - k).toNat=a.length - 1 - k:=by omega
    have e2:((b.length:Int) - 1 - k).toNat=b.length - 1 - k:=by omega
    have g1:a[a.length - 1 - k]? =some (a[a.length - 1 - k]'(by omega)):=Bs (by omega);have g2:b[b.length - 1 - k]? =some (b[b.length - 1 - k]'(by omega)):=Bs (by omega);have d1:a.reverse.drop k=(a[a.length - 1 - k]'(by omega))::a.reverse.drop (k+1):=by rw[Dy (by simpa using h3)];simp
    have d2:b.reverse.drop k=(b[b.length - 1 - k]'(by omega))::b.reverse.drop (k+1):=by rw[Dy (by simpa using h4)];simp
    simp(disch:=omega)only[Em7,xe,EVP,EV,simprocAttr,e1,e2,g1,g2];rw[d1,d2];simp only[Vk];by_cases h:a[a.length - 1 - k]'(by omega)=b[b.length - 1 - k]'(by omega)
    ·left;refine⟨k+1,by simp[h],⟨by omega,by omega⟩,by omega,?_⟩;rw[if_pos h];congr 3
     push_cast
     omega
    ·right;simp[h,Out.goes]
   ·right;have d2:b.reverse.drop k=[]:=Hz (by simp;omega);have z:Vk (a.reverse.drop k) []=0:=by cases a.reverse.drop k<;>rfl
    rw[d2,z];simp(disch:=omega) [Em7,xe,EVP,EV,simprocAttr,Out.goes]
  ·right;have d1:a.reverse.drop k=[]:=Hz (by simp;omega);have z:Vk [] (b.reverse.drop k)=0:=rfl;rw[d1,z];simp(disch:=omega) [Em7,xe,EVP,EV,simprocAttr,Out.goes]
def Aw8 (a b:List (List UInt8)) (ha:a.length≤1000000) (hb:b.length≤1000000):S Cy8 2 [Cn a,Cn b]=some [.i .i64 (Jz a b:Int)]:=by refine Jz6 (N:=a.length+1) rfl ?_;simp(disch:=omega)only[Em7,Gf1,Aj,simprocAttr]
def under (n top:List UInt8):Bool:=vld n && vld top && decide (Jz (lbl n) (lbl top)=(lbl top).length)
def Gy (n top:List UInt8) (hn:n.length≤9223372036854775807) (ht:top.length≤9223372036854775807):S U1 2 [.s n,.s top]=some [.b (under n top)]:=by
 refine Jg4 (N:=1) rfl ?_;have h1:=Gl n;have h2:=Gl top;unfold under;cases h3:vld n<;>cases h4:vld top<;>simp(disch:=omega)only[Jv6,split_ok,Aw8,h3,h4,Aj,simprocAttr]
 all_goals (simp;try omega)
def cmpS (a b:List UInt8):Int:=if Op.bytesLess a b then -1 else if a=b then 0 else 1
def Sm (a b:List UInt8):S Cy7 2 [.s a,.s b]=some [.i .i64 (cmpS a b)]:=by
 refine Jz5 (N:=1) rfl ?_;unfold cmpS;simp(disch:=omega)only[Jq1,Aj,simprocAttr];cases h:Op.bytesLess a b
 ·by_cases h2:a=b<;>simp[h2]
 ·simp
def Jp (a b:List UInt8):Int:=
 if vld a && vld b then
  let k:=Jz (lbl a) (lbl b)
  if k<(lbl a).length∧k<(lbl b).length then cmpS ((lbl a).getD ((lbl a).length - 1 - k) []) ((lbl b).getD ((lbl b).length - 1 - k) [])
  else if(lbl a).length<(lbl b).length then -1 else if(lbl b).length<(lbl a).length then 1 else 0
 else if vld a then -1 else if vld b then 1 else cmpS a b
def J4 (a b:List UInt8) (hn:a.length≤9223372036854775807) (ht:b.length≤9223372036854775807):S uj 2 [.s a,.s b]=some [.i .i64 (Jp a b)]:=by
 refine Jg3 (N:=1) rfl ?_;have h1:=Gl a;have h2:=Gl b;have h5:=Bd8 (lbl a) (lbl b);unfold Jp;cases h3:vld a<;>cases h4:vld b
 ·simp(disch:=omega) [Cp9,split_ok,Sm,h3,h4,Aj,simprocAttr]
 ·simp(disch:=omega) [Cp9,split_ok,Sm,h3,h4,Aj,simprocAttr]
 ·simp(disch:=omega) [Cp9,split_ok,Sm,h3,h4,Aj,simprocAttr]
 ·by_cases h6:Jz (lbl a) (lbl b)<(lbl a).length∧Jz (lbl a) (lbl b)<(lbl b).length
  ·obtain⟨h7,h8⟩:=h6;have e1:(((lbl a).length:Int) - 1 - (Jz (lbl a) (lbl b):Int)).toNat=(lbl a).length - 1 - Jz (lbl a) (lbl b):=by omega
   have e2:(((lbl b).length:Int) - 1 - (Jz (lbl a) (lbl b):Int)).toNat=(lbl b).length - 1 - Jz (lbl a) (lbl b):=by omega
   have g1:=Bs (l:=lbl a) (i:=(lbl a).length - 1 - Jz (lbl a) (lbl b)) (by omega);have g2:=Bs (l:=lbl b) (i:=(lbl b).length - 1 - Jz (lbl a) (lbl b)) (by omega);simp(disch:=omega)only[Cp9,split_ok,Aw8,Sm,h3,h4,e1,e2,g1,g2,Aj,simprocAttr];simp[h7,h8,g1,g2]
  ·simp(disch:=omega)only[Cp9,split_ok,Aw8,Sm,h3,h4,Aj,simprocAttr];simp only[h6]
   grind
end Go.X.G
/- The library's functions on strings. -/
namespace Go.X.G
open Go Go.X
def Gs1 (x:List UInt8) (c:UInt8):S Bg5 2 [.s x,.i .u8 (c.toNat:Int)]=some [.i .i64 (x.count c:Int)]:=
 Hg3 (args:=[.s x,.i .u8 (c.toNat:Int)]) (by simp[XK.run,Ck8,Lib.countByte])
def Gm6 (x:List UInt8) (c:UInt8):S Bg6 2 [.s x,.i .u8 (c.toNat:Int)]=some [.i .i64 (Lib.indexByte x c)]:=
 Hg4 (args:=[.s x,.i .u8 (c.toNat:Int)]) (by simp[XK.run,Ck8])
def Gs2 (x y:List UInt8):S Bg7 2 [.s x,.s y]=some [.i .i64 (Lib.compareBytes x y)]:=
 Hl4 (args:=[.s x,.s y]) (by simp[XK.run,Fx3])
def T4 (x:List UInt8) (c:UInt8):S fk 2 [.s x,.i .u8 (c.toNat:Int)]=some [.i .i64 (Lib.indexByte x c)]:=by refine Hl3 (N:=1) rfl ?_;simp(disch:=omega)only[Hw2,Gm6,Aj,simprocAttr]
def Aj5 (x:List UInt8) (c:UInt8):S wk 2 [.s x,.i .u8 (c.toNat:Int)]=some [.i .i64 (Lib.indexByte x c)]:=by refine Hn6 (N:=1) rfl ?_;simp(disch:=omega)only[Hx2,T4,Aj,simprocAttr]
def Qt (c:UInt8):∀(x:List UInt8),c∉x→Lib.indexByte x c= -1
 |[],_=>rfl
 |b::l,h=>by have h1:b≠c:=fun e=>h (by simp[e]);have h2:=Qt c l (fun e=>h (by simp[e]));simp[Lib.indexByte,h1,h2]
def Mc (c:UInt8) (post:List UInt8):∀(pre:List UInt8),c∉pre→Lib.indexByte (pre++c::post) c=(pre.length:Int)
 |[],_=>by simp[Lib.indexByte]
 |b::l,h=>by
  have h1:b≠c:=fun e=>h (by simp[e]);have h2:=Mc c post l (fun e=>h (by simp[e]));simp only[Dd,Lib.indexByte,h2];simp[h1]
  try omega
def dot_split (c:UInt8):∀(s:List UInt8),c∉s∨∃pre post,s=pre++c::post∧c∉pre
 |[]=> .inl (by simp)
 |b::l=>by
  by_cases h:b=c
  ·exact .inr ⟨[],l,by simp[h],by simp⟩
  ·rcases dot_split c l with h1|⟨pre,post,rfl,h2⟩
   ·exact .inl (by simp[h1,Ne.symm h])
   ·exact .inr ⟨b::pre,post,by simp,by simp[h2,Ne.symm h]⟩
def pcs (cur:List UInt8):List UInt8→List (List UInt8)
 |[]=>[cur]
 |c::r=>if c=46 then cur::pcs [] r else pcs (cur++[c]) r
def cut (s:List UInt8):List (List UInt8):=pcs [] s
def Df2 (post:List UInt8):∀(pre cur:List UInt8),(46:UInt8)∉pre→pcs cur (pre++46::post)=(cur++pre)::pcs [] post
 |[],cur,_=>by simp[pcs]
 |b::l,cur,h=>by have h1:b≠46:=fun e=>h (by simp[e]);have h2:=Df2 post l (cur++[b]) (fun e=>h (by simp[e]));simp[pcs,h1,h2]
def lj:∀(s cur:List UInt8),(46:UInt8)∉s→pcs cur s=[cur++s]
 |[],cur,_=>by simp[pcs]
 |b::l,cur,h=>by have h1:b≠46:=fun e=>h (by simp[e]);have h2:=lj l (cur++[b]) (fun e=>h (by simp[e]));simp[pcs,h1,h2]
def Ex3 (s:List UInt8):(cut s).length=s.count 46+1:=by
 have:∀(s cur:List UInt8),(pcs cur s).length=s.count 46+1:=by
  intro s
  induction s with
  |nil=>intro cur;rfl
  |cons c r ih=>
   intro cur;by_cases h:c=46<;>simp[pcs,h,ih]
 exact this s []
def Cl7 (s:List UInt8) (hs:s.length≤9223372036854775807):S uh 2 [.s s,.s [46]]=some [.i .i64 (Lib.indexByte s 46)]:=by
 refine Hg2 (N:=1) rfl ?_;have h1:=T4 s 46;have e:(((46:UInt8).toNat:Nat):Int)=46:=rfl;rw[e] at h1;by_cases h:[46]=s
 ·subst h;simp(disch:=omega)only[Fp4,Aj,simprocAttr];rfl
 ·simp(disch:=omega)only[Fp4,h,h1,e,Aj,simprocAttr]
def Aj4 (s:List UInt8) (hs:s.length≤9223372036854775807):S et 2 [.s s,.s [46]]=some [.i .i64 (Lib.indexByte s 46)]:=by refine Hl0 (N:=1) rfl ?_;simp(disch:=omega)only[Hw0,Cl7,Aj,simprocAttr]
def Eh6 (s:List UInt8):S vq 2 [.s s,.s [46]]=some [.i .i64 (s.count 46:Int)]:=by refine Hl1 (N:=1) rfl ?_;have h1:=Gs1 s 46;have e:(((46:UInt8).toNat:Nat):Int)=46:=rfl;rw[e] at h1;simp(disch:=omega)only[Hw1,h1,e,Aj,simprocAttr]
def Eq7 (done rest:List (List UInt8)):Out:=
 .yld 0 [.s ((done++rest).getLastD []),Cn ((done++rest).dropLast++[[]]),.i .i64 (((done++rest).length:Int) - 1)]
def Ac8 (s:List UInt8) (N:Nat) (hN:s.length<N) (hs:s.length≤1000000) (p q:PV):
  Ab7.ev S N [.s s,.s [46],.i .i64 0,p,.i .i64 ((s.count 46:Int)+1)]=some (Eq7 [] (cut s)):=by
 have hc0:s.count 46≤s.length:=List.count_le_length;have key:=Jc (fn:=S) (N:=N) (η:=[.s s,.s [46],.i .i64 0,p,.i .i64 ((s.count 46:Int)+1)]) (id:=1) (init:=[(.v 0),(.rep 1 (.mn (.v 4) (.bin .add (.slen (.v 0)) (.c (.i .i64 (1))))) (.c (.s []))),(.c (.i .i64 (0)))]) (body:=An3) (α:=List (List UInt8)×List UInt8)
  (fun a=>[.s a.2,Cn (a.1++List.replicate (a.2.count 46+1) []),.i .i64 (a.1.length:Int)]) (fun a=>Eq7 a.1 (cut a.2)) (fun a=>a.1.length+a.2.count 46=s.count 46∧a.2.length≤s.length) (fun a=>a.2.length) ([],s) ?_ ⟨by simp,B7 _⟩ hN ?_
 ·simpa [Ab7] using key
 ·have e:((s.count 46:Int)+1).toNat=s.count 46+1:=by omega
  simp(disch:=omega)only[e,Aj,simprocAttr]
 ·rintro⟨done,rest⟩ ⟨h1,h2⟩;simp only at h1 h2 ⊢;rcases dot_split 46 rest with h|⟨pre,post,rfl,h⟩
  ·right;have c0:rest.count 46=0:=Jk6.2 h;have i0:=Qt 46 rest h;have cu:cut rest=[rest]:=by simpa [cut] using lj rest [] h
   refine⟨?_,rfl⟩;rw[c0];rw[c0] at h1;simp(disch:=omega)only[Cs0,Aj4,i0,Aj,simprocAttr];simp[Eq7,cu,List.getLastD_eq_getLast?]
  ·left;have c0:(pre++46::post).count 46=post.count 46+1:=by rw[List.count_append,Jk6.2 h];simp
   have i0:=Mc 46 post pre h;have cu:cut (pre++46::post)=pre::cut post:=by simpa [cut] using Df2 post pre [] h
   have hl:(pre++46::post).length=pre.length+post.length+1:=by simp;omega
   have sl1:List.drop (0:Int).toNat (List.take ((pre.length:Int)+0).toNat (pre++46::post))=pre:=by simp
   have sl2:List.drop ((pre.length:Int)+1).toNat (List.take (pre++46::post).length (pre++46::post))=post:=by
    have:((pre.length:Int)+1).toNat=pre.length+1:=by omega
    rw[this,Es,List.drop_append];simp
   have sl3:(done++[]::[]::List.replicate (post.count 46) ([]:List UInt8)).length=done.length+post.count 46+2:=by simp;omega
   refine⟨(done++[pre],post),?_,⟨by simp;omega,by simp only;omega⟩,by simp;omega,by simp[Eq7,cu]⟩;rw[c0];rw[c0] at h1;simp(disch:=omega)only[Cs0,Aj4,i0,sl1,sl2,Aj,simprocAttr];simp[List.replicate_succ,List.set_append]
def Ac7 (s:List UInt8) (hs:s.length≤1000000):S wj 4 [.s s,.s [46],.i .i64 0,.i .i64 (-1)]=some [Cn (cut s)]:=by
 refine Hn3 (N:=s.length+1) rfl ?_;have h1:=Ex3 s;have h2:s.count 46≤s.length:=List.count_le_length;obtain⟨l,x,hx⟩:∃l x,cut s=l++[x]:=⟨(cut s).dropLast,(cut s).getLast (by intro e;simp[e] at h1),(List.dropLast_concat_getLast _).symm⟩;have h3:l.length=s.count 46:=by rw[hx] at h1;simpa using h1
 have h4:((l.length:Int)+1 - 1)=(l.length:Int):=by omega
 have h5:((l++[([]:List UInt8)]).length:Int)=l.length+1:=by simp
 have h6:((l++[x]).length:Int)=l.length+1:=by simp
 have g1:(l++[([]:List UInt8)])[l.length]? =some []:=by simp
 have g2:(l++[x]).getLastD []=x:=by simp[List.getLastD_eq_getLast?]
 have g3:(l++[([]:List UInt8)]).set l.length x=l++[x]:=by simp
 have hk:=Ac8 s (s.length+1) (by omega) hs (.i .i64 (-1)) .u;rw[hx] at hk ⊢;simp only[Eq7,Dc,List.dropLast_concat] at hk;simp(disch:=omega)only[Cs0,Eh6,hk,h4,h6,g1,g2,g3,Aj,simprocAttr];have g4:((l.length:Int)+1).toNat=(l++[x]).length:=by simp
 rw[g4,Es];rfl
def Aj0 (s:List UInt8) (hs:s.length≤1000000):S gx 2 [.s s,.s [46]]=some [Cn (cut s)]:=by refine Ht4 (N:=1) rfl ?_;simp(disch:=omega)only[Hy3,Ac7,Aj,simprocAttr]
def T5 (s t:List UInt8) (hs:s.length≤9223372036854775807):S fc 2 [.s s,.s t]=some [.b (t.isSuffixOf s)]:=by
 refine Hn4 (N:=1) rfl ?_;by_cases h:t.length≤s.length
 ·have e:((s.length:Int) - (t.length:Int)).toNat=s.length - t.length:=by omega
  simp(disch:=omega)only[Fr1,e,Aj,simprocAttr];simp only[Es];congr 4;rw[D9,G6,decide_eq_true_eq];refine⟨fun h=>h▸List.drop_suffix _ _,fun h=> ?_⟩;obtain⟨p,rfl⟩:=h;simp
 ·have h2:t.isSuffixOf s=false:=by rw[R6,ne_eq,G6];exact fun h'=>h h'.length_le
  simp(disch:=omega)only[Fr1,h2,Aj,simprocAttr]
def Pf (s t:List UInt8) (hs:s.length≤9223372036854775807):S gy 2 [.s s,.s t]=some [.b (t.isSuffixOf s)]:=by refine Ht5 (N:=1) rfl ?_;simp(disch:=omega)only[Hy4,T5,Aj,simprocAttr]
def Ar3 (x y:List UInt8):S wv 2 [.s x,.s y]=some [.i .i64 (Lib.compareBytes x y)]:=by refine Hp1 (N:=1) rfl ?_;simp(disch:=omega)only[Hx3,Gs2,Aj,simprocAttr]
def Ar0 (x y:List UInt8):S t7 2 [.s x,.s y]=some [.i .i64 (Lib.compareBytes x y)]:=by refine Jb0 (N:=1) rfl ?_;simp(disch:=omega)only[Jq2,Ar3,Aj,simprocAttr]
end Go.X.G
/- Names and their labels. -/
namespace Go.X.G
open Go Go.X
def flat (l:List (List UInt8)):List UInt8:=l.flatMap fun x=>x++[46]
def jn (l:List (List UInt8)):List UInt8:=if l=[] then [46] else flat l
def Hg (first:Bool):List (List UInt8)→Bool
 |[]=>true
 |p::r=>K4 p && (!decide (p=[42])||first) && Hg false r
def Gm3:Tv 46=false:=by decide
def Ot {p:List UInt8} (h:K4 p=true):(46:UInt8)∉p:=by
 unfold K4 at h;simp at h;rcases h with rfl|⟨_,h⟩
 ·decide
 ·intro h2;have:=h 46 h2;rw[Gm3] at this;cases this
def mj {p:List UInt8} (h:K4 p=true):p≠[]:=by rintro rfl;simp[K4] at h
def Hc {p:List UInt8}:∀{f:Bool} {l:List (List UInt8)},Hg f l=true→p∈l→K4 p=true
 |f,q::r,h,hp=>by
  simp only[Hg,Br] at h;rcases Cj.1 hp with rfl|hp
  ·exact h.1.1
  ·exact Hc h.2 hp
def Cc4:∀{l:List (List UInt8)},Hg false l=true→Hg true l=true
 |[],_=>rfl
 |p::r,h=>by simp only[Hg,Br] at h ⊢;exact⟨⟨h.1.1,by simp⟩,h.2⟩
def Tc:∀{f:Bool} {a b:List (List UInt8)},Hg f (a++b)=(Hg f a && Hg (f && a.isEmpty) b)
 |f,[],b=>by simp[Hg]
 |f,p::r,b=>by simp only[Dd,Hg,Tc (a:=r)];simp[Bool.and_assoc]
def Cc5 {f:Bool} {l:List (List UInt8)} (h:Hg f l=true) (k:Nat):Hg f (l.drop k)=true:=by
 rw[←C9 k l,Tc,Br] at h;have h2:=h.2;cases f with
 |false=>simpa using h2
 |true=>
  cases he:(l.take k).isEmpty with
  |true=>rw[he] at h2;exact h2
  |false=>rw[he] at h2;exact Cc4 h2
def X6:∀(m:List UInt8) (f:Bool) (cur:List UInt8),spl f cur (m++[46])=if Hg f (pcs cur m)=true then some (pcs cur m) else none
 |[],f,cur=>by simp only[Dc,spl,if_true,pcs,Hg,Cf,Uk];by_cases h:K4 cur=true<;>by_cases h2:cur=[42]<;>cases f<;>simp[h,h2]
 |c::r,f,cur=>by
  simp only[Dd,spl,pcs];by_cases hc:c=46
  ·simp only[if_pos hc];rw[X6 r false []];simp only[Hg];by_cases h:K4 cur=true<;>by_cases h2:cur=[42]<;>cases f<;>by_cases h3:Hg false (pcs [] r)=true<;>simp[h,h2,h3]
  ·simp only[if_neg hc];exact X6 r f (cur++[c])
def Yb (b:List UInt8):∀(a cur:List UInt8),pcs cur (a++46::b)=pcs cur a++cut b
 |[],cur=>by simp[pcs,cut]
 |c::r,cur=>by
  simp only[Dd,pcs];split
  ·rw[Yb b r []];rfl
  ·exact Yb b r _
def Xk:∀(m cur:List UInt8),flat (pcs cur m)=cur++m++[46]
 |[],cur=>by simp[pcs,flat]
 |c::r,cur=>by
  simp only[pcs];split
  ·rename_i h;have:=Xk r [];simp only[flat,Jv] at this ⊢;rw[this,h];simp
  ·rw[Xk r (cur++[c])];simp
def P7 (a b:List (List UInt8)):flat (a++b)=flat a++flat b:=by simp[flat]
def Ik7 (cur m:List UInt8):pcs cur m≠[]:=by
 cases m with
 |nil=>simp[pcs]
 |cons c r=>
  simp only[pcs];split
  ·simp
  ·intro h;have:=Xk r (cur++[c]);rw[h] at this;simp[flat] at this
def Xx:∀(l:List (List UInt8)),(∀p∈l,(46:UInt8)∉p)→cut (flat l)=l++[[]]
 |[],_=>rfl
 |p::l,h=>by
  have h1:flat (p::l)=p++46::flat l:=by simp[flat]
  rw[h1];show pcs [] _=_;rw[Yb,lj p [] (h p (by simp)),Xx l (fun q hq=>h q (by simp[hq]))];simp
def Mh:∀(l:List (List UInt8)),l≠[]→∃m,flat l=m++[46]
 |[p],_=>⟨p,by simp[flat]⟩
 |p::q::r,_=>by obtain⟨m,hm⟩:=Mh (q::r) (by simp);exact⟨p++[46]++m,by simp only[flat,Jv] at hm ⊢;rw[hm];simp⟩
def Bm8 {l:List (List UInt8)} (hl:l≠[]) (h:∀p∈l,(46:UInt8)∉p) {m:List UInt8} (hm:flat l=m++[46]):cut m=l:=by
 have h1:=Xx l h;rw[hm] at h1;have h2:cut (m++[46])=cut m++[[]]:=by show pcs [] (m++46::[])=_;rw[Yb];rfl
 rw[h2] at h1;exact T9 h1
def Kv {l:List (List UInt8)} (h:Hg true l=true) (hl:l≠[]):2≤(flat l).length:=by
 cases l with
 |nil=>exact absurd rfl hl
 |cons p r=>
  have h1:=mj (Hc h (If ..));have:0<p.length:=Cl.2 h1;simp[flat];omega
def Gh3 {l:List (List UInt8)} (h:Hg true l=true) (hl:l≠[]) (hlen:(flat l).length≤254):nm (flat l)=some l:=by obtain⟨m,hm⟩:=Mh l hl;have h1:=Bm8 hl (fun p hp=>Ot (Hc h hp)) hm;have h2:=Kv h hl;unfold nm;rw[if_neg (by intro e;rw[e] at h2;simp at h2),if_pos ⟨h2,hlen,by rw[hm];simp⟩,hm,X6];have:pcs [] m=l:=h1;rw[this,if_pos h]
def Gh2 {n:List UInt8} {l:List (List UInt8)} (h:nm n=some l):(n=[46]∧l=[])∨(l≠[]∧Hg true l=true∧n=flat l∧n.length≤254):=by
 unfold nm at h;split at h
 ·rename_i e;injection h with h;exact .inl ⟨e,h.symm⟩
 ·split at h
  ·rename_i h1;right;obtain⟨h2,h3,h4⟩:=h1;obtain⟨m,hm⟩:∃m,n=m++[46]:=by
    refine⟨n.dropLast,?_⟩;have:n≠[]:=by intro e;simp[e] at h2
    have h5:=List.dropLast_concat_getLast this;rw[←h5];congr 1
    ·simp
    ·have h6:n[n.length - 1]? =some (n.getLast this):=by rw[Lt];exact Bs _
     rw[h6] at h4;injection h4 with h4;simp[h4]
   rw[hm,X6] at h;split at h
   ·rename_i h5;injection h with h;subst h;refine⟨Ik7 _ _,h5,?_,by omega⟩;rw[Xk,hm];simp
   ·cases h
  ·cases h
def Gz9 {n:List UInt8}:vld n=true↔nm n=some (lbl n):=by unfold vld lbl;cases nm n<;>simp
def vld_cases {n:List UInt8} (h:vld n=true):(n=[46]∧lbl n=[])∨(lbl n≠[]∧Hg true (lbl n)=true∧n=flat (lbl n)∧n.length≤254):=Gh2 (Gz9.1 h)
def Sf {n:List UInt8} (h:vld n=true):Hg true (lbl n)=true:=by
 rcases vld_cases h with⟨_,h⟩|⟨_,h,_⟩
 ·rw[h];rfl
 ·exact h
def Oj {n:List UInt8} (h:vld n=true):n=jn (lbl n):=by
 unfold jn;rcases vld_cases h with⟨h1,h2⟩|⟨h1,_,h2,_⟩
 ·rw[h2,if_pos rfl];exact h1
 ·rw[if_neg h1];exact h2
def Gc {n:List UInt8} (h:vld n=true):n.length≤254:=by
 rcases vld_cases h with⟨h1,_⟩|⟨_,_,_,h⟩
 ·simp[h1]
 ·exact h
def K2:lbl [46]=[]:=rfl
def yh {l:List (List UInt8)} (h:Hg true l=true) (hl:l≠[]):flat l≠[46]:=by intro e;have:=Kv h hl;rw[e] at this;simp at this
def Nq {n:List UInt8} (h:vld n=true):lbl n=[]↔n=[46]:=by
 rcases vld_cases h with⟨h1,h2⟩|⟨h1,h2,h3,_⟩
 ·simp[h1,K2]
 ·constructor
  ·intro e;exact absurd e h1
  ·intro e;rw[h3] at e;exact absurd e (yh h2 h1)
def Fr9 {l:List (List UInt8)} (h:Hg true l=true) (hlen:(flat l).length≤254):vld (jn l)=true∧lbl (jn l)=l:=by
 unfold jn;by_cases hl:l=[]
 ·subst hl;exact⟨rfl,rfl⟩
 ·rw[if_neg hl];have:=Gh3 h hl hlen;exact⟨by simp[vld,this],by simp[lbl,this]⟩
def On {a b:List UInt8} (ha:vld a=true) (hb:vld b=true) (h:lbl a=lbl b):a=b:=by rw[Oj ha,Oj hb,h]
def mc (l:List (List UInt8)) (k:Nat):(flat (l.drop k)).length≤(flat l).length:=by
 have:flat l=flat (l.take k)++flat (l.drop k):=by rw[←P7,C9]
 rw[this,B3];omega
def L2 {n:List UInt8} (h:vld n=true) (k:Nat):vld (jn ((lbl n).drop k))=true∧lbl (jn ((lbl n).drop k))=(lbl n).drop k:=by
 refine Fr9 (Cc5 (Sf h) k) ?_;rcases vld_cases h with⟨_,h1⟩|⟨_,_,h1,h2⟩
 ·rw[h1];simp[flat]
 ·have:=mc (lbl n) k;rw[←h1] at this;omega
def U6 {s:List UInt8} (h:K4 s=true):s.length≤63:=by
 unfold K4 at h;simp at h;rcases h with h|h
 ·simp[h]
 ·omega
def l8 {n:List UInt8} (h:vld n=false):lbl n=[]:=by
 unfold lbl;unfold vld at h;cases h1:nm n with
 |none=>rfl
 |some l=>rw[h1] at h;cases h
def Dn8 (n:List UInt8):∀x∈lbl n,K4 x=true:=fun x hx=>by
 rcases Bl (vld n) with h|h
 ·exact Hc (Sf h) hx
 ·rw[l8 h] at hx;cases hx
def Sd {n:List UInt8} (h:vld n=true):0<n.length:=by
 rcases vld_cases h with⟨h1,_⟩|⟨h1,h2,h3,_⟩
 ·simp[h1]
 ·have:=Kv h2 h1;rw[h3];omega
end Go.X.G
/- Names: what the program's functions give. -/
namespace Go.X.G
open Go Go.X
def ord (s:List UInt8):Bool:=decide (1≤s.length) && decide (s.length≤63) && s.all Tv
def Eq0 (s:List UInt8):K4 s=(decide (s=[42])||ord s):=rfl
def Fz9:ord [42]=false:=by decide
def Ax8 (s:List UInt8) (N:Nat) (hN:s.length<N) (hs:s.length≤9223372036854775807):
  Ej8.ev S N [.s s]=some (if s.all Tv=true then .yld 0 [] else .ret [.b false]):=by
 refine E2 s (fun i=>[.i .i64 (i:Int)]) (fun i r=>if r.all Tv=true then .yld 0 [] else .ret [.b false]) rfl hN (fun i c r hd hi hc=> ?_) ?_
 ·have key:Ap1.ev S N ([.s s]++[.i .i64 (i:Int)])=some (if Tv c=true then .yld 1 [.i .i64 ((i:Int)+1)] else .ret [.b false]):=by
   simp(disch:=omega)only[qb,hc,Aj,simprocAttr];unfold Tv
   grind
  rw[key];rcases Bl (Tv c) with h|h<;>simp[h,Out.goes]
 ·simp(disch:=omega) [qb,xe,EVP,EV,simprocAttr,Out.goes]
def M7 (s:List UInt8) (hs:s.length≤9223372036854775807):S xq 1 [.s s]=some [.b (ord s)]:=by
 refine Ht3 (N:=s.length+1) rfl ?_;unfold ord;by_cases h1:s=[]
 ·subst h1;simp(disch:=omega) [qb,Aj,simprocAttr]
 ·have h2:1≤s.length:=Cl.2 h1;by_cases h3:s.length≤63
  ·simp(disch:=omega)only[qb,Ax8,h1,Aj,simprocAttr];cases s.all Tv<;>simp[h2,h3]
  ·simp(disch:=omega)only[qb,h1,Aj,simprocAttr];simp[h3]
def okP (i:Nat) (p:List UInt8):Bool:=ord p||(decide (i=0) && decide (p=[42]))
def Fb8:Nat→List (List UInt8)→Bool
 |_,[]=>true
 |i,p::r=>okP i p && Fb8 (i+1) r
def tn:∀(l:List (List UInt8)) (i:Nat),Fb8 i l=Hg (decide (i=0)) l
 |[],_=>rfl
 |p::r,i=>by
  have h1:=tn r (i+1);simp only[Fb8,Hg,h1,okP,Eq0];by_cases h2:p=[42]
  ·subst h2;by_cases h3:i=0<;>simp[Fz9,h3]
  ·simp[h2]
def Ef9 (p q:PV) (l:List (List UInt8)) (hl:l.length≤1000000) (hw:∀x∈l,x.length≤9223372036854775807) (N:Nat) (hN:l.length<N):
  Gq2.ev S N [p,q,Cn l]=some (if Fb8 0 l=true then .yld 0 [] else .ret [.b false]):=by
 refine E2 l (fun i=>[.i .i64 (i:Int)]) (fun i r=>if Fb8 i r=true then .yld 0 [] else .ret [.b false]) rfl hN (fun i c r hd hi hc=> ?_) ?_
 ·have hcw:=hw c (Ck hc);have key:Ed9.ev S N ([p,q,Cn l]++[.i .i64 (i:Int)])=some (if okP i c=true then .yld 1 [.i .i64 ((i:Int)+1)] else .ret [.b false]):=by
   rcases Bl (ord c) with h1|h1
   ·simp(disch:=omega)only[jl,M7,hc,h1,Aj,simprocAttr];simp[okP,h1]
   ·by_cases h2:i=0
    ·subst h2;by_cases h3:c=[42]
     ·subst h3;simp(disch:=omega)only[jl,M7,hc,h1,Aj,simprocAttr];simp[okP]
     ·simp(disch:=omega)only[jl,M7,hc,h1,h3,Aj,simprocAttr];simp[okP,h1,h3]
    ·simp(disch:=omega)only[jl,M7,hc,h1,Aj,simprocAttr];simp[okP,h1,h2]
  rw[key];rcases Bl (okP i c) with h|h<;>simp[h,Fb8,Out.goes]
 ·simp(disch:=omega)only[jl,Aj,simprocAttr];simp[Out.goes,Fb8]
def lq:∀(m cur:List UInt8) (x:List UInt8),x∈pcs cur m→x.length≤cur.length+m.length
 |[],cur,x,h=>by simp[pcs] at h;subst h;simp
 |c::r,cur,x,h=>by
  simp only[pcs] at h;split at h
  ·rcases Cj.1 h with rfl|h
   ·omega
   ·have:=lq r [] x h;simp at this ⊢;omega
  ·have:=lq r _ x h;simp at this ⊢;omega
def Fl6 (m x:List UInt8) (h:x∈cut m):x.length≤m.length:=by simpa using lq m [] x h
def Is0 (m:List UInt8):(cut m).length≤m.length+1:=by have:=Ex3 m;have:m.count 46≤m.length:=List.count_le_length;omega
def Ct9 (n:List UInt8):([46]:List UInt8).isSuffixOf n=true↔∃m,n=m++[46]:=by rw[G6];exact⟨fun⟨m,h⟩=>⟨m,h.symm⟩,fun⟨m,h⟩=>⟨m,h.symm⟩⟩
def En2 (m:List UInt8) (hm:m≠[]) (hl:m.length≤253):vld (m++[46])=Fb8 0 (cut m):=by have h1:m++[46]≠[46]:=fun e=>hm (T9 (bs:=[46]) (by simpa using e));have h2:0<m.length:=Cl.2 hm;unfold vld nm;rw[if_neg h1,if_pos ⟨by simp;omega,by simp;omega,by simp⟩,X6,tn];have e:pcs [] m=cut m:=rfl;have e2:Hg (decide ((0:Nat)=0)) (cut m)=Hg true (cut m):=rfl;rw[e,e2];cases Hg true (cut m)<;>rfl
def Fd8 (m:List UInt8) (h:vld (m++[46])=true) (hm:m≠[]):lbl (m++[46])=cut m:=by
 rcases vld_cases h with⟨h1,_⟩|⟨h1,h2,h3,_⟩
 ·exact absurd (T9 (bs:=[46]) (by simpa using h1)) hm
 ·exact(Bm8 h1 (fun p hp=>Ot (Hc h2 hp)) h3.symm).symm
def Dq (n:List UInt8) (hn:n.length≤9223372036854775807):S Lp 1 [.s n]=some [.b (vld n)]:=by
 refine Jd8 (N:=300) rfl ?_;by_cases h0:n=[46]
 ·subst h0;simp(disch:=omega)only[jl,Aj,simprocAttr];rfl
 ·by_cases h1:255≤n.length
  ·have hv:vld n=false:=by rw[R6];intro h;have:=Gc h;omega
   simp(disch:=omega)only[jl,h0,hv,Aj,simprocAttr]
  ·rcases Bl (([46]:List UInt8).isSuffixOf n) with h2|h2
   ·obtain⟨m,rfl⟩:=(Ct9 n).1 h2;have hm:m≠[]:=fun e=>h0 (by simp[e]);have hl:(m++[46]).length=m.length+1:=by simp
    have hml:m.length≤1000000:=by omega
    have e:List.drop 0 (List.take (((m++[46]).length:Int) - 1).toNat (m++[46]))=m:=by
     have:(((m++[46]).length:Int) - 1).toNat=m.length:=by omega
     rw[this];simp
    have hc:=Is0 m;have hv:=En2 m hm (by omega);have hk:=Ef9 (.s (m++[46])) (.b true) (cut m) (by omega) (fun x hx=>by have:=Fl6 m x hx;omega) 300 (by omega);simp(disch:=omega)only[jl,Pf,Aj0,e,hk,h0,h2,Aj,simprocAttr];rw[hv];cases Fb8 0 (cut m)<;>simp
   ·have hv:vld n=false:=by
     rw[R6];intro h;rcases vld_cases h with⟨h3,_⟩|⟨h3,_,h5,_⟩
     ·exact h0 h3
     ·obtain⟨m,hm⟩:=Mh _ h3;have:=(Ct9 n).2 ⟨m,h5.trans hm⟩;rw[h2] at this;cases this
    simp(disch:=omega)only[jl,Pf,h0,h2,hv,Aj,simprocAttr]
def Vb (n:List UInt8) (hn:n.length≤9223372036854775807):S Ay5 1 [.s n]=some [Cn (lbl n)]:=by
 refine Jz9 (N:=1) rfl ?_;by_cases h0:n=[46]
 ·subst h0;simp(disch:=omega)only[Gz0,K2,Aj,simprocAttr]
 ·rcases Bl (vld n) with h1|h1
  ·obtain⟨m,hm,rfl⟩:∃m,m≠[]∧n=m++[46]:=by
    rcases vld_cases h1 with⟨h3,_⟩|⟨h3,_,h5,_⟩
    ·exact absurd h3 h0
    ·obtain⟨m,hm⟩:=Mh _ h3;exact⟨m,fun e=>h0 (by rw[h5,hm,e];rfl),h5.trans hm⟩
   have hl:(m++[46]).length=m.length+1:=by simp
   have e:List.drop 0 (List.take (((m++[46]).length:Int) - 1).toNat (m++[46]))=m:=by
    have:(((m++[46]).length:Int) - 1).toNat=m.length:=by omega
    rw[this];simp
   have hl2:=Gc h1;have e2:=Fd8 m h1 hm;simp(disch:=omega)only[Gz0,Dq,Aj0,e,e2,h0,h1,Aj,simprocAttr]
  ·have e:lbl n=[]:=by
    unfold lbl;unfold vld at h1;cases h:nm n with
    |none=>rfl
    |some l=>rw[h] at h1;cases h1
   simp(disch:=omega)only[Gz0,Dq,h0,h1,e,Aj,simprocAttr]
def Ml (p:List UInt8) (l:List (List UInt8)):flat (p::l)=p++46::flat l:=by simp[flat]
def parentN (n:List UInt8):List UInt8:=if vld n=true∧n≠[46] then jn ((lbl n).drop 1) else []
def Zz (n:List UInt8):Bool:=vld n && !decide (n=[46])
def Qy (n:List UInt8) (hn:n.length≤9223372036854775807):S V3 1 [.s n]=some [.s (parentN n),.b (Zz n)]:=by
 refine Ht7 (N:=1) rfl ?_;unfold parentN Zz;by_cases h0:n=[46]
 ·subst h0;simp(disch:=omega)only[At0,Aj,simprocAttr];simp
 ·rcases Bl (vld n) with h1|h1
  ·rcases vld_cases h1 with⟨h3,_⟩|⟨h3,h4,h5,h6⟩
   ·exact absurd h3 h0
   ·cases hl:lbl n with
    |nil=>exact absurd hl h3
    |cons p r=>
     rw[hl] at h4 h5;have hp:=Ot (Hc h4 (If ..));have hi:=Aj5 n 46;have hc:(((46:UInt8).toNat:Nat):Int)=46:=rfl;have hx:Lib.indexByte n 46=(p.length:Int):=by rw[h5,Ml];exact Mc 46 _ p hp
     rw[hc,hx] at hi;have hlen:n.length=p.length+1+(flat r).length:=by rw[h5,Ml];simp;omega
     have e:List.drop ((p.length:Int)+1).toNat (List.take n.length n)=flat r:=by
      have:((p.length:Int)+1).toNat=p.length+1:=by omega
      rw[this,Es,h5,Ml];simp
     by_cases h7:r=[]
     ·subst h7;have e2:flat []=[]:=rfl;simp(disch:=omega)only[At0,Dq,hi,e,e2,h0,h1,Aj,simprocAttr];simp[jn]
     ·have e2:¬flat r=[]:=by obtain⟨m,hm⟩:=Mh r h7;rw[hm];simp
      simp(disch:=omega)only[At0,Dq,hi,e,e2,h0,h1,Aj,simprocAttr];simp[jn,h7]
  ·simp(disch:=omega)only[At0,Dq,h0,h1,Aj,simprocAttr];simp
def Ad5 (n top:List UInt8):Bool:=(decide (top=[46])||decide (n=top))||(46::top).isSuffixOf n
def mm (n top:List UInt8) (hn:n.length≤9223372036854775807) (ht:top.length≤1000000):S Ay6 2 [.s n,.s top]=some [.b (Ad5 n top)]:=by
 refine Jb1 (N:=1) rfl ?_;unfold Ad5;have h0:([46]:List UInt8).length=1:=rfl;by_cases h1:top=[46]<;>by_cases h2:n=top<;>simp(disch:=omega)only[Jq3,Pf,h1,h2,Aj,simprocAttr]
 all_goals simp
def Ad1 {a b:List (List UInt8)} (ha:Hg true a=true) (hb:Hg true b=true) (h:(46::flat b)<:+flat a):b<:+a:=by obtain⟨p,hp⟩:=h;have h1:=Xx a (fun x hx=>Ot (Hc ha hx));have h2:=Xx b (fun x hx=>Ot (Hc hb hx));rw[←hp] at h1;have h3:cut (p++46::flat b)=cut p++cut (flat b):=Yb (flat b) p [];rw[h3,h2,←Cw] at h1;exact⟨cut p,T9 h1⟩
def Bm3 {n top:List UInt8} (hn:vld n=true) (ht:vld top=true):Ad5 n top=true↔lbl top<:+lbl n:=by
 unfold Ad5;simp only[Cy,decide_eq_true_eq,G6];constructor
 ·rintro ((rfl|rfl)|h)
  ·rw[K2];exact List.nil_suffix
  ·exact List.suffix_refl _
  ·rcases vld_cases ht with⟨h1,h2⟩|⟨h1,h2,h3,_⟩
   ·rw[h2];exact List.nil_suffix
   ·rcases vld_cases hn with⟨h5,_⟩|⟨h5,h6,h7,_⟩
    ·rw[h5] at h;have h9:=h.length_le;have h8:=Kv h2 h1;rw[←h3] at h8;simp only[Cv,C3] at h9;omega
    ·rw[h3,h7] at h;exact Ad1 h6 h2 h
 ·intro h;obtain⟨p,hp⟩:=h;rcases vld_cases ht with⟨h1,h2⟩|⟨h1,h2,h3,_⟩
  ·exact .inl (.inl h1)
  ·by_cases hp0:p=[]
   ·left;right;subst hp0;exact On hn ht hp.symm
   ·right;rcases vld_cases hn with⟨_,h5⟩|⟨h5,h6,h7,_⟩
    ·rw[h5] at hp;exact absurd (List.append_eq_nil_iff.1 hp).1 hp0
    ·obtain⟨m,hm⟩:=Mh p hp0;rw[h7,←hp,P7,hm];exact⟨m,by rw[Cw,←h3];simp⟩
def Z2 {α:Type} [DecidableEq α]:∀(a b:List α),Vk a b=b.length↔b<+:a
 |[],[]=>by simp[Vk]
 |[],y::ys=>by simp[Vk]
 |x::xs,[]=>by simp[Vk]
 |x::xs,y::ys=>by
  have:=Z2 xs ys;simp only[Vk];split
  ·rename_i h;subst h;simp[this,J7]
  ·rename_i h;simp[J7,Ne.symm h]
def sy (a b:List (List UInt8)):Jz a b=b.length↔b<:+a:=by unfold Jz;have:=Z2 a.reverse b.reverse;rw[List.length_reverse] at this;rw[this,Gy2]
def C2 {n top:List UInt8}:under n top=true↔vld n=true∧vld top=true∧lbl top<:+lbl n:=by unfold under;simp[sy,and_assoc]
def dx {n top:List UInt8} (hn:vld n=true) (ht:vld top=true):Ad5 n top=under n top:=by rw[D9,Bm3 hn ht,C2];simp[hn,ht]
def Gj (n top:List UInt8) (hn:n.length≤9223372036854775807) (ht:top.length≤9223372036854775807):S Od 2 [.s n,.s top]=some [.b (under n top)]:=by
 refine Jg8 (N:=1) rfl ?_;rcases Bl (vld n) with h1|h1
 ·rcases Bl (vld top) with h2|h2
  ·have h3:=Gc h2;simp(disch:=omega)only[Gz3,Dq,mm,h1,h2,Aj,simprocAttr];rw[dx h1 h2]
  ·have h3:under n top=false:=by simp[under,h2]
   simp(disch:=omega)only[Gz3,Dq,h1,h2,h3,Aj,simprocAttr]
 ·have h3:under n top=false:=by simp[under,h1]
  simp(disch:=omega)only[Gz3,Dq,h1,h3,Aj,simprocAttr]
end Go.X.G
/- Names: order, common ancestors, wildcards. -/
namespace Go.X.G
open Go Go.X
def Wk:∀(a:List UInt8),Op.bytesLess a a=false
 |[]=>rfl
 |a::x=>by simp[Op.bytesLess,Wk x]
def Pk:∀(a b:List UInt8),Lib.compareBytes a b=cmpS a b
 |[],[]=>rfl
 |[],_::_=>rfl
 |_::_,[]=>rfl
 |a::x,b::y=>by
  have ih:=Pk x y;unfold cmpS at ih ⊢;simp only[Lib.compareBytes,Op.bytesLess,ih];by_cases h1:a<b
  ·simp[h1]
  ·by_cases h2:b<a
   ·have h3:a≠b:=fun e=>by subst e;exact h1 h2
    simp[h1,h2,h3]
   ·have h3:a=b:=UInt8.le_antisymm (UInt8.not_lt.1 h2) (UInt8.not_lt.1 h1);subst h3;simp[h1]
def Ky {a b:List UInt8}:cmpS a b=0↔a=b:=by
 unfold cmpS;by_cases h:a=b
 ·subst h;simp[Wk]
 ·cases h2:Op.bytesLess a b<;>simp[h]
def Nc (x y:List UInt8):S t7 2 [.s x,.s y]=some [.i .i64 (cmpS x y)]:=by rw[Ar0,Pk]
def Xz:List (List UInt8)→List (List UInt8)→Option Int
 |x::xs,y::ys=>if x=y then Xz xs ys else some (cmpS x y)
 |_,_=>none
def Ex9:∀(a b:List (List UInt8)),Xz a b=if Vk a b<a.length∧Vk a b<b.length then some (cmpS (a.getD (Vk a b) []) (b.getD (Vk a b) [])) else none
 |[],b=>by simp[Xz,Vk]
 |x::xs,[]=>by simp[Xz,Vk]
 |x::xs,y::ys=>by
  have ih:=Ex9 xs ys;simp only[Xz,Vk];by_cases h:x=y
  ·simp only[if_pos h,ih];simp
  ·simp[h]
def Af8 (a b:List (List UInt8)):Int:=match Xz a.reverse b.reverse with
 |some c=>c
 |none=>if a.length<b.length then -1 else if b.length<a.length then 1 else 0
def Bl7 (a:List (List UInt8)) (k:Nat) (h:k<a.length):a.reverse.getD k []=a.getD (a.length - 1 - k) []:=by simp[C6,List.getElem?_reverse h]
def Z3 {a b:List UInt8} (ha:vld a=true) (hb:vld b=true):Jp a b=Af8 (lbl a) (lbl b):=by
 unfold Jp Af8;rw[Ex9];have e:Vk (lbl a).reverse (lbl b).reverse=Jz (lbl a) (lbl b):=rfl;rw[e,ha,hb];simp only[List.length_reverse,Bool.and_self,if_true];by_cases h:Jz (lbl a) (lbl b)<(lbl a).length∧Jz (lbl a) (lbl b)<(lbl b).length
 ·rw[if_pos h,if_pos h,Bl7 _ _ h.1,Bl7 _ _ h.2]
 ·rw[if_neg h,if_neg h]
def Ar2 (a b:List (List UInt8)) (p1 p2 p3 p4:PV) (ha:a.length≤1000) (hb:b.length≤1000) (N:Nat) (hN:1001<N):
  Dr7.ev S N [p1,p2,p3,p4,Cn a,Cn b]=some (match Xz a.reverse b.reverse with|some c=> .ret [.i .i64 c]|none=> .yld 0 []):=by
 have key:=Jc (fn:=S) (N:=N) (η:=[p1,p2,p3,p4,Cn a,Cn b]) (id:=1) (init:=[(.c (.i .i64 (1)))]) (body:=Ef0) (α:=Nat) (fun k=>[.i .i64 ((k:Int)+1)])
  (fun k=>match Xz (a.reverse.drop k) (b.reverse.drop k) with|some c=> .ret [.i .i64 c]|none=> .yld 0 []) (fun k=>k≤a.length∧k≤b.length) (fun k=>a.length - k) 0 rfl ⟨Db _,Db _⟩ (by omega) ?_
 ·simpa [Dr7] using key
 ·rintro k ⟨h1,h2⟩;by_cases h3:k<a.length
  ·by_cases h4:k<b.length
   ·have e1:((a.length:Int) - ((k:Int)+1)).toNat=a.length - 1 - k:=by omega
    have e2:((b.length:Int) - ((k:Int)+1)).toNat=b.length - 1 - k:=by omega
    have g1:a[a.length - 1 - k]? =some (a[a.length - 1 - k]'(by omega)):=Bs (by omega);have g2:b[b.length - 1 - k]? =some (b[b.length - 1 - k]'(by omega)):=Bs (by omega);have d1:a.reverse.drop k=(a[a.length - 1 - k]'(by omega))::a.reverse.drop (k+1):=by rw[Dy (by simpa using h3)];simp
    have d2:b.reverse.drop k=(b[b.length - 1 - k]'(by omega))::b.reverse.drop (k+1):=by rw[Dy (by simpa using h4)];simp
    rw[d1,d2];generalize (a[a.length - 1 - k]'(by omega))=x at g1;generalize (b[b.length - 1 - k]'(by omega))=y at g2;simp only[Xz];by_cases h:x=y
    ·left;have h5:cmpS x y=0:=Ky.2 h;refine⟨k+1,?_,⟨by omega,by omega⟩,by omega,by rw[if_pos h]⟩;simp(disch:=omega)only[Aq6,Nc,e1,e2,g1,g2,h5,Aj,simprocAttr]
    ·right;have h5:¬cmpS x y=0:=fun e=>h (Ky.1 e);rw[if_neg h];simp(disch:=omega)only[Aq6,Nc,e1,e2,g1,g2,h5,Aj,simprocAttr];simp[Out.goes]
   ·right;have d2:b.reverse.drop k=[]:=Hz (by simp;omega);have z:Xz (a.reverse.drop k) []=none:=by cases a.reverse.drop k<;>rfl
    rw[d2,z];simp(disch:=omega) [Aq6,xe,EVP,EV,simprocAttr,Out.goes]
  ·right;have d1:a.reverse.drop k=[]:=Hz (by simp;omega);have z:Xz [] (b.reverse.drop k)=none:=rfl;rw[d1,z];simp(disch:=omega) [Aq6,xe,EVP,EV,simprocAttr,Out.goes]
def J3 (a b:List UInt8) (hn:a.length≤9223372036854775807) (ht:b.length≤9223372036854775807):S Rx 2 [.s a,.s b]=some [.i .i64 (Jp a b)]:=by
 refine Jg7 (N:=1002) rfl ?_;have h1:=Gl a;have h2:=Gl b;rcases Bl (vld a) with h3|h3<;>rcases Bl (vld b) with h4|h4
 ·rw[Z3 h3 h4];unfold Af8;have hk:=Ar2 (lbl a) (lbl b) (.s a) (.s b) (.b true) (.b true) (by omega) (by omega) 1002 (by omega);cases h5:Xz (lbl a).reverse (lbl b).reverse with
  |some c=>
   rw[h5] at hk;simp(disch:=omega)only[Aq6,Dq,Vb,hk,h3,h4,Aj,simprocAttr]
  |none=>
   rw[h5] at hk;simp(disch:=omega)only[Aq6,Dq,Vb,hk,h3,h4,Aj,simprocAttr]
   grind
 all_goals unfold Jp
 all_goals simp(disch:=omega)only[Aq6,Dq,Nc,h3,h4,Aj,simprocAttr]
 all_goals simp
def I9 (a b:List UInt8):List UInt8:=if vld a=true∧vld b=true then jn ((lbl a).drop ((lbl a).length - Jz (lbl a) (lbl b))) else []
def qn {α:Type} [DecidableEq α]:∀(a b:List α) (j:Nat),j≤a.length→(a.take j<+:b↔j≤Vk a b)
 |_,_,0,_=>by simp
 |[],_,j+1,h=>by simp at h
 |x::xs,[],j+1,h=>by simp[Vk]
 |x::xs,y::ys,j+1,h=>by
  have:=qn xs ys j (by simpa using h);simp only[Gy1,Vk,J7];by_cases hxy:x=y
  ·simp[hxy,this]
  ·simp[hxy]
def Ew9 (a b:List (List UInt8)) (k:Nat) (h:k≤a.length):a.drop k<:+b↔a.length - k≤Jz a b:=by unfold Jz;rw[←qn _ _ _ (by simp),←Gy2,List.reverse_drop]
def Gh5 (l:List (List UInt8)) (hl:l.length≤1000) (hw:∀x∈l,x.length≤1000) (N:Nat) (hN:l.length<N):
  Ab8.ev S N [Cn l]=some (.yld 0 [.s (flat l)]):=by
 have key:Ab8.ev S N [Cn l]=some (.yld 0 [.s ([]++flat l)]):=by
  refine Ed l (fun i (g:List UInt8)=>[.s g,.i .i64 (i:Int)]) (fun i g r=> .yld 0 [.s (g++flat r)]) (fun i g=>g.length≤1001*i) [] rfl (B7 _) hN (fun i g c r hd hi hc hI=> ?_) (fun g hI=> ?_)
  ·left;have h1:=hw c (Ck hc);have h0:([46]:List UInt8).length=1:=rfl;refine⟨g++c++[46],?_,by simp;omega,by simp[flat]⟩;simp(disch:=first|omega|(simp only[B3];omega))only[As8,hc,Aj,simprocAttr]
  ·simp(disch:=omega)only[As8,Aj,simprocAttr];simp[flat,Out.goes]
 simpa using key
def Dg5 (l:List (List UInt8)) (hl:l.length≤1000) (hw:∀x∈l,x.length≤1000):S fg 1 [Cn l]=some [.s (jn l)]:=by
 refine Hn7 (N:=l.length+1) rfl ?_;unfold jn;by_cases h:l=[]
 ·subst h;simp(disch:=first|omega|(simp;omega))only[As8,Aj,simprocAttr]
 ·have h1:0<l.length:=Cl.2 h;have hk:=Gh5 l hl hw (l.length+1) (by omega);simp(disch:=omega)only[As8,hk,h,Aj,simprocAttr]
def Dn7 (n:List UInt8):∀x∈lbl n,x.length≤1000:=fun x hx=>by have:=U6 (Dn8 n x hx);omega
def Tz {n:List UInt8} (h:vld n=true) (k:Nat):(jn ((lbl n).drop k)).length≤254:=Gc (L2 h k).1
def Eh7 (a b:List UInt8) (p1 p2 p3 p4:PV) (ha:vld a=true) (hb:vld b=true) (N:Nat) (hN:300<N) (hp1:p1= .s a) (hp2:p2= .s b):
  Ab9.ev S N [p1,p2,p3,p4]=some (.yld 0 [.s (I9 a b)]):=by
 subst hp1;subst hp2;have hl:=Gl a;have hs:=Bd8 (lbl a) (lbl b);have hla:=Gc ha;have hlb:=Gc hb;have ec:I9 a b=jn ((lbl a).drop ((lbl a).length - Jz (lbl a) (lbl b))):=by unfold I9;rw[if_pos ⟨ha,hb⟩]
 have key:=Jc (fn:=S) (N:=N) (η:=[.s a,.s b,p3,p4]) (id:=1) (init:=[(.v 0)]) (body:=An4) (α:=Nat) (fun k=>[.s (jn ((lbl a).drop k))])
  (fun k=> .yld 0 [.s (I9 a b)]) (fun k=>k+Jz (lbl a) (lbl b)≤(lbl a).length) (fun k=>(lbl a).length - k) 0 (by
   have:jn ((lbl a).drop 0)=a:=by rw[Fx];exact(Oj ha).symm
   rw[this];rfl) (by omega) (by omega) ?_
 ·simpa [Ab9] using key
 ·intro k hk;obtain⟨hv,hlk⟩:=L2 ha k;have hlen:=Tz ha k;have he:Ad5 b (jn ((lbl a).drop k))=true↔(lbl a).length - k≤Jz (lbl a) (lbl b):=by rw[Bm3 hb hv,hlk,Ew9 _ _ _ (by omega)]
  by_cases h:(lbl a).length - k≤Jz (lbl a) (lbl b)
  ·right;have h1:=he.2 h;have h2:(lbl a).length - Jz (lbl a) (lbl b)=k:=by omega
   simp(disch:=omega)only[pn,mm,h1,Aj,simprocAttr];rw[ec,h2];simp[Out.goes]
  ·left;have h1:Ad5 b (jn ((lbl a).drop k))=false:=by rw[R6];intro h2;exact h (he.1 h2)
   have h2:parentN (jn ((lbl a).drop k))=jn ((lbl a).drop (k+1)):=by
    unfold parentN;have h3:jn ((lbl a).drop k)≠[46]:=by intro e;have:=(Nq hv).2 e;rw[hlk] at this;have:=congrArg List.length this;simp at this;omega
    rw[if_pos ⟨hv,h3⟩,hlk,D5]
   refine⟨k+1,?_,by omega,by omega,rfl⟩;simp(disch:=omega)only[pn,mm,Qy,h1,h2,Aj,simprocAttr]
def Cl8 (a b:List UInt8) (ha:a.length≤9223372036854775807) (hb:b.length≤9223372036854775807):S fm 2 [.s a,.s b]=some [.s (I9 a b)]:=by
 refine Hn9 (N:=301) rfl ?_;rcases Bl (vld a) with h3|h3
 ·rcases Bl (vld b) with h4|h4
  ·have hk:=Eh7 a b (.s a) (.s b) (.b true) (.b true) h3 h4 301 (by omega) rfl rfl;simp(disch:=omega)only[pn,Dq,hk,h3,h4,Aj,simprocAttr]
  ·simp(disch:=omega)only[pn,Dq,h3,h4,Aj,simprocAttr];simp[I9,h4]
 ·simp(disch:=omega)only[pn,Dq,h3,Aj,simprocAttr];simp[I9,h3]
def Hk6 (n:List UInt8):Int:=if n=[46] then 1 else if vld n=true then(n.length:Int)+1 else 0
def Eh0 (n:List UInt8) (hn:n.length≤9223372036854775807):S fh 1 [.s n]=some [.i .i64 (Hk6 n)]:=by
 refine Hn8 (N:=1) rfl ?_;unfold Hk6;by_cases h:n=[46]
 ·simp(disch:=omega)only[Cs1,h,Aj,simprocAttr]
 ·rcases Bl (vld n) with h3|h3
  ·have:=Gc h3;simp(disch:=omega)only[Cs1,Dq,h,h3,Aj,simprocAttr]
  ·simp(disch:=omega)only[Cs1,Dq,h,h3,Aj,simprocAttr]
def Ox (n:List UInt8):List UInt8:=if n=[46] then [42,46] else [42,46]++n
def starOk (n:List UInt8):Bool:=vld n && !decide ((lbl n)[0]? =some [42]) && vld (Ox n)
def starN (n:List UInt8):List UInt8:=if starOk n=true then Ox n else []
def Bt5 (n:List UInt8) (hn:n.length≤1000000):S Cz5 1 [.s n]=some [.s (starN n),.b (starOk n)]:=by
 refine Jf6 (N:=1) rfl ?_;have h0:([42,46]:List UInt8).length=2:=rfl;have hl:(Ox n).length≤9223372036854775807:=by
  unfold Ox;split
  ·simp
  ·rw[B3,h0];omega
 have h1:=Gl n;unfold starN starOk;rcases Bl (vld n) with h3|h3
 ·have tail:∀(q:List (List UInt8)),(¬q[0]? =some [42])→T.ev S 1 Ey8 [.s n,Cn q,.b true]=some (.ret (if vld (Ox n)=true then [.s (Ox n),.b true] else [.s [],.b false])):=by
   intro q _;unfold Ox at hl ⊢;by_cases h4:n=[46]
   ·simp only[if_pos h4] at hl ⊢;rcases Bl (vld [42,46]) with h5|h5<;>simp(disch:=omega)only[Aq5,Gx,h4,h5,Aj,simprocAttr]
   ·simp only[if_neg h4] at hl ⊢;rcases Bl (vld ([42,46]++n)) with h5|h5<;>simp(disch:=omega)only[Aq5,Gx,h4,Aj,simprocAttr]<;>simp only[Dd,Dc] at h5 hl<;>simp(disch:=omega)only[Aq5,Gx,h5,Aj,simprocAttr]<;>simp
  cases hq:lbl n with
  |nil=>
   have ht:=tail [] (by simp);simp(disch:=first|omega|(simp;omega))only[↓ht,Aq5,split_ok,hq,h3,Aj,simprocAttr];rcases Bl (vld (Ox n)) with h5|h5<;>simp[h5]
  |cons p r=>
   have h6:0<((p::r).length:Int):=by simp only[Cv];omega
   by_cases h7:p=[42]
   ·subst h7;simp(disch:=first|omega|(simp only[Cv];omega))only[Aq5,split_ok,hq,h3,Aj,simprocAttr];simp
   ·have ht:=tail (p::r) (by simpa using h7);simp(disch:=first|omega|(simp only[Cv];omega))only[↓ht,Aq5,split_ok,hq,h3,h7,Aj,simprocAttr];rcases Bl (vld (Ox n)) with h5|h5<;>simp[h5,h7]
 ·simp(disch:=omega)only[Aq5,split_ok,h3,Aj,simprocAttr];simp
def Uf {n:List UInt8} (h:vld n=true):(n[0]? =some 42↔(lbl n)[0]? =some [42]):=by
 rcases vld_cases h with⟨h1,h2⟩|⟨h1,h2,h3,_⟩
 ·subst h1;simp[K2]
 ·cases hl:lbl n with
  |nil=>exact absurd hl h1
  |cons p r=>
   rw[hl] at h2 h3;have hp:=Hc h2 (If ..);have hne:=mj hp;cases p with
   |nil=>exact absurd rfl hne
   |cons c q=>
    rw[h3,Ml];simp only[Dd,Dh,Bn];constructor
    ·rintro rfl;unfold K4 at hp;simp at hp;rcases hp with h|h
     ·rw[h]
     ·exfalso;have:Tv 42=false:=by decide
      rw[this] at h;simp at h
    ·intro h;injection h
def Xh (n:List UInt8) (hn:n.length≤1000000):S Ay7 1 [.s n]=some [.s (starN n),.b (starOk n)]:=by
 refine Jc2 (N:=1) rfl ?_;have h0:([42,46]:List UInt8).length=2:=rfl;have hl:(Ox n).length≤9223372036854775807:=by
  unfold Ox;split
  ·simp
  ·rw[B3,h0];omega
 unfold starN starOk;have tail:T.ev S 1 Ez0 [.s n,.s (Ox n)]=some (.ret [.s (starN n),.b (starOk n)]):=by
  unfold starN starOk;rcases Bl (vld n) with h3|h3
  ·have h4:=Uf h3;have h5:=Bs (Sd h3);have h6:=En7 (n[0]'(Sd h3)) 42 (by omega);by_cases h7:(lbl n)[0]? =some [42]
   ·have h8:=h4.2 h7;rw[h5] at h8;injection h8 with h8;have h9:((n[0]'(Sd h3)).toNat:Int)=42:=h6.2 h8;simp(disch:=omega)only[En0,Dq,h3,h5,Aj,simprocAttr];simp[h7]
   ·have h8:¬n[0]? =some 42:=fun e=>h7 (h4.1 e);rw[h5] at h8;have h9:¬((n[0]'(Sd h3)).toNat:Int)=42:=fun e=>h8 (by rw[h6.1 e];rfl);rcases Bl (vld (Ox n)) with ha|ha<;>simp(disch:=omega)only[En0,Dq,h3,h5,ha,Aj,simprocAttr]<;>simp[h7]
  ·simp(disch:=omega)only[En0,Dq,h3,Aj,simprocAttr];simp
 unfold starN starOk at tail;obtain⟨y0,y1,y2,y3,y4,y5,y6,y7,yt⟩:=En0;by_cases h4:n=[46]
 ·have e:Ox n=[42,46]:=by simp[Ox,h4]
  rw[e] at tail ⊢;subst h4;simp(disch:=omega)only[y0,y1,y2,yt,Aj,simprocAttr];rw[tail];simp
 ·have e:Ox n=42::46::n:=by simp[Ox,h4]
  rw[e] at tail ⊢;simp(disch:=omega)only[y0,y1,y2,yt,h4,Aj,simprocAttr];rw[tail];simp
end Go.X.G
/- Data of records: what the reference's functions give. -/
namespace Go.X.G
open Go Go.X
def Jj0 (t:Int):List UInt8:=
 if t=1 then [65] else if t=2 then [78,83] else if t=5 then [67,78,65,77,69] else if t=6 then [83,79,65] else if t=12 then [80,84,82]
 else if t=15 then [77,88] else if t=16 then [84,88,84] else if t=28 then [65,65,65,65] else if t=33 then [83,82,86] else if t=39 then [68,78,65,77,69]
 else if t=43 then [68,83] else if t=46 then [82,82,83,73,71] else if t=47 then [78,83,69,67] else if t=48 then [68,78,83,75,69,89] else []
def t15 (t:Int):t=1∨t=2∨t=5∨t=6∨t=12∨t=15∨t=16∨t=28∨t=33∨t=39∨t=43∨t=46∨t=47∨t=48∨(t≠1∧t≠2∧t≠5∧t≠6∧t≠12∧t≠15∧t≠16∧t≠28∧t≠33∧t≠39∧t≠43∧t≠46∧t≠47∧t≠48):=by omega
def Ap8 (t:Int):S vw 1 [.i .i64 t]=some [.s (Jj0 t)]:=by
 refine Hl7 (N:=1) rfl ?_;rcases t15 t with rfl|rfl|rfl|rfl|rfl|rfl|rfl|rfl|rfl|rfl|rfl|rfl|rfl|rfl|⟨h0,h1,h2,h3,h4,h5,h6,h7,h8,h9,h10,h11,h12,h13⟩
 all_goals simp(disch:=omega)only[Hw5,Aj,simprocAttr]
 all_goals first|rfl|(unfold Jj0;simp only[if_neg, *];rfl)
def knw (t:Int):Bool:=decide (t=1)||decide (t=2)||decide (t=5)||decide (t=6)||decide (t=12)||decide (t=15)||decide (t=16)||decide (t=28)||decide (t=33)||decide (t=39)||decide (t=43)||decide (t=46)||decide (t=47)||decide (t=48)
def Fd9 (t:Int):decide (Jj0 t≠[])=knw t:=by
 unfold Jj0 knw;rcases t15 t with rfl|rfl|rfl|rfl|rfl|rfl|rfl|rfl|rfl|rfl|rfl|rfl|rfl|rfl|⟨h0,h1,h2,h3,h4,h5,h6,h7,h8,h9,h10,h11,h12,h13⟩
 all_goals simp[*]
def Ds (t:Int):S Og 1 [.i .i64 t]=some [.b (knw t)]:=by refine Hr3 (N:=1) rfl ?_;simp(disch:=omega)only[Hx5,Ap8,Fd9,Aj,simprocAttr]
def Aj1 (t:Int):S vz 1 [.i .i64 t]=some [.b (decide (t=6)||decide (t=5)||decide (t=39))]:=by refine Hl8 (N:=1) rfl ?_;simp(disch:=omega)only[Hw6,Aj,simprocAttr]
def Fp (d:Dat):Bool:=d.v6||(decide (d.hi=0) && decide (d.lo<4294967296))
def z8 (d:Dat):S ew 1 [Lg d]=some [.b (Fp d)]:=by refine Hh3 (N:=1) rfl ?_;unfold Fp;cases h:d.v6<;>by_cases h2:d.hi=0<;>simp(disch:=omega) [Hv6,h,h2,Aj,simprocAttr]
def inB (n most:Int):Bool:=decide (0≤n) && decide (n≤most)
def Cc1 (n m:Int):S It 2 [.i .i64 n,.i .i64 m]=some [.b (inB n m)]:=by refine Hh0 (N:=1) rfl ?_;simp(disch:=omega)only[Hv4,inB,Aj,simprocAttr]
def Eg0 (n:Int):S u7 1 [.i .i64 n]=some [.b (inB n 4294967295)]:=by refine Hh1 (N:=1) rfl ?_;simp(disch:=omega)only[Hv5,inB,Aj,simprocAttr];congr 5;simp;omega
def Iq (s:List UInt8):Bool:=decide (1≤s.length) && decide (s.length≤255)
def j7 (s:List UInt8):S Ys 1 [.s s]=some [.b (Iq s)]:=by refine Hg9 (N:=1) rfl ?_;simp(disch:=omega)only[Hv3,Iq,Aj,simprocAttr];congr 5<;>simp<;>omega
def Cs8 {n:List UInt8} (h:vld n=true):0<n.length:=by
 unfold vld nm at h;split at h
 ·rename_i e;simp[e]
 ·split at h
  ·omega
  ·cases h
def Hr (n:List UInt8):Bool:=vld n && decide (n[0]? ≠some 42)
def J6 (n:List UInt8) (hn:n.length≤9223372036854775807):S Qm 1 [.s n]=some [.b (Hr n)]:=by
 refine Hh2 (N:=1) rfl ?_;unfold Hr;cases h:vld n
 ·simp(disch:=omega)only[Fp6,Gx,h,Aj,simprocAttr];rfl
 ·have h0:=Bs (Cs8 h);have h1:=En7 (n[0]'(Cs8 h)) 42 (by omega);simp(disch:=omega)only[Fp6,Gx,h,h0,Aj,simprocAttr];simp;exact h1
def bit (set:Int) (t:Nat):Int:=set / 2 ^ t % 2
def Hq4 (x:Int):IntKind.u64.wrap ((BitVec.ofInt IntKind.u64.bits x &&& BitVec.ofInt IntKind.u64.bits 1).toNat:Int)=x % 2:=by
 have h2:(BitVec.ofInt 64 x &&& BitVec.ofInt 64 1).toNat=(BitVec.ofInt 64 x).toNat % 2:=by rw[BitVec.toNat_and];show (BitVec.ofInt 64 x).toNat &&& 1=_;exact Nat.and_one_is_mod _
 show IntKind.u64.wrap (((BitVec.ofInt 64 x &&& BitVec.ofInt 64 1).toNat:Nat):Int)=_;rw[h2,BitVec.toNat_ofInt];rw[Fr8]<;>omega
end Go.X.G
/- NSEC records: what they show. -/
namespace Go.X.G
open Go Go.X
def Ay3 (n t:Nat):n &&& 2 ^ t=(n.testBit t).toNat*2 ^ t:=by
 apply Nat.eq_of_testBit_eq;intro i;rw[Nat.testBit_and,Nat.testBit_two_pow];by_cases h:t=i
 ·subst h;cases h2:n.testBit t<;>simp
 ·cases h2:n.testBit t<;>simp[h,Nat.testBit_two_pow]
def Hj7 (x:Int) (t:Nat) (ht:t<64):IntKind.u64.wrap ((BitVec.ofInt IntKind.u64.bits x &&& BitVec.ofInt IntKind.u64.bits (2 ^ t)).toNat:Int)=if bit x t=1 then 2 ^ t else 0:=by
 have hp:(2 ^ t:Nat)<2 ^ 64:=Nat.pow_lt_pow_right (by decide) ht;have h1:(BitVec.ofInt 64 ((2:Int) ^ t)).toNat=2 ^ t:=by
  rw[BitVec.toNat_ofInt];have e:((2:Int) ^ t)=((2 ^ t:Nat):Int):=by simp
  rw[e,←Int.natCast_emod,F0];exact Fq hp
 have h2:(BitVec.ofInt 64 x &&& BitVec.ofInt 64 ((2:Int) ^ t)).toNat=((BitVec.ofInt 64 x).toNat.testBit t).toNat*2 ^ t:=by rw[BitVec.toNat_and,h1,Ay3]
 show IntKind.u64.wrap (((BitVec.ofInt 64 x &&& BitVec.ofInt 64 ((2:Int) ^ t)).toNat:Nat):Int)=_;have h3:(BitVec.ofInt 64 x).toNat.testBit t=decide (bit x t=1):=by
  rw[BitVec.toNat_ofInt,Nat.testBit_eq_decide_div_mod_eq,decide_eq_decide];unfold bit;have hpos:(0:Int)<2 ^ t:=Int.pow_pos (by decide);have hb:0≤x % ((2 ^ 64:Nat):Int):=Int.emod_nonneg _ (by decide);have e1:(((x % ((2 ^ 64:Nat):Int)).toNat / 2 ^ t % 2:Nat):Int)=x % ((2 ^ 64:Nat):Int) / 2 ^ t % 2:=by rw[Int.natCast_emod,Int.natCast_ediv,Int.toNat_of_nonneg hb];simp
  have e2:x % ((2 ^ 64:Nat):Int) / 2 ^ t % 2=x / 2 ^ t % 2:=by
   have hs:((2 ^ 64:Nat):Int)=2 ^ t*(2*2 ^ (63 - t)):=by
    have:(2:Int) ^ 64=2 ^ t*(2*2 ^ (63 - t)):=by rw[←Int.mul_assoc,←Int.pow_succ,←Int.pow_add];congr 1;omega
    simpa using this
   have hx:x=((2 ^ 64:Nat):Int)*(x / ((2 ^ 64:Nat):Int))+x % ((2 ^ 64:Nat):Int):=(Int.mul_ediv_add_emod x _).symm;have hd:x / 2 ^ t=(2*2 ^ (63 - t))*(x / ((2 ^ 64:Nat):Int))+x % ((2 ^ 64:Nat):Int) / 2 ^ t:=by
    have:x=2 ^ t*((2*2 ^ (63 - t))*(x / ((2 ^ 64:Nat):Int)))+x % ((2 ^ 64:Nat):Int):=by rw[←Int.mul_assoc,←hs];exact hx
    calc x / 2 ^ t=(2 ^ t*((2*2 ^ (63 - t))*(x / ((2 ^ 64:Nat):Int)))+x % ((2 ^ 64:Nat):Int)) / 2 ^ t:=by rw[←this]
     _=_:=by rw[Int.mul_add_ediv_left _ _ (Int.ne_of_gt hpos)]
   rw[hd,Int.mul_assoc];omega
  rw[←e2,←e1];generalize (x % ((2 ^ 64:Nat):Int)).toNat / 2 ^ t % 2=q;omega
 rw[h2,h3];have hq:((2 ^ t:Nat):Int)≤9223372036854775808:=by have:(2 ^ t:Nat)≤2 ^ 63:=Nat.pow_le_pow_right (by decide) (by omega);omega
 by_cases hb:bit x t=1
 ·simp only[hb,decide_true,Bool.toNat_true,Gh,if_true];rw[Fr8 (by omega) (by omega)];simp
 ·simp only[hb,decide_false,Bool.toNat_false,Nat.zero_mul,if_false];rw[Fr8 (by omega) (by omega)];simp
def V6 (r:Rec) (t:Int):Bool:=decide (0≤t) && decide (t≤63) && decide (bit r.data.bits t.toNat=1)
def Mf (r:Rec) (t:Int):S Wz 2 [r.pv,.i .i64 t]=some [.b (V6 r t)]:=by
 refine Jz8 (N:=1) rfl ?_;unfold V6;by_cases h1:0≤t
 ·by_cases h2:t≤63
  ·obtain⟨n,rfl⟩:∃n:Nat,t=(n:Int):=⟨t.toNat,by omega⟩;have hb:IntKind.u64.bits=64:=rfl;have h3:X.bin .shr (.i .u64 r.data.bits) (.i .i64 (n:Int))=some (.i .u64 (r.data.bits / 2 ^ n)):=Aw5 _ _ _ _ (by rw[hb];omega);have h4:r.data.bits / 2 ^ n % 2=bit r.data.bits n:=rfl;simp(disch:=omega)only[Gy9,Pw,Hq4,h3,h4,Aj,simprocAttr]
   try simp
   try omega
  ·simp(disch:=omega)only[Gy9,Aj,simprocAttr]
   try simp[h2]
 ·simp(disch:=omega)only[Gy9,Aj,simprocAttr]
  try simp[h1]
def T1 (n:Nat) (h:n<64):S Rw 1 [.i .i64 (n:Int)]=some [.i .u64 (2 ^ n)]:=by
 refine Jc6 (N:=1) rfl ?_;have hb:IntKind.u64.bits=64:=rfl;have h1:min n 64=n:=by omega
 have hp:(2:Int) ^ n≤18446744073709551615:=by
  have h2:(2 ^ n:Nat)≤2 ^ 63:=Nat.pow_le_pow_right (by decide) (by omega);have h3:((2:Int) ^ n)=((2 ^ n:Nat):Int):=by simp
  rw[h3];omega
 have hp0:(0:Int)≤2 ^ n:=Int.le_of_lt (Int.pow_pos (by decide));have h4:¬((n:Int)<0):=by omega
 simp(disch:=omega)only[Jq5,Al9,hb,h1,h4,Int.one_mul,Aj,simprocAttr]
def Bl5 (r:Rec) (t:Int):S Az2 2 [r.pv,.i .i64 t]=some [.b (V6 r t)]:=by
 refine Jg2 (N:=1) rfl ?_;unfold V6;by_cases h1:0≤t
 ·by_cases h2:t≤63
  ·obtain⟨n,rfl⟩:∃n:Nat,t=(n:Int):=⟨t.toNat,by omega⟩;have h3:=Hj7 r.data.bits n (by omega);have hp0:(0:Int)<2 ^ n:=Int.pow_pos (by decide);simp(disch:=omega)only[Gz2,T1,Pw,h3,Aj,simprocAttr];by_cases h4:bit r.data.bits n=1
   ·simp[h4];omega
   ·simp[h4]
  ·simp(disch:=omega)only[Gz2,Aj,simprocAttr]
   try simp[h2]
 ·simp(disch:=omega)only[Gz2,Aj,simprocAttr]
  try simp[h1]
def Nr (n top:List UInt8):Bool:=decide (n≠top) && under n top
def Jj (n top:List UInt8) (hn:n.length≤9223372036854775807) (ht:top.length≤9223372036854775807):S Az3 2 [.s n,.s top]=some [.b (Nr n top)]:=by
 refine Jg6 (N:=1) rfl ?_;unfold Nr;by_cases h:n=top
 ·simp(disch:=omega)only[Hq9,h,Aj,simprocAttr]
  try simp
 ·simp(disch:=omega)only[Hq9,Gj,h,Aj,simprocAttr]
  try simp
def iz (r:Rec):Bool:=V6 r 39||(V6 r 2 && !V6 r 6)
def Bn7 (r:Rec):S Dl6 1 [r.pv]=some [.b (iz r)]:=by refine Jg5 (N:=1) rfl ?_;unfold iz;rcases Bl (V6 r 39) with h1|h1<;>rcases Bl (V6 r 2) with h2|h2<;>rcases Bl (V6 r 6) with h3|h3<;>simp(disch:=omega)only[Jv7,Mf,h1,h2,h3,Aj,simprocAttr]<;>rfl
def Hh (r:Rec) (zone name:List UInt8):Bool:=
 decide (r.typ=47) && under name zone && decide (0<Jp name r.name) && !(decide (r.data.host≠zone) && decide (0≤Jp name r.data.host)) && (!Nr name r.name|| !iz r)
def Pg (r:Rec) (zone name:List UInt8) (hr:r.wf) (hz:zone.length≤9223372036854775807) (hn:name.length≤9223372036854775807):S l5 3 [r.pv,.s zone,.s name]=some [.b (Hh r zone name)]:=by
 refine Jl0 (N:=1) rfl ?_;have g1:=hr.name;have g2:=hr.data.host;unfold Lh at g1 g2;unfold Hh;by_cases h1:r.typ=47
 ·rcases Bl (under name zone) with h2|h2
  ·by_cases h3:0<Jp name r.name
   ·by_cases h4:r.data.host=zone
    ·rcases Bl (Nr name r.name) with h6|h6<;>rcases Bl (iz r) with h7|h7<;>simp(disch:=omega)only[Cj6,Gj,J3,Jj,Bn7,h1,h2,h4,h6,h7,Aj,simprocAttr]<;>simp[h3]
    ·by_cases h5:0≤Jp name r.data.host
     ·simp(disch:=omega)only[Cj6,Gj,J3,h1,h2,h4,Aj,simprocAttr]
      try simp[h4,h5]
     ·rcases Bl (Nr name r.name) with h6|h6<;>rcases Bl (iz r) with h7|h7<;>simp(disch:=omega)only[Cj6,Gj,J3,Jj,Bn7,h1,h2,h4,h6,h7,Aj,simprocAttr]<;>simp[h3,h5]
   ·simp(disch:=omega)only[Cj6,Gj,J3,h1,h2,Aj,simprocAttr]
    try simp[h3]
  ·simp(disch:=omega)only[Cj6,Gj,h1,h2,Aj,simprocAttr]
   try simp
 ·simp(disch:=omega)only[Cj6,h1,Aj,simprocAttr]
  try simp
def Ex7 (a:List UInt8):Jp a a=0:=by
 rcases Bl (vld a) with h|h
 ·rw[Z3 h h];unfold Af8;have:∀l:List (List UInt8),Xz l l=none:=by
   intro l;induction l with
   |nil=>rfl
   |cons x xs ih=>simp[Xz,ih]
  rw[this];simp
 ·unfold Jp;simp[h,Ky]
def ax (r:Rec) (zone name:List UInt8) (hr:r.wf) (hz:zone.length≤9223372036854775807) (hn:name.length≤9223372036854775807):S Cb3 3 [r.pv,.s zone,.s name]=some [.b (Hh r zone name)]:=by
 refine Jh9 (N:=1) rfl ?_;have g1:=hr.name;have g2:=hr.data.host;unfold Lh at g1 g2;unfold Hh;by_cases h1:r.typ=47
 ·rcases Bl (under name zone) with h2|h2
  ·by_cases h3:0<Jp name r.name
   ·have hne:name≠r.name:=fun e=>by rw[←e,Ex7] at h3;omega
    have hbel:Nr name r.name=under name r.name:=by simp[Nr,hne]
    rw[hbel];unfold iz;by_cases h4:r.data.host=zone
    ·rcases Bl (under name r.name) with h6|h6<;>rcases Bl (V6 r 39) with h7|h7<;>rcases Bl (V6 r 6) with h8|h8<;>rcases Bl (V6 r 2) with h9|h9<;>simp(disch:=omega)only[Cj5,Gy,J4,Bl5,h1,h2,h4,h6,h7,h8,h9,Aj,simprocAttr]<;>simp[h3]
    ·by_cases h5:0≤Jp name r.data.host
     ·simp(disch:=omega)only[Cj5,Gy,J4,h1,h2,h4,Aj,simprocAttr]
      try simp[h4,h5]
     ·rcases Bl (under name r.name) with h6|h6<;>rcases Bl (V6 r 39) with h7|h7<;>rcases Bl (V6 r 6) with h8|h8<;>rcases Bl (V6 r 2) with h9|h9<;>simp(disch:=omega)only[Cj5,Gy,J4,Bl5,h1,h2,h4,h6,h7,h8,h9,Aj,simprocAttr]<;>simp[h3,h5]
   ·simp(disch:=omega)only[Cj5,Gy,J4,h1,h2,Aj,simprocAttr]
    try simp[h3]
  ·simp(disch:=omega)only[Cj5,Gy,h1,h2,Aj,simprocAttr]
   try simp
 ·simp(disch:=omega)only[Cj5,h1,Aj,simprocAttr]
  try simp
def Ad6 (r:Rec) (name:List UInt8):List UInt8:=if Hk6 (I9 name r.name)<Hk6 (I9 name r.data.host) then I9 name r.data.host else I9 name r.name
def Nz (a b:List UInt8):(I9 a b).length≤254:=by
 unfold I9;split
 ·rename_i h;exact Tz h.1 _
 ·simp
def Yl (r:Rec) (name:List UInt8) (hr:r.wf) (hn:name.length≤9223372036854775807):S Dg7 2 [r.pv,.s name]=some [.s (Ad6 r name)]:=by refine Jz3 (N:=1) rfl ?_;have g1:=hr.name;have g2:=hr.data.host;unfold Lh at g1 g2;have h1:=Nz name r.name;have h2:=Nz name r.data.host;unfold Ad6;by_cases h:Hk6 (I9 name r.name)<Hk6 (I9 name r.data.host)<;>simp(disch:=omega)only[Jq0,Cl8,Eh0,h,Aj,simprocAttr]
def Ev9 (r:Rec) (name:List UInt8):(Ad6 r name).length≤254:=by
 unfold Ad6;split
 ·exact Nz _ _
 ·exact Nz _ _
def rf (zone name:List UInt8) (r:Rec):Option (List UInt8):=
 if Hh r zone name && !Nr r.data.host name && starOk (Ad6 r name) then some (starN (Ad6 r name)) else none
def starsN (l:List Rec) (zone name:List UInt8):List (List UInt8):=l.filterMap (rf zone name)
def Bd3 (l:List Rec) (zone name:List UInt8) (hw:∀r∈l,r.wf) (hl:l.length≤1000000) (hz:zone.length≤9223372036854775807) (hn:name.length≤9223372036854775807):
  S Cz8 3 [B6 l,.s zone,.s name]=some [Cn (starsN l zone name)]:=by
 refine Jg0 (N:=l.length+1) rfl ?_;have key:Gq6.ev S (l.length+1) [B6 l,.s zone,.s name]=some (.yld 0 [Cn ([]++starsN l zone name)]):=by
  refine Ed l (fun i (g:List (List UInt8))=>[Cn g,.i .i64 (i:Int)]) (fun i g r=> .yld 0 [Cn (g++starsN r zone name)]) (fun i g=>g.length≤i) [] rfl (B7 _) (by omega) (fun i g c r hd hi hc hI=> ?_) (fun g hI=> ?_)
  ·left;have hcw:=hw c (Ck hc);have g2:=hcw.data.host;unfold Lh at g2;have h1:=Pg c zone name hcw hz hn;have h2:=Yl c name hcw hn;have h3:=Ev9 c name;cases h:rf zone name c with
   |some s=>
    refine⟨g++[s],?_,by simp;omega,by simp[starsN,h]⟩;unfold rf at h;split at h
    ·rename_i hc2;injection h with h;subst h;simp only[Br,Cg] at hc2;obtain⟨⟨k1,k2⟩,k3⟩:=hc2;simp(disch:=omega)only[Cj4,hc,h1,h2,Jj,Xh,k1,k2,k3,Aj,simprocAttr]
    ·cases h
   |none=>
    refine⟨g,?_,by omega,by simp[starsN,h]⟩;unfold rf at h;split at h
    ·cases h
    ·rename_i hc2;rcases ch3 (Hh c zone name) (!Nr c.data.host name) (starOk (Ad6 c name)) with e0|⟨e0,e1⟩|⟨e0,e1,e2⟩|⟨e0,e1,e2⟩
     ·simp(disch:=omega)only[Cj4,hc,h1,e0,Aj,simprocAttr]
     ·simp only[Bool.not_eq_false'] at e1;simp(disch:=omega)only[Cj4,hc,h1,Jj,e0,e1,Aj,simprocAttr]
     ·simp only[Cg] at e1;simp(disch:=omega)only[Cj4,hc,h1,h2,Jj,Xh,e0,e1,e2,Aj,simprocAttr]
     ·exact absurd (by simp[e0,e1,e2]) hc2
  ·simp(disch:=omega)only[Cj4,Aj,simprocAttr]
   try simp[starsN,Out.goes]
 simp(disch:=omega)only[Cj4,key,Aj,simprocAttr]
def Mg (v:List UInt8):List (List UInt8)→Nat→Int
 |[],_=> -1
 |x::r,i=>if v=x then(i:Int) else Mg v r (i+1)
def yz (v:List UInt8):∀(l:List (List UInt8)) (i:Nat),decide (0≤Mg v l i)=decide (v∈l)
 |[],i=>by simp[Mg]
 |x::r,i=>by
  simp only[Mg];by_cases h:v=x
  ·simp[h]
  ·simp only[if_neg h,yz v r (i+1)];simp[h]
def Dk7 (l:List (List UInt8)) (v:List UInt8) (hl:l.length≤1000000):S gz 2 [Cn l,.s v]=some [.i .i64 (Mg v l 0)]:=by
 refine Fs4 (N:=l.length+1) rfl ?_;have key:Ac0.ev S (l.length+1) [Cn l,.s v]=some (if Mg v l 0= -1 then .yld 0 [] else .ret [.i .i64 (Mg v l 0)]):=by
  refine E2 l (fun i=>[.i .i64 (i:Int)]) (fun i r=>if Mg v r i= -1 then .yld 0 [] else .ret [.i .i64 (Mg v r i)]) rfl (by omega) (fun i c r hd hi hc=> ?_) ?_
  ·by_cases h:v=c
   ·right;simp(disch:=omega)only[Qg,hc,h,Aj,simprocAttr];have:¬((i:Int)= -1):=by omega
    simp[Mg,this,Out.goes]
   ·left;simp(disch:=omega)only[Qg,hc,h,Aj,simprocAttr]
    try simp[Mg,h]
  ·simp(disch:=omega)only[Qg,Aj,simprocAttr]
   try simp[Mg,Out.goes]
 by_cases h:Mg v l 0= -1
 ·rw[if_pos h] at key;simp(disch:=omega)only[Qg,key,h,Aj,simprocAttr]
 ·rw[if_neg h] at key;simp(disch:=omega)only[Qg,key,Aj,simprocAttr]
def Vp (l:List (List UInt8)) (v:List UInt8) (hl:l.length≤1000000):S bg 2 [Cn l,.s v]=some [.b (decide (v∈l))]:=by refine Hd5 (N:=1) rfl ?_;rw[←yz v l 0];simp(disch:=omega)only[Hq7,Dk7,Aj,simprocAttr]
def O4 (l:List Rec) (zone name star:List UInt8):Bool:=decide (star∈starsN l zone name)
def df (l:List Rec) (zone name:List UInt8):(starsN l zone name).length≤l.length:=List.length_filterMap_le _ _
def Ap9 (l:List Rec) (zone name star:List UInt8) (hw:∀r∈l,r.wf) (hl:l.length≤1000000) (hz:zone.length≤9223372036854775807) (hn:name.length≤9223372036854775807):
  S Dl7 4 [B6 l,.s zone,.s name,.s star]=some [.b (O4 l zone name star)]:=by
 refine Jg9 (N:=1) rfl ?_;have h1:=df l zone name;simp(disch:=omega)only[Jv8,Bd3 l zone name hw hl hz hn,Vp,O4,Aj,simprocAttr]
end Go.X.G
