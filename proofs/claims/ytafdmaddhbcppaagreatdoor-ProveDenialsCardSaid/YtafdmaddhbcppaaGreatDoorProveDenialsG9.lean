/- Names: what the reference's functions give. -/
import Derived.Test.YtafdmaddhbcppaaGreatDoorProveDenialsG7
import Derived.Test.YtafdmaddhbcppaaGreatDoorProveDenialsG8
open Bool renaming eq_false_or_eq_true→Bm,and_eq_true→Br,or_eq_true→Cy,eq_iff_iff→D5,and_true→Ub,eq_false_iff→Ar4
open Int renaming toNat_natCast→Ec
open List renaming getElem?_eq_some_iff→Bp,getElem?_eq_getElem→Bs,length_append→B0,length_cons→Cj,mem_cons→Ck,mem_of_getElem?→Cq,append_assoc→Cv,length_pos_iff→Ch,length_nil→C2,getD_eq_getElem?_getD→C9,take_append_drop→Dq,nil_append→Dw,drop_eq_getElem_cons→Df,cons_append→Dl,take_add_one→Dm,getElem?_cons_zero→Dn,length_map→D2,take_length→E3,flatMap_cons→F3,isSuffixOf_iff_suffix→Hk,drop_eq_nil_of_le→Hh,mem_cons_self→Im,drop_append_of_le_length→Ly,getLast_eq_getElem→L1,cons_prefix_cons→Pm,append_cancel_right→Uy,count_eq_zero→Jw5
open Nat renaming le_refl→B7,zero_le→Dy,mod_eq_of_lt→Fz,one_mul→Gp
open Option renaming map_eq_some_iff→Bt,map_some→Cd
open Option.some renaming injEq→Bn
set_option maxHeartbeats 1000000
set_option linter.defProp false
set_option linter.unusedVariables false
set_option linter.unusedSimpArgs false
namespace Go.X.G
open Go Go.X
def Aj:=And.intro xe<|And.intro EVP EV
def Tx (c:UInt8):Bool:=decide (97≤(c.toNat:Int)) && decide ((c.toNat:Int)≤122)||decide (48≤(c.toNat:Int)) && decide ((c.toNat:Int)≤57)||decide ((c.toNat:Int)=45)||decide ((c.toNat:Int)=95)
def Cy4 (c:UInt8):(decide (97≤(c.toNat:Int)) && decide ((c.toNat:Int)≤122)||decide (48≤(c.toNat:Int)) && decide ((c.toNat:Int)≤57)||decide ((c.toNat:Int)=45)||decide ((c.toNat:Int)=95))=Tx c:=rfl
def K8 (s:List UInt8):Bool:=decide (s=[42])||(decide (1≤s.length) && decide (s.length≤63) && s.all Tx)
def Cy9 (s:List UInt8) (N:Nat) (hN:s.length<N) (hs:s.length≤4294967296):
  Dt6.ev S N [.s s]=some (if s.all Tx=true then .yld 0 [] else .ret [.b false]):=by
 refine Es s (fun i=>[.i .i64 (i:Int)]) (fun i r=>if r.all Tx=true then .yld 0 [] else .ret [.b false]) rfl hN (fun i c r hd hi hc=> ?_) ?_
 ·simp(disch:=omega)only[Cp1,xe,EV,simprocAttr,hc,Cy4];cases h:Tx c<;>simp[h,Out.goes]
 ·simp(disch:=omega) [Cp1,xe,EV,simprocAttr,Out.goes]
def Cy8 (s:List UInt8) (hs:s.length≤4294967296):S wz 1 [.s s]=some [.b (K8 s)]:=by
 refine Ik2 (N:=s.length+1) rfl ?_;simp(disch:=omega)only[Cp1,Cy9,xe,EV,simprocAttr];unfold K8
 grind
end Go.X.G
/- Names: what the reference's functions give. -/
namespace Go.X.G
open Go Go.X
def spl (first:Bool) (cur:List UInt8):List UInt8→Option (List (List UInt8))
 |[]=>some []
 |c::r=>if c=46 then(if K8 cur=true∧(cur=[42]→first=true) then(spl false [] r).map (cur::·) else none) else spl first (cur++[c]) r
def nm (n:List UInt8):Option (List (List UInt8)):=
 if n=[46] then some [] else if 2≤n.length∧n.length≤254∧n[n.length - 1]? =some 46 then spl true [] n else none
def lbl (n:List UInt8):List (List UInt8):=(nm n).getD []
def vld (n:List UInt8):Bool:=(nm n).isSome
def Gh3 {α:Type} (n:List α) (i j:Nat) (c:α) (h:n[i]? =some c) (hj:j≤i):(n.take (i+1)).drop j=(n.take i).drop j++[c]:=by have hi:i<n.length:=(Bp.1 h).1;rw[Dm,h,Ly (by simp;omega)];rfl
def Gh4 {α:Type} (n:List α) (i:Nat):(n.take i).drop i=[]:=by rw[List.drop_eq_nil_iff];simp;omega
def dn (l:List (List UInt8)):Option (List (List UInt8))→Out
 |some ls=> .yld 0 [.l 1 ((l++ls).map .s)]
 |none=> .ret [.l 1 [],.b false]
def Fy3 (n:List UInt8) (N:Nat) (hN:n.length<N) (hs:n.length≤1000):
  Gw9.ev S N [.s n]=some (dn [] (spl true [] n)):=by
 refine D7 n (fun i (g:List (List UInt8)×Nat)=>[.l 1 (g.1.map .s),.i .i64 (g.2:Int),.i .i64 (i:Int)]) (fun i g r=>dn g.1 (spl (decide (g.2=0)) ((n.take i).drop g.2) r)) (fun i g=>g.1.length≤i∧g.2≤i) ([],0) rfl ⟨B7 _,B7 _⟩ hN (fun i g c r hd hi hc hI=> ?_) (fun g hI=> ?_)
 ·obtain⟨l,st⟩:=g;obtain⟨h1,h2⟩:=hI;simp only at h1 h2 ⊢;have hl:((n.take i).drop st).length≤4294967296:=by simp;omega
  have hm:(l.map PV.s).length=l.length:=D2 ..;have hd':=Ep1 c 46 (by omega);by_cases hdot:c=46
  ·have hdi:=hd'.2 hdot;simp(disch:=omega)only[pf,xe,EV,simprocAttr,hc,Cy8];simp only[spl,if_pos hdot];by_cases h:K8 ((n.take i).drop st)=true∧((n.take i).drop st=[42]→st=0)
   ·obtain⟨h3,h4⟩:=h;left;refine⟨(l++[(n.take i).drop st],i+1),?_,?_,?_⟩
    ·rw[if_neg (by simp only[h3];intro h;simp at h;have:=h4 h.1;omega)];simp
    ·simp;omega
    ·simp only[Gh4];rw[if_pos ⟨h3,by simpa using h4⟩];cases h9:spl false [] r<;>simp[h9,dn]
   ·right;have h':¬(K8 ((n.take i).drop st)=true∧((n.take i).drop st=[42]→decide (st=0)=true)):=by simpa using h
    rw[if_neg h'];refine⟨?_,rfl⟩;rw[if_pos]
    ·rfl
    ·cases h5:K8 ((n.take i).drop st)
     ·simp
     ·simp only[h5,true_and] at h;have ⟨h6,h7⟩:=Classical.not_imp.1 h;simp[h6];omega
  ·have hdi:¬(c.toNat:Int)=46:=fun h=>hdot (hd'.1 h);left;refine⟨(l,st),?_,?_,?_⟩
   ·simp(disch:=omega)only[pf,xe,EV,simprocAttr,hc]
   ·simp only;omega
   ·simp only[spl];rw[if_neg hdot,Gh3 n i st c hc h2]
 ·simp(disch:=omega) [pf,xe,EV,simprocAttr,Out.goes,spl,dn]
def split_ok (n:List UInt8) (hs:n.length≤9223372036854775807):S Rb 1 [.s n]=some [Cn (lbl n),.b (vld n)]:=by
 refine Jh1 (N:=n.length+1) rfl ?_;unfold Cn lbl vld nm;by_cases h1:n=[46]
 ·simp(disch:=omega) [pf,xe,EV,simprocAttr,h1]
 ·rw[if_neg h1];by_cases h2:n.length<2
  ·simp(disch:=omega)only[pf,xe,EV,simprocAttr,h1];have h3:¬(2≤n.length∧n.length≤254∧n[n.length - 1]? =some 46):=by omega
   rw[if_neg h3];rfl
  ·by_cases h3:254<n.length
   ·simp(disch:=omega)only[pf,xe,EV,simprocAttr,h1];have h3:¬(2≤n.length∧n.length≤254∧n[n.length - 1]? =some 46):=by omega
    rw[if_neg h3];rfl
   ·have h4:=Bs (l:=n) (i:=n.length - 1) (by omega);have h5:((n.length:Int) - 1).toNat=n.length - 1:=by omega
    have h6:=Ep1 (n[n.length - 1]'(by omega)) 46 (by omega);simp(disch:=omega)only[pf,xe,EV,simprocAttr,h1,h4,h5,Fy3];by_cases h7:n[n.length - 1]'(by omega)=46
    ·rw[if_pos (show 2≤n.length∧n.length≤254∧some (n[n.length - 1]'(by omega))=some 46 from⟨by omega,by omega,by rw[h7]⟩),if_neg (fun h=>h (h6.2 h7))];cases h8:spl true [] n
     ·simp[dn,Ef7]
     ·simp(disch:=omega) [pf,dn,xe,EV,simprocAttr]
    ·rw[if_neg (show¬(2≤n.length∧n.length≤254∧some (n[n.length - 1]'(by omega))=some 46) from fun h=>h7 (by simpa using h.2.2)),if_pos (show (((n[n.length - 1]'(by omega)).toNat:Int)≠46) from fun h=>h7 (h6.1 h))];rfl
end Go.X.G
/- Names: what the reference's functions give, ctd. -/
namespace Go.X.G
open Go Go.X
def Av8:∀(r:List UInt8) (f:Bool) (cur:List UInt8) (l:List (List UInt8)),spl f cur r=some l→l.length≤r.length
 |[],f,cur,l,h=>by simp[spl] at h;simp[←h]
 |c::r,f,cur,l,h=>by
  simp only[spl] at h;split at h
  ·split at h
   ·obtain⟨m,hm,rfl⟩:=Bt.1 h;have:=Av8 r _ _ _ hm;simp;omega
   ·cases h
  ·have:=Av8 r _ _ _ h;simp;omega
def Iy6 {n:List UInt8} {l:List (List UInt8)} (h:nm n=some l):l.length≤254:=by
 unfold nm at h;split at h
 ·injection h with h;subst h;simp
 ·split at h
  ·rename_i h2;have:=Av8 _ _ _ _ h;omega
  ·cases h
def G2 (n:List UInt8):(lbl n).length≤254:=by
 unfold lbl;cases h:nm n with
 |none=>simp
 |some l=>exact Iy6 h
def Gd (n:List UInt8) (hs:n.length≤9223372036854775807):S cg 1 [.s n]=some [.b (vld n)]:=by refine Jn8 (N:=1) rfl ?_;simp(disch:=omega)only[Jy9,split_ok,Aj,simprocAttr]
def J2 (n:List UInt8) (hs:n.length≤9223372036854775807):S cw 1 [.s n]=some [Cn (lbl n)]:=by refine Jg5 (N:=1) rfl ?_;simp(disch:=omega)only[Jx3,split_ok,Aj,simprocAttr]
def Xg {α:Type} [DecidableEq α]:List α→List α→Nat
 |x::xs,y::ys=>if x=y then Xg xs ys+1 else 0
 |_,_=>0
def Mz (a b:List (List UInt8)):Nat:=Xg a.reverse b.reverse
def Ew5 {α:Type} [DecidableEq α]:∀(a b:List α),Xg a b≤a.length∧Xg a b≤b.length
 |[],b=>by simp[Xg]
 |x::xs,[]=>by simp[Xg]
 |x::xs,y::ys=>by have:=Ew5 xs ys;simp only[Xg];split<;>simp<;>omega
def Fz6 (a b:List (List UInt8)):Mz a b≤a.length∧Mz a b≤b.length:=by have:=Ew5 a.reverse b.reverse;simpa [Mz] using this
def Gm8 (a b:List (List UInt8)) (N:Nat) (hN:a.length<N) (ha:a.length≤1000000) (hb:b.length≤1000000):
  Dr4.ev S N [Cn a,Cn b]=some (.yld 0 [.i .i64 (Mz a b:Int)]):=by
 have key:=Kq (fn:=S) (N:=N) (η:=[Cn a,Cn b]) (id:=1) (init:=[(.c (.i .i64 (0)))]) (body:=Ed3) (α:=Nat) (fun k=>[.i .i64 (k:Int)]) (fun k=> .yld 0 [.i .i64 ((k+Xg (a.reverse.drop k) (b.reverse.drop k):Nat):Int)]) (fun k=>k≤a.length∧k≤b.length) (fun k=>a.length - k) 0 rfl ⟨Dy _,Dy _⟩ (by omega) ?_
 ·simpa [Mz,Dr4] using key
 ·rintro k ⟨h1,h2⟩;by_cases h3:k<a.length
  ·by_cases h4:k<b.length
   ·have e1:((a.length:Int) - 1 - k).toNat=a.length - 1 - k:=by omega
    have e2:((b.length:Int) - 1 - k).toNat=b.length - 1 - k:=by omega
    have g1:a[a.length - 1 - k]? =some (a[a.length - 1 - k]'(by omega)):=Bs (by omega);have g2:b[b.length - 1 - k]? =some (b[b.length - 1 - k]'(by omega)):=Bs (by omega);have d1:a.reverse.drop k=(a[a.length - 1 - k]'(by omega))::a.reverse.drop (k+1):=by rw[Df (by simpa using h3)];simp
    have d2:b.reverse.drop k=(b[b.length - 1 - k]'(by omega))::b.reverse.drop (k+1):=by rw[Df (by simpa using h4)];simp
    simp(disch:=omega)only[Em7,xe,EVP,EV,simprocAttr,e1,e2,g1,g2];rw[d1,d2];simp only[Xg];by_cases h:a[a.length - 1 - k]'(by omega)=b[b.length - 1 - k]'(by omega)
    ·left;refine⟨k+1,by simp[h],⟨by omega,by omega⟩,by omega,?_⟩;rw[if_pos h];congr 3
     push_cast
     omega
    ·right;simp[h,Out.goes]
   ·right;have d2:b.reverse.drop k=[]:=Hh (by simp;omega);have z:Xg (a.reverse.drop k) []=0:=by cases a.reverse.drop k<;>rfl
    rw[d2,z];simp(disch:=omega) [Em7,xe,EVP,EV,simprocAttr,Out.goes]
  ·right;have d1:a.reverse.drop k=[]:=Hh (by simp;omega);have z:Xg [] (b.reverse.drop k)=0:=rfl;rw[d1,z];simp(disch:=omega) [Em7,xe,EVP,EV,simprocAttr,Out.goes]
def Aw7 (a b:List (List UInt8)) (ha:a.length≤1000000) (hb:b.length≤1000000):S Cw9 2 [Cn a,Cn b]=some [.i .i64 (Mz a b:Int)]:=by refine Jg7 (N:=a.length+1) rfl ?_;simp(disch:=omega)only[Em7,Gm8,Aj,simprocAttr]
def under (n top:List UInt8):Bool:=vld n && vld top && decide (Mz (lbl n) (lbl top)=(lbl top).length)
def Gw (n top:List UInt8) (hn:n.length≤9223372036854775807) (ht:top.length≤9223372036854775807):S S8 2 [.s n,.s top]=some [.b (under n top)]:=by
 refine Jn2 (N:=1) rfl ?_;have h1:=G2 n;have h2:=G2 top;unfold under;cases h3:vld n<;>cases h4:vld top<;>simp(disch:=omega)only[Jy5,split_ok,Aw7,h3,h4,Aj,simprocAttr]
 all_goals (simp;try omega)
def cmpS (a b:List UInt8):Int:=if Op.bytesLess a b then -1 else if a=b then 0 else 1
def Sg (a b:List UInt8):S fp 2 [.s a,.s b]=some [.i .i64 (cmpS a b)]:=by
 refine Ht7 (N:=1) rfl ?_;unfold cmpS;simp(disch:=omega)only[Hc5,Aj,simprocAttr];cases h:Op.bytesLess a b
 ·by_cases h2:a=b<;>simp[h2]
 ·simp
def Jp (a b:List UInt8):Int:=
 if vld a && vld b then
  let k:=Mz (lbl a) (lbl b)
  if k<(lbl a).length∧k<(lbl b).length then cmpS ((lbl a).getD ((lbl a).length - 1 - k) []) ((lbl b).getD ((lbl b).length - 1 - k) [])
  else if(lbl a).length<(lbl b).length then -1 else if(lbl b).length<(lbl a).length then 1 else 0
 else if vld a then -1 else if vld b then 1 else cmpS a b
def J4 (a b:List UInt8) (hn:a.length≤9223372036854775807) (ht:b.length≤9223372036854775807):S t7 2 [.s a,.s b]=some [.i .i64 (Jp a b)]:=by
 refine Jf2 (N:=1) rfl ?_;have h1:=G2 a;have h2:=G2 b;have h5:=Fz6 (lbl a) (lbl b);unfold Jp;cases h3:vld a<;>cases h4:vld b
 ·simp(disch:=omega) [Cl7,split_ok,Sg,h3,h4,Aj,simprocAttr]
 ·simp(disch:=omega) [Cl7,split_ok,Sg,h3,h4,Aj,simprocAttr]
 ·simp(disch:=omega) [Cl7,split_ok,Sg,h3,h4,Aj,simprocAttr]
 ·by_cases h6:Mz (lbl a) (lbl b)<(lbl a).length∧Mz (lbl a) (lbl b)<(lbl b).length
  ·obtain⟨h7,h8⟩:=h6;have e1:(((lbl a).length:Int) - 1 - (Mz (lbl a) (lbl b):Int)).toNat=(lbl a).length - 1 - Mz (lbl a) (lbl b):=by omega
   have e2:(((lbl b).length:Int) - 1 - (Mz (lbl a) (lbl b):Int)).toNat=(lbl b).length - 1 - Mz (lbl a) (lbl b):=by omega
   have g1:=Bs (l:=lbl a) (i:=(lbl a).length - 1 - Mz (lbl a) (lbl b)) (by omega);have g2:=Bs (l:=lbl b) (i:=(lbl b).length - 1 - Mz (lbl a) (lbl b)) (by omega);simp(disch:=omega)only[Cl7,split_ok,Aw7,Sg,h3,h4,e1,e2,g1,g2,Aj,simprocAttr];simp[h7,h8,g1,g2]
  ·simp(disch:=omega)only[Cl7,split_ok,Aw7,Sg,h3,h4,Aj,simprocAttr];simp only[h6]
   grind
end Go.X.G
/- The library's functions on strings. -/
namespace Go.X.G
open Go Go.X
def Hv0 (x:List UInt8) (c:UInt8):S Bd2 2 [.s x,.i .u8 (c.toNat:Int)]=some [.i .i64 (x.count c:Int)]:=
 Hn6 (args:=[.s x,.i .u8 (c.toNat:Int)]) (by simp[XK.run,Bt4,Lib.countByte])
def Gt3 (x:List UInt8) (c:UInt8):S Bd4 2 [.s x,.i .u8 (c.toNat:Int)]=some [.i .i64 (Lib.indexByte x c)]:=
 Hp9 (args:=[.s x,.i .u8 (c.toNat:Int)]) (by simp[XK.run,Bt4])
def Hv1 (x y:List UInt8):S Bd3 2 [.s x,.s y]=some [.i .i64 (Lib.compareBytes x y)]:=
 Hp6 (args:=[.s x,.s y]) (by simp[XK.run,Fz8])
def Uj (x:List UInt8) (c:UInt8):S ff 2 [.s x,.i .u8 (c.toNat:Int)]=some [.i .i64 (Lib.indexByte x c)]:=by refine Hs8 (N:=1) rfl ?_;simp(disch:=omega)only[Hc0,Gt3,Aj,simprocAttr]
def Aj1 (x:List UInt8) (c:UInt8):S wl 2 [.s x,.i .u8 (c.toNat:Int)]=some [.i .i64 (Lib.indexByte x c)]:=by refine Iq6 (N:=1) rfl ?_;simp(disch:=omega)only[Hf0,Uj,Aj,simprocAttr]
def Q5 (c:UInt8):∀(x:List UInt8),c∉x→Lib.indexByte x c= -1
 |[],_=>rfl
 |b::l,h=>by have h1:b≠c:=fun e=>h (by simp[e]);have h2:=Q5 c l (fun e=>h (by simp[e]));simp[Lib.indexByte,h1,h2]
def Mc (c:UInt8) (post:List UInt8):∀(pre:List UInt8),c∉pre→Lib.indexByte (pre++c::post) c=(pre.length:Int)
 |[],_=>by simp[Lib.indexByte]
 |b::l,h=>by
  have h1:b≠c:=fun e=>h (by simp[e]);have h2:=Mc c post l (fun e=>h (by simp[e]));simp only[Dl,Lib.indexByte,h2];simp[h1]
  try omega
def dot_split (c:UInt8):∀(s:List UInt8),c∉s∨∃pre post,s=pre++c::post∧c∉pre
 |[]=> .inl (by simp)
 |b::l=>by
  by_cases h:b=c
  ·exact .inr ⟨[],l,by simp[h],by simp⟩
  ·rcases dot_split c l with h1|⟨pre,post,rfl,h2⟩
   ·exact .inl (by simp[h1,Ne.symm h])
   ·exact .inr ⟨b::pre,post,by simp,by simp[h2,Ne.symm h]⟩
def pcs (cur:List UInt8):List UInt8→List (List UInt8)
 |[]=>[cur]
 |c::r=>if c=46 then cur::pcs [] r else pcs (cur++[c]) r
def cut (s:List UInt8):List (List UInt8):=pcs [] s
def Dc9 (post:List UInt8):∀(pre cur:List UInt8),(46:UInt8)∉pre→pcs cur (pre++46::post)=(cur++pre)::pcs [] post
 |[],cur,_=>by simp[pcs]
 |b::l,cur,h=>by have h1:b≠46:=fun e=>h (by simp[e]);have h2:=Dc9 post l (cur++[b]) (fun e=>h (by simp[e]));simp[pcs,h1,h2]
def lw:∀(s cur:List UInt8),(46:UInt8)∉s→pcs cur s=[cur++s]
 |[],cur,_=>by simp[pcs]
 |b::l,cur,h=>by have h1:b≠46:=fun e=>h (by simp[e]);have h2:=lw l (cur++[b]) (fun e=>h (by simp[e]));simp[pcs,h1,h2]
def Ew3 (s:List UInt8):(cut s).length=s.count 46+1:=by
 have:∀(s cur:List UInt8),(pcs cur s).length=s.count 46+1:=by
  intro s
  induction s with
  |nil=>intro cur;rfl
  |cons c r ih=>
   intro cur;by_cases h:c=46<;>simp[pcs,h,ih]
 exact this s []
def Cg4 (s:List UInt8) (hs:s.length≤9223372036854775807):S ug 2 [.s s,.s [46]]=some [.i .i64 (Lib.indexByte s 46)]:=by
 refine Hn5 (N:=1) rfl ?_;have h1:=Uj s 46;have e:(((46:UInt8).toNat:Nat):Int)=46:=rfl;rw[e] at h1;by_cases h:[46]=s
 ·subst h;simp(disch:=omega)only[Ft7,Aj,simprocAttr];rfl
 ·simp(disch:=omega)only[Ft7,h,h1,e,Aj,simprocAttr]
def Aj0 (s:List UInt8) (hs:s.length≤9223372036854775807):S fq 2 [.s s,.s [46]]=some [.i .i64 (Lib.indexByte s 46)]:=by refine Hp7 (N:=1) rfl ?_;simp(disch:=omega)only[Hb2,Cg4,Aj,simprocAttr]
def Eh7 (s:List UInt8):S u6 2 [.s s,.s [46]]=some [.i .i64 (s.count 46:Int)]:=by refine Hp8 (N:=1) rfl ?_;have h1:=Hv0 s 46;have e:(((46:UInt8).toNat:Nat):Int)=46:=rfl;rw[e] at h1;simp(disch:=omega)only[Hb3,h1,e,Aj,simprocAttr]
def Ek5 (done rest:List (List UInt8)):Out:=
 .yld 0 [.s ((done++rest).getLastD []),Cn ((done++rest).dropLast++[[]]),.i .i64 (((done++rest).length:Int) - 1)]
def Ac8 (s:List UInt8) (N:Nat) (hN:s.length<N) (hs:s.length≤1000000) (p q:PV):
  Ab8.ev S N [.s s,.s [46],.i .i64 0,p,.i .i64 ((s.count 46:Int)+1)]=some (Ek5 [] (cut s)):=by
 have hc0:s.count 46≤s.length:=List.count_le_length;have key:=Kq (fn:=S) (N:=N) (η:=[.s s,.s [46],.i .i64 0,p,.i .i64 ((s.count 46:Int)+1)]) (id:=1) (init:=[(.v 0),(.rep 1 (.mn (.v 4) (.bin .add (.slen (.v 0)) (.c (.i .i64 (1))))) (.c (.s []))),(.c (.i .i64 (0)))]) (body:=An3) (α:=List (List UInt8)×List UInt8)
  (fun a=>[.s a.2,Cn (a.1++List.replicate (a.2.count 46+1) []),.i .i64 (a.1.length:Int)]) (fun a=>Ek5 a.1 (cut a.2)) (fun a=>a.1.length+a.2.count 46=s.count 46∧a.2.length≤s.length) (fun a=>a.2.length) ([],s) ?_ ⟨by simp,B7 _⟩ hN ?_
 ·simpa [Ab8] using key
 ·have e:((s.count 46:Int)+1).toNat=s.count 46+1:=by omega
  simp(disch:=omega)only[e,Aj,simprocAttr]
 ·rintro⟨done,rest⟩ ⟨h1,h2⟩;simp only at h1 h2 ⊢;rcases dot_split 46 rest with h|⟨pre,post,rfl,h⟩
  ·right;have c0:rest.count 46=0:=Jw5.2 h;have i0:=Q5 46 rest h;have cu:cut rest=[rest]:=by simpa [cut] using lw rest [] h
   refine⟨?_,rfl⟩;rw[c0];rw[c0] at h1;simp(disch:=omega)only[Cn8,Aj0,i0,Aj,simprocAttr];simp[Ek5,cu,List.getLastD_eq_getLast?]
  ·left;have c0:(pre++46::post).count 46=post.count 46+1:=by rw[List.count_append,Jw5.2 h];simp
   have i0:=Mc 46 post pre h;have cu:cut (pre++46::post)=pre::cut post:=by simpa [cut] using Dc9 post pre [] h
   have hl:(pre++46::post).length=pre.length+post.length+1:=by simp;omega
   have sl1:List.drop (0:Int).toNat (List.take ((pre.length:Int)+0).toNat (pre++46::post))=pre:=by simp
   have sl2:List.drop ((pre.length:Int)+1).toNat (List.take (pre++46::post).length (pre++46::post))=post:=by
    have:((pre.length:Int)+1).toNat=pre.length+1:=by omega
    rw[this,E3,List.drop_append];simp
   have sl3:(done++[]::[]::List.replicate (post.count 46) ([]:List UInt8)).length=done.length+post.count 46+2:=by simp;omega
   refine⟨(done++[pre],post),?_,⟨by simp;omega,by simp only;omega⟩,by simp;omega,by simp[Ek5,cu]⟩;rw[c0];rw[c0] at h1;simp(disch:=omega)only[Cn8,Aj0,i0,sl1,sl2,Aj,simprocAttr];simp[List.replicate_succ,List.set_append]
def Ac7 (s:List UInt8) (hs:s.length≤1000000):S vf 4 [.s s,.s [46],.i .i64 0,.i .i64 (-1)]=some [Cn (cut s)]:=by
 refine Hs6 (N:=s.length+1) rfl ?_;have h1:=Ew3 s;have h2:s.count 46≤s.length:=List.count_le_length;obtain⟨l,x,hx⟩:∃l x,cut s=l++[x]:=⟨(cut s).dropLast,(cut s).getLast (by intro e;simp[e] at h1),(List.dropLast_concat_getLast _).symm⟩;have h3:l.length=s.count 46:=by rw[hx] at h1;simpa using h1
 have h4:((l.length:Int)+1 - 1)=(l.length:Int):=by omega
 have h5:((l++[([]:List UInt8)]).length:Int)=l.length+1:=by simp
 have h6:((l++[x]).length:Int)=l.length+1:=by simp
 have g1:(l++[([]:List UInt8)])[l.length]? =some []:=by simp
 have g2:(l++[x]).getLastD []=x:=by simp[List.getLastD_eq_getLast?]
 have g3:(l++[([]:List UInt8)]).set l.length x=l++[x]:=by simp
 have hk:=Ac8 s (s.length+1) (by omega) hs (.i .i64 (-1)) .u;rw[hx] at hk ⊢;simp only[Ek5,Dw,List.dropLast_concat] at hk;simp(disch:=omega)only[Cn8,Eh7,hk,h4,h6,g1,g2,g3,Aj,simprocAttr];have g4:((l.length:Int)+1).toNat=(l++[x]).length:=by simp
 rw[g4,E3];rfl
def zt (s:List UInt8) (hs:s.length≤1000000):S gq 2 [.s s,.s [46]]=some [Cn (cut s)]:=by refine Iq4 (N:=1) rfl ?_;simp(disch:=omega)only[Hd8,Ac7,Aj,simprocAttr]
def Uk (s t:List UInt8) (hs:s.length≤9223372036854775807):S fc 2 [.s s,.s t]=some [.b (t.isSuffixOf s)]:=by
 refine Hs7 (N:=1) rfl ?_;by_cases h:t.length≤s.length
 ·have e:((s.length:Int) - (t.length:Int)).toNat=s.length - t.length:=by omega
  simp(disch:=omega)only[Gj2,e,Aj,simprocAttr];simp only[E3];congr 4;rw[D5,Hk,decide_eq_true_eq];refine⟨fun h=>h▸List.drop_suffix _ _,fun h=> ?_⟩;obtain⟨p,rfl⟩:=h;simp
 ·have h2:t.isSuffixOf s=false:=by rw[Ar4,ne_eq,Hk];exact fun h'=>h h'.length_le
  simp(disch:=omega)only[Gj2,h2,Aj,simprocAttr]
def Ph (s t:List UInt8) (hs:s.length≤9223372036854775807):S gv 2 [.s s,.s t]=some [.b (t.isSuffixOf s)]:=by refine Iq5 (N:=1) rfl ?_;simp(disch:=omega)only[Hd9,Uk,Aj,simprocAttr]
def Ap7 (x y:List UInt8):S vz 2 [.s x,.s y]=some [.i .i64 (Lib.compareBytes x y)]:=by refine Hs5 (N:=1) rfl ?_;simp(disch:=omega)only[Hb9,Hv1,Aj,simprocAttr]
def Ap4 (x y:List UInt8):S Wq 2 [.s x,.s y]=some [.i .i64 (Lib.compareBytes x y)]:=by refine Iq2 (N:=1) rfl ?_;simp(disch:=omega)only[Hd7,Ap7,Aj,simprocAttr]
end Go.X.G
/- Names and their labels. -/
namespace Go.X.G
open Go Go.X
def flat (l:List (List UInt8)):List UInt8:=l.flatMap fun x=>x++[46]
def jn (l:List (List UInt8)):List UInt8:=if l=[] then [46] else flat l
def Ht (first:Bool):List (List UInt8)→Bool
 |[]=>true
 |p::r=>K8 p && (!decide (p=[42])||first) && Ht false r
def Gt0:Tx 46=false:=by decide
def O6 {p:List UInt8} (h:K8 p=true):(46:UInt8)∉p:=by
 unfold K8 at h;simp at h;rcases h with rfl|⟨_,h⟩
 ·decide
 ·intro h2;have:=h 46 h2;rw[Gt0] at this;cases this
def mw {p:List UInt8} (h:K8 p=true):p≠[]:=by rintro rfl;simp[K8] at h
def Hr {p:List UInt8}:∀{f:Bool} {l:List (List UInt8)},Ht f l=true→p∈l→K8 p=true
 |f,q::r,h,hp=>by
  simp only[Ht,Br] at h;rcases Ck.1 hp with rfl|hp
  ·exact h.1.1
  ·exact Hr h.2 hp
def Cz3:∀{l:List (List UInt8)},Ht false l=true→Ht true l=true
 |[],_=>rfl
 |p::r,h=>by simp only[Ht,Br] at h ⊢;exact⟨⟨h.1.1,by simp⟩,h.2⟩
def Td:∀{f:Bool} {a b:List (List UInt8)},Ht f (a++b)=(Ht f a && Ht (f && a.isEmpty) b)
 |f,[],b=>by simp[Ht]
 |f,p::r,b=>by simp only[Dl,Ht,Td (a:=r)];simp[Bool.and_assoc]
def Cz4 {f:Bool} {l:List (List UInt8)} (h:Ht f l=true) (k:Nat):Ht f (l.drop k)=true:=by
 rw[←Dq k l,Td,Br] at h;have h2:=h.2;cases f with
 |false=>simpa using h2
 |true=>
  cases he:(l.take k).isEmpty with
  |true=>rw[he] at h2;exact h2
  |false=>rw[he] at h2;exact Cz3 h2
def Yw:∀(m:List UInt8) (f:Bool) (cur:List UInt8),spl f cur (m++[46])=if Ht f (pcs cur m)=true then some (pcs cur m) else none
 |[],f,cur=>by simp only[Dw,spl,if_true,pcs,Ht,Cd,Ub];by_cases h:K8 cur=true<;>by_cases h2:cur=[42]<;>cases f<;>simp[h,h2]
 |c::r,f,cur=>by
  simp only[Dl,spl,pcs];by_cases hc:c=46
  ·simp only[if_pos hc];rw[Yw r false []];simp only[Ht];by_cases h:K8 cur=true<;>by_cases h2:cur=[42]<;>cases f<;>by_cases h3:Ht false (pcs [] r)=true<;>simp[h,h2,h3]
  ·simp only[if_neg hc];exact Yw r f (cur++[c])
def Yp (b:List UInt8):∀(a cur:List UInt8),pcs cur (a++46::b)=pcs cur a++cut b
 |[],cur=>by simp[pcs,cut]
 |c::r,cur=>by
  simp only[Dl,pcs];split
  ·rw[Yp b r []];rfl
  ·exact Yp b r _
def Xc:∀(m cur:List UInt8),flat (pcs cur m)=cur++m++[46]
 |[],cur=>by simp[pcs,flat]
 |c::r,cur=>by
  simp only[pcs];split
  ·rename_i h;have:=Xc r [];simp only[flat,F3] at this ⊢;rw[this,h];simp
  ·rw[Xc r (cur++[c])];simp
def Qj (a b:List (List UInt8)):flat (a++b)=flat a++flat b:=by simp[flat]
def Iw9 (cur m:List UInt8):pcs cur m≠[]:=by
 cases m with
 |nil=>simp[pcs]
 |cons c r=>
  simp only[pcs];split
  ·simp
  ·intro h;have:=Xc r (cur++[c]);rw[h] at this;simp[flat] at this
def Xf:∀(l:List (List UInt8)),(∀p∈l,(46:UInt8)∉p)→cut (flat l)=l++[[]]
 |[],_=>rfl
 |p::l,h=>by
  have h1:flat (p::l)=p++46::flat l:=by simp[flat]
  rw[h1];show pcs [] _=_;rw[Yp,lw p [] (h p (by simp)),Xf l (fun q hq=>h q (by simp[hq]))];simp
def Ml:∀(l:List (List UInt8)),l≠[]→∃m,flat l=m++[46]
 |[p],_=>⟨p,by simp[flat]⟩
 |p::q::r,_=>by obtain⟨m,hm⟩:=Ml (q::r) (by simp);exact⟨p++[46]++m,by simp only[flat,F3] at hm ⊢;rw[hm];simp⟩
def Bh6 {l:List (List UInt8)} (hl:l≠[]) (h:∀p∈l,(46:UInt8)∉p) {m:List UInt8} (hm:flat l=m++[46]):cut m=l:=by
 have h1:=Xf l h;rw[hm] at h1;have h2:cut (m++[46])=cut m++[[]]:=by show pcs [] (m++46::[])=_;rw[Yp];rfl
 rw[h2] at h1;exact Uy h1
def Kx {l:List (List UInt8)} (h:Ht true l=true) (hl:l≠[]):2≤(flat l).length:=by
 cases l with
 |nil=>exact absurd rfl hl
 |cons p r=>
  have h1:=mw (Hr h (Im ..));have:0<p.length:=Ch.2 h1;simp[flat];omega
def Gp9 {l:List (List UInt8)} (h:Ht true l=true) (hl:l≠[]) (hlen:(flat l).length≤254):nm (flat l)=some l:=by obtain⟨m,hm⟩:=Ml l hl;have h1:=Bh6 hl (fun p hp=>O6 (Hr h hp)) hm;have h2:=Kx h hl;unfold nm;rw[if_neg (by intro e;rw[e] at h2;simp at h2),if_pos ⟨h2,hlen,by rw[hm];simp⟩,hm,Yw];have:pcs [] m=l:=h1;rw[this,if_pos h]
def Gp8 {n:List UInt8} {l:List (List UInt8)} (h:nm n=some l):(n=[46]∧l=[])∨(l≠[]∧Ht true l=true∧n=flat l∧n.length≤254):=by
 unfold nm at h;split at h
 ·rename_i e;injection h with h;exact .inl ⟨e,h.symm⟩
 ·split at h
  ·rename_i h1;right;obtain⟨h2,h3,h4⟩:=h1;obtain⟨m,hm⟩:∃m,n=m++[46]:=by
    refine⟨n.dropLast,?_⟩;have:n≠[]:=by intro e;simp[e] at h2
    have h5:=List.dropLast_concat_getLast this;rw[←h5];congr 1
    ·simp
    ·have h6:n[n.length - 1]? =some (n.getLast this):=by rw[L1];exact Bs _
     rw[h6] at h4;injection h4 with h4;simp[h4]
   rw[hm,Yw] at h;split at h
   ·rename_i h5;injection h with h;subst h;refine⟨Iw9 _ _,h5,?_,by omega⟩;rw[Xc,hm];simp
   ·cases h
  ·cases h
def Gg5 {n:List UInt8}:vld n=true↔nm n=some (lbl n):=by unfold vld lbl;cases nm n<;>simp
def vld_cases {n:List UInt8} (h:vld n=true):(n=[46]∧lbl n=[])∨(lbl n≠[]∧Ht true (lbl n)=true∧n=flat (lbl n)∧n.length≤254):=Gp8 (Gg5.1 h)
def Sb {n:List UInt8} (h:vld n=true):Ht true (lbl n)=true:=by
 rcases vld_cases h with⟨_,h⟩|⟨_,h,_⟩
 ·rw[h];rfl
 ·exact h
def Qr {n:List UInt8} (h:vld n=true):n=jn (lbl n):=by
 unfold jn;rcases vld_cases h with⟨h1,h2⟩|⟨h1,_,h2,_⟩
 ·rw[h2,if_pos rfl];exact h1
 ·rw[if_neg h1];exact h2
def Hl {n:List UInt8} (h:vld n=true):n.length≤254:=by
 rcases vld_cases h with⟨h1,_⟩|⟨_,_,_,h⟩
 ·simp[h1]
 ·exact h
def K6:lbl [46]=[]:=rfl
def yx {l:List (List UInt8)} (h:Ht true l=true) (hl:l≠[]):flat l≠[46]:=by intro e;have:=Kx h hl;rw[e] at this;simp at this
def O3 {n:List UInt8} (h:vld n=true):lbl n=[]↔n=[46]:=by
 rcases vld_cases h with⟨h1,h2⟩|⟨h1,h2,h3,_⟩
 ·simp[h1,K6]
 ·constructor
  ·intro e;exact absurd e h1
  ·intro e;rw[h3] at e;exact absurd e (yx h2 h1)
def Gk0 {l:List (List UInt8)} (h:Ht true l=true) (hlen:(flat l).length≤254):vld (jn l)=true∧lbl (jn l)=l:=by
 unfold jn;by_cases hl:l=[]
 ·subst hl;exact⟨rfl,rfl⟩
 ·rw[if_neg hl];have:=Gp9 h hl hlen;exact⟨by simp[vld,this],by simp[lbl,this]⟩
def O4 {a b:List UInt8} (ha:vld a=true) (hb:vld b=true) (h:lbl a=lbl b):a=b:=by rw[Qr ha,Qr hb,h]
def mf (l:List (List UInt8)) (k:Nat):(flat (l.drop k)).length≤(flat l).length:=by
 have:flat l=flat (l.take k)++flat (l.drop k):=by rw[←Qj,Dq]
 rw[this,B0];omega
def M3 {n:List UInt8} (h:vld n=true) (k:Nat):vld (jn ((lbl n).drop k))=true∧lbl (jn ((lbl n).drop k))=(lbl n).drop k:=by
 refine Gk0 (Cz4 (Sb h) k) ?_;rcases vld_cases h with⟨_,h1⟩|⟨_,_,h1,h2⟩
 ·rw[h1];simp[flat]
 ·have:=mf (lbl n) k;rw[←h1] at this;omega
def Vq {s:List UInt8} (h:K8 s=true):s.length≤63:=by
 unfold K8 at h;simp at h;rcases h with h|h
 ·simp[h]
 ·omega
def mj {n:List UInt8} (h:vld n=false):lbl n=[]:=by
 unfold lbl;unfold vld at h;cases h1:nm n with
 |none=>rfl
 |some l=>rw[h1] at h;cases h
def Dn7 (n:List UInt8):∀x∈lbl n,K8 x=true:=fun x hx=>by
 rcases Bm (vld n) with h|h
 ·exact Hr (Sb h) hx
 ·rw[mj h] at hx;cases hx
def Sz {n:List UInt8} (h:vld n=true):0<n.length:=by
 rcases vld_cases h with⟨h1,_⟩|⟨h1,h2,h3,_⟩
 ·simp[h1]
 ·have:=Kx h2 h1;rw[h3];omega
end Go.X.G
/- Names: what the program's functions give. -/
namespace Go.X.G
open Go Go.X
def ord (s:List UInt8):Bool:=decide (1≤s.length) && decide (s.length≤63) && s.all Tx
def Ej8 (s:List UInt8):K8 s=(decide (s=[42])||ord s):=rfl
def Fd4:ord [42]=false:=by decide
def Ax7 (s:List UInt8) (N:Nat) (hN:s.length<N) (hs:s.length≤9223372036854775807):
  Dt8.ev S N [.s s]=some (if s.all Tx=true then .yld 0 [] else .ret [.b false]):=by
 refine Es s (fun i=>[.i .i64 (i:Int)]) (fun i r=>if r.all Tx=true then .yld 0 [] else .ret [.b false]) rfl hN (fun i c r hd hi hc=> ?_) ?_
 ·have key:An6.ev S N ([.s s]++[.i .i64 (i:Int)])=some (if Tx c=true then .yld 1 [.i .i64 ((i:Int)+1)] else .ret [.b false]):=by
   simp(disch:=omega)only[qz,hc,Aj,simprocAttr];unfold Tx
   grind
  rw[key];rcases Bm (Tx c) with h|h<;>simp[h,Out.goes]
 ·simp(disch:=omega) [qz,xe,EVP,EV,simprocAttr,Out.goes]
def Nj (s:List UInt8) (hs:s.length≤9223372036854775807):S wh 1 [.s s]=some [.b (ord s)]:=by
 refine Iq3 (N:=s.length+1) rfl ?_;unfold ord;by_cases h1:s=[]
 ·subst h1;simp(disch:=omega) [qz,Aj,simprocAttr]
 ·have h2:1≤s.length:=Ch.2 h1;by_cases h3:s.length≤63
  ·simp(disch:=omega)only[qz,Ax7,h1,Aj,simprocAttr];cases s.all Tx<;>simp[h2,h3]
  ·simp(disch:=omega)only[qz,h1,Aj,simprocAttr];simp[h3]
def okP (i:Nat) (p:List UInt8):Bool:=ord p||(decide (i=0) && decide (p=[42]))
def Ff3:Nat→List (List UInt8)→Bool
 |_,[]=>true
 |i,p::r=>okP i p && Ff3 (i+1) r
def tg:∀(l:List (List UInt8)) (i:Nat),Ff3 i l=Ht (decide (i=0)) l
 |[],_=>rfl
 |p::r,i=>by
  have h1:=tg r (i+1);simp only[Ff3,Ht,h1,okP,Ej8];by_cases h2:p=[42]
  ·subst h2;by_cases h3:i=0<;>simp[Fd4,h3]
  ·simp[h2]
def Eg1 (p q:PV) (l:List (List UInt8)) (hl:l.length≤1000000) (hw:∀x∈l,x.length≤9223372036854775807) (N:Nat) (hN:l.length<N):
  Gx1.ev S N [p,q,Cn l]=some (if Ff3 0 l=true then .yld 0 [] else .ret [.b false]):=by
 refine Es l (fun i=>[.i .i64 (i:Int)]) (fun i r=>if Ff3 i r=true then .yld 0 [] else .ret [.b false]) rfl hN (fun i c r hd hi hc=> ?_) ?_
 ·have hcw:=hw c (Cq hc);have key:Ed5.ev S N ([p,q,Cn l]++[.i .i64 (i:Int)])=some (if okP i c=true then .yld 1 [.i .i64 ((i:Int)+1)] else .ret [.b false]):=by
   rcases Bm (ord c) with h1|h1
   ·simp(disch:=omega)only[jg,Nj,hc,h1,Aj,simprocAttr];simp[okP,h1]
   ·by_cases h2:i=0
    ·subst h2;by_cases h3:c=[42]
     ·subst h3;simp(disch:=omega)only[jg,Nj,hc,h1,Aj,simprocAttr];simp[okP]
     ·simp(disch:=omega)only[jg,Nj,hc,h1,h3,Aj,simprocAttr];simp[okP,h1,h3]
    ·simp(disch:=omega)only[jg,Nj,hc,h1,Aj,simprocAttr];simp[okP,h1,h2]
  rw[key];rcases Bm (okP i c) with h|h<;>simp[h,Ff3,Out.goes]
 ·simp(disch:=omega)only[jg,Aj,simprocAttr];simp[Out.goes,Ff3]
def lz:∀(m cur:List UInt8) (x:List UInt8),x∈pcs cur m→x.length≤cur.length+m.length
 |[],cur,x,h=>by simp[pcs] at h;subst h;simp
 |c::r,cur,x,h=>by
  simp only[pcs] at h;split at h
  ·rcases Ck.1 h with rfl|h
   ·omega
   ·have:=lz r [] x h;simp at this ⊢;omega
  ·have:=lz r _ x h;simp at this ⊢;omega
def Fp6 (m x:List UInt8) (h:x∈cut m):x.length≤m.length:=by simpa using lz m [] x h
def Jj3 (m:List UInt8):(cut m).length≤m.length+1:=by have:=Ew3 m;have:m.count 46≤m.length:=List.count_le_length;omega
def Cr8 (n:List UInt8):([46]:List UInt8).isSuffixOf n=true↔∃m,n=m++[46]:=by rw[Hk];exact⟨fun⟨m,h⟩=>⟨m,h.symm⟩,fun⟨m,h⟩=>⟨m,h.symm⟩⟩
def En6 (m:List UInt8) (hm:m≠[]) (hl:m.length≤253):vld (m++[46])=Ff3 0 (cut m):=by have h1:m++[46]≠[46]:=fun e=>hm (Uy (bs:=[46]) (by simpa using e));have h2:0<m.length:=Ch.2 hm;unfold vld nm;rw[if_neg h1,if_pos ⟨by simp;omega,by simp;omega,by simp⟩,Yw,tg];have e:pcs [] m=cut m:=rfl;have e2:Ht (decide ((0:Nat)=0)) (cut m)=Ht true (cut m):=rfl;rw[e,e2];cases Ht true (cut m)<;>rfl
def Fh4 (m:List UInt8) (h:vld (m++[46])=true) (hm:m≠[]):lbl (m++[46])=cut m:=by
 rcases vld_cases h with⟨h1,_⟩|⟨h1,h2,h3,_⟩
 ·exact absurd (Uy (bs:=[46]) (by simpa using h1)) hm
 ·exact(Bh6 h1 (fun p hp=>O6 (Hr h2 hp)) h3.symm).symm
def Dc (n:List UInt8) (hn:n.length≤9223372036854775807):S Nq 1 [.s n]=some [.b (vld n)]:=by
 refine Jh8 (N:=300) rfl ?_;by_cases h0:n=[46]
 ·subst h0;simp(disch:=omega)only[jg,Aj,simprocAttr];rfl
 ·by_cases h1:255≤n.length
  ·have hv:vld n=false:=by rw[Ar4];intro h;have:=Hl h;omega
   simp(disch:=omega)only[jg,h0,hv,Aj,simprocAttr]
  ·rcases Bm (([46]:List UInt8).isSuffixOf n) with h2|h2
   ·obtain⟨m,rfl⟩:=(Cr8 n).1 h2;have hm:m≠[]:=fun e=>h0 (by simp[e]);have hl:(m++[46]).length=m.length+1:=by simp
    have hml:m.length≤1000000:=by omega
    have e:List.drop 0 (List.take (((m++[46]).length:Int) - 1).toNat (m++[46]))=m:=by
     have:(((m++[46]).length:Int) - 1).toNat=m.length:=by omega
     rw[this];simp
    have hc:=Jj3 m;have hv:=En6 m hm (by omega);have hk:=Eg1 (.s (m++[46])) (.b true) (cut m) (by omega) (fun x hx=>by have:=Fp6 m x hx;omega) 300 (by omega);simp(disch:=omega)only[jg,Ph,zt,e,hk,h0,h2,Aj,simprocAttr];rw[hv];cases Ff3 0 (cut m)<;>simp
   ·have hv:vld n=false:=by
     rw[Ar4];intro h;rcases vld_cases h with⟨h3,_⟩|⟨h3,_,h5,_⟩
     ·exact h0 h3
     ·obtain⟨m,hm⟩:=Ml _ h3;have:=(Cr8 n).2 ⟨m,h5.trans hm⟩;rw[h2] at this;cases this
    simp(disch:=omega)only[jg,Ph,h0,h2,hv,Aj,simprocAttr]
def V0 (n:List UInt8) (hn:n.length≤9223372036854775807):S Zq 1 [.s n]=some [Cn (lbl n)]:=by
 refine Iq1 (N:=1) rfl ?_;by_cases h0:n=[46]
 ·subst h0;simp(disch:=omega)only[Cp4,K6,Aj,simprocAttr]
 ·rcases Bm (vld n) with h1|h1
  ·obtain⟨m,hm,rfl⟩:∃m,m≠[]∧n=m++[46]:=by
    rcases vld_cases h1 with⟨h3,_⟩|⟨h3,_,h5,_⟩
    ·exact absurd h3 h0
    ·obtain⟨m,hm⟩:=Ml _ h3;exact⟨m,fun e=>h0 (by rw[h5,hm,e];rfl),h5.trans hm⟩
   have hl:(m++[46]).length=m.length+1:=by simp
   have e:List.drop 0 (List.take (((m++[46]).length:Int) - 1).toNat (m++[46]))=m:=by
    have:(((m++[46]).length:Int) - 1).toNat=m.length:=by omega
    rw[this];simp
   have hl2:=Hl h1;have e2:=Fh4 m h1 hm;simp(disch:=omega)only[Cp4,Dc,zt,e,e2,h0,h1,Aj,simprocAttr]
  ·have e:lbl n=[]:=by
    unfold lbl;unfold vld at h1;cases h:nm n with
    |none=>rfl
    |some l=>rw[h] at h1;cases h1
   simp(disch:=omega)only[Cp4,Dc,h0,h1,e,Aj,simprocAttr]
def Mm (p:List UInt8) (l:List (List UInt8)):flat (p::l)=p++46::flat l:=by simp[flat]
def parentN (n:List UInt8):List UInt8:=if vld n=true∧n≠[46] then jn ((lbl n).drop 1) else []
def Zr (n:List UInt8):Bool:=vld n && !decide (n=[46])
def Vs (n:List UInt8) (hn:n.length≤9223372036854775807):S Az1 1 [.s n]=some [.s (parentN n),.b (Zr n)]:=by
 refine Jh9 (N:=1) rfl ?_;unfold parentN Zr;by_cases h0:n=[46]
 ·subst h0;simp(disch:=omega)only[Em8,Aj,simprocAttr];simp
 ·rcases Bm (vld n) with h1|h1
  ·rcases vld_cases h1 with⟨h3,_⟩|⟨h3,h4,h5,h6⟩
   ·exact absurd h3 h0
   ·cases hl:lbl n with
    |nil=>exact absurd hl h3
    |cons p r=>
     rw[hl] at h4 h5;have hp:=O6 (Hr h4 (Im ..));have hi:=Aj1 n 46;have hc:(((46:UInt8).toNat:Nat):Int)=46:=rfl;have hx:Lib.indexByte n 46=(p.length:Int):=by rw[h5,Mm];exact Mc 46 _ p hp
     rw[hc,hx] at hi;have hlen:n.length=p.length+1+(flat r).length:=by rw[h5,Mm];simp;omega
     have e:List.drop ((p.length:Int)+1).toNat (List.take n.length n)=flat r:=by
      have:((p.length:Int)+1).toNat=p.length+1:=by omega
      rw[this,E3,h5,Mm];simp
     by_cases h7:r=[]
     ·subst h7;have e2:flat []=[]:=rfl;simp(disch:=omega)only[Em8,Dc,hi,e,e2,h0,h1,Aj,simprocAttr];simp[jn]
     ·have e2:¬flat r=[]:=by obtain⟨m,hm⟩:=Ml r h7;rw[hm];simp
      simp(disch:=omega)only[Em8,Dc,hi,e,e2,h0,h1,Aj,simprocAttr];simp[jn,h7]
  ·simp(disch:=omega)only[Em8,Dc,h0,h1,Aj,simprocAttr];simp
def Eq8 (n top:List UInt8):Bool:=(decide (top=[46])||decide (n=top))||(46::top).isSuffixOf n
def Eq7 (n top:List UInt8) (hn:n.length≤9223372036854775807) (ht:top.length≤1000000):S gx 2 [.s n,.s top]=some [.b (Eq8 n top)]:=by
 refine Iv0 (N:=1) rfl ?_;unfold Eq8;have h0:([46]:List UInt8).length=1:=rfl;by_cases h1:top=[46]<;>by_cases h2:n=top<;>simp(disch:=omega)only[Hf1,Ph,h1,h2,Aj,simprocAttr]
 all_goals simp
def Ad1 {a b:List (List UInt8)} (ha:Ht true a=true) (hb:Ht true b=true) (h:(46::flat b)<:+flat a):b<:+a:=by obtain⟨p,hp⟩:=h;have h1:=Xf a (fun x hx=>O6 (Hr ha hx));have h2:=Xf b (fun x hx=>O6 (Hr hb hx));rw[←hp] at h1;have h3:cut (p++46::flat b)=cut p++cut (flat b):=Yp (flat b) p [];rw[h3,h2,←Cv] at h1;exact⟨cut p,Uy h1⟩
def Fn0 {n top:List UInt8} (hn:vld n=true) (ht:vld top=true):Eq8 n top=true↔lbl top<:+lbl n:=by
 unfold Eq8;simp only[Cy,decide_eq_true_eq,Hk];constructor
 ·rintro ((rfl|rfl)|h)
  ·rw[K6];exact List.nil_suffix
  ·exact List.suffix_refl _
  ·rcases vld_cases ht with⟨h1,h2⟩|⟨h1,h2,h3,_⟩
   ·rw[h2];exact List.nil_suffix
   ·rcases vld_cases hn with⟨h5,_⟩|⟨h5,h6,h7,_⟩
    ·rw[h5] at h;have h9:=h.length_le;have h8:=Kx h2 h1;rw[←h3] at h8;simp only[Cj,C2] at h9;omega
    ·rw[h3,h7] at h;exact Ad1 h6 h2 h
 ·intro h;obtain⟨p,hp⟩:=h;rcases vld_cases ht with⟨h1,h2⟩|⟨h1,h2,h3,_⟩
  ·exact .inl (.inl h1)
  ·by_cases hp0:p=[]
   ·left;right;subst hp0;exact O4 hn ht hp.symm
   ·right;rcases vld_cases hn with⟨_,h5⟩|⟨h5,h6,h7,_⟩
    ·rw[h5] at hp;exact absurd (List.append_eq_nil_iff.1 hp).1 hp0
    ·obtain⟨m,hm⟩:=Ml p hp0;rw[h7,←hp,Qj,hm];exact⟨m,by rw[Cv,←h3];simp⟩
def ak {α:Type} [DecidableEq α]:∀(a b:List α),Xg a b=b.length↔b<+:a
 |[],[]=>by simp[Xg]
 |[],y::ys=>by simp[Xg]
 |x::xs,[]=>by simp[Xg]
 |x::xs,y::ys=>by
  have:=ak xs ys;simp only[Xg];split
  ·rename_i h;subst h;simp[this,Pm]
  ·rename_i h;simp[Pm,Ne.symm h]
def sk (a b:List (List UInt8)):Mz a b=b.length↔b<:+a:=by unfold Mz;have:=ak a.reverse b.reverse;rw[List.length_reverse] at this;rw[this,List.reverse_prefix]
def C4 {n top:List UInt8}:under n top=true↔vld n=true∧vld top=true∧lbl top<:+lbl n:=by unfold under;simp[sk,and_assoc]
def dc {n top:List UInt8} (hn:vld n=true) (ht:vld top=true):Eq8 n top=under n top:=by rw[D5,Fn0 hn ht,C4];simp[hn,ht]
def Gv (n top:List UInt8) (hn:n.length≤9223372036854775807) (ht:top.length≤9223372036854775807):S On 2 [.s n,.s top]=some [.b (under n top)]:=by
 refine Jl6 (N:=1) rfl ?_;rcases Bm (vld n) with h1|h1
 ·rcases Bm (vld top) with h2|h2
  ·have h3:=Hl h2;simp(disch:=omega)only[Gg0,Dc,Eq7,h1,h2,Aj,simprocAttr];rw[dc h1 h2]
  ·have h3:under n top=false:=by simp[under,h2]
   simp(disch:=omega)only[Gg0,Dc,h1,h2,h3,Aj,simprocAttr]
 ·have h3:under n top=false:=by simp[under,h1]
  simp(disch:=omega)only[Gg0,Dc,h1,h3,Aj,simprocAttr]
end Go.X.G
/- Names: order, common ancestors, wildcards. -/
namespace Go.X.G
open Go Go.X
def Wd:∀(a:List UInt8),Op.bytesLess a a=false
 |[]=>rfl
 |a::x=>by simp[Op.bytesLess,Wd x]
def Pv:∀(a b:List UInt8),Lib.compareBytes a b=cmpS a b
 |[],[]=>rfl
 |[],_::_=>rfl
 |_::_,[]=>rfl
 |a::x,b::y=>by
  have ih:=Pv x y;unfold cmpS at ih ⊢;simp only[Lib.compareBytes,Op.bytesLess,ih];by_cases h1:a<b
  ·simp[h1]
  ·by_cases h2:b<a
   ·have h3:a≠b:=fun e=>by subst e;exact h1 h2
    simp[h1,h2,h3]
   ·have h3:a=b:=UInt8.le_antisymm (UInt8.not_lt.1 h2) (UInt8.not_lt.1 h1);subst h3;simp[h1]
def Kb {a b:List UInt8}:cmpS a b=0↔a=b:=by
 unfold cmpS;by_cases h:a=b
 ·subst h;simp[Wd]
 ·cases h2:Op.bytesLess a b<;>simp[h]
def Nl (x y:List UInt8):S Wq 2 [.s x,.s y]=some [.i .i64 (cmpS x y)]:=by rw[Ap4,Pv]
def Xm:List (List UInt8)→List (List UInt8)→Option Int
 |x::xs,y::ys=>if x=y then Xm xs ys else some (cmpS x y)
 |_,_=>none
def Ex0:∀(a b:List (List UInt8)),Xm a b=if Xg a b<a.length∧Xg a b<b.length then some (cmpS (a.getD (Xg a b) []) (b.getD (Xg a b) [])) else none
 |[],b=>by simp[Xm,Xg]
 |x::xs,[]=>by simp[Xm,Xg]
 |x::xs,y::ys=>by
  have ih:=Ex0 xs ys;simp only[Xm,Xg];by_cases h:x=y
  ·simp only[if_pos h,ih];simp
  ·simp[h]
def Af9 (a b:List (List UInt8)):Int:=match Xm a.reverse b.reverse with
 |some c=>c
 |none=>if a.length<b.length then -1 else if b.length<a.length then 1 else 0
def Bg5 (a:List (List UInt8)) (k:Nat) (h:k<a.length):a.reverse.getD k []=a.getD (a.length - 1 - k) []:=by simp[C9,List.getElem?_reverse h]
def av {a b:List UInt8} (ha:vld a=true) (hb:vld b=true):Jp a b=Af9 (lbl a) (lbl b):=by
 unfold Jp Af9;rw[Ex0];have e:Xg (lbl a).reverse (lbl b).reverse=Mz (lbl a) (lbl b):=rfl;rw[e,ha,hb];simp only[List.length_reverse,Bool.and_self,if_true];by_cases h:Mz (lbl a) (lbl b)<(lbl a).length∧Mz (lbl a) (lbl b)<(lbl b).length
 ·rw[if_pos h,if_pos h,Bg5 _ _ h.1,Bg5 _ _ h.2]
 ·rw[if_neg h,if_neg h]
def Ap6 (a b:List (List UInt8)) (p1 p2 p3 p4:PV) (ha:a.length≤1000) (hb:b.length≤1000) (N:Nat) (hN:1001<N):
  Dr5.ev S N [p1,p2,p3,p4,Cn a,Cn b]=some (match Xm a.reverse b.reverse with|some c=> .ret [.i .i64 c]|none=> .yld 0 []):=by
 have key:=Kq (fn:=S) (N:=N) (η:=[p1,p2,p3,p4,Cn a,Cn b]) (id:=1) (init:=[(.c (.i .i64 (1)))]) (body:=Ed4) (α:=Nat) (fun k=>[.i .i64 ((k:Int)+1)])
  (fun k=>match Xm (a.reverse.drop k) (b.reverse.drop k) with|some c=> .ret [.i .i64 c]|none=> .yld 0 []) (fun k=>k≤a.length∧k≤b.length) (fun k=>a.length - k) 0 rfl ⟨Dy _,Dy _⟩ (by omega) ?_
 ·simpa [Dr5] using key
 ·rintro k ⟨h1,h2⟩;by_cases h3:k<a.length
  ·by_cases h4:k<b.length
   ·have e1:((a.length:Int) - ((k:Int)+1)).toNat=a.length - 1 - k:=by omega
    have e2:((b.length:Int) - ((k:Int)+1)).toNat=b.length - 1 - k:=by omega
    have g1:a[a.length - 1 - k]? =some (a[a.length - 1 - k]'(by omega)):=Bs (by omega);have g2:b[b.length - 1 - k]? =some (b[b.length - 1 - k]'(by omega)):=Bs (by omega);have d1:a.reverse.drop k=(a[a.length - 1 - k]'(by omega))::a.reverse.drop (k+1):=by rw[Df (by simpa using h3)];simp
    have d2:b.reverse.drop k=(b[b.length - 1 - k]'(by omega))::b.reverse.drop (k+1):=by rw[Df (by simpa using h4)];simp
    rw[d1,d2];generalize (a[a.length - 1 - k]'(by omega))=x at g1;generalize (b[b.length - 1 - k]'(by omega))=y at g2;simp only[Xm];by_cases h:x=y
    ·left;have h5:cmpS x y=0:=Kb.2 h;refine⟨k+1,?_,⟨by omega,by omega⟩,by omega,by rw[if_pos h]⟩;simp(disch:=omega)only[Aq0,Nl,e1,e2,g1,g2,h5,Aj,simprocAttr]
    ·right;have h5:¬cmpS x y=0:=fun e=>h (Kb.1 e);rw[if_neg h];simp(disch:=omega)only[Aq0,Nl,e1,e2,g1,g2,h5,Aj,simprocAttr];simp[Out.goes]
   ·right;have d2:b.reverse.drop k=[]:=Hh (by simp;omega);have z:Xm (a.reverse.drop k) []=none:=by cases a.reverse.drop k<;>rfl
    rw[d2,z];simp(disch:=omega) [Aq0,xe,EVP,EV,simprocAttr,Out.goes]
  ·right;have d1:a.reverse.drop k=[]:=Hh (by simp;omega);have z:Xm [] (b.reverse.drop k)=none:=rfl;rw[d1,z];simp(disch:=omega) [Aq0,xe,EVP,EV,simprocAttr,Out.goes]
def J3 (a b:List UInt8) (hn:a.length≤9223372036854775807) (ht:b.length≤9223372036854775807):S Rc 2 [.s a,.s b]=some [.i .i64 (Jp a b)]:=by
 refine Jh6 (N:=1002) rfl ?_;have h1:=G2 a;have h2:=G2 b;rcases Bm (vld a) with h3|h3<;>rcases Bm (vld b) with h4|h4
 ·rw[av h3 h4];unfold Af9;have hk:=Ap6 (lbl a) (lbl b) (.s a) (.s b) (.b true) (.b true) (by omega) (by omega) 1002 (by omega);cases h5:Xm (lbl a).reverse (lbl b).reverse with
  |some c=>
   rw[h5] at hk;simp(disch:=omega)only[Aq0,Dc,V0,hk,h3,h4,Aj,simprocAttr]
  |none=>
   rw[h5] at hk;simp(disch:=omega)only[Aq0,Dc,V0,hk,h3,h4,Aj,simprocAttr]
   grind
 all_goals unfold Jp
 all_goals simp(disch:=omega)only[Aq0,Dc,Nl,h3,h4,Aj,simprocAttr]
 all_goals simp
def Gr1 (l:List (List UInt8)) (hl:l.length≤1000) (hw:∀x∈l,x.length≤1000) (N:Nat) (hN:l.length<N):
  Ab9.ev S N [Cn l]=some (.yld 0 [.s (flat l)]):=by
 have key:Ab9.ev S N [Cn l]=some (.yld 0 [.s ([]++flat l)]):=by
  refine D7 l (fun i (g:List UInt8)=>[.s g,.i .i64 (i:Int)]) (fun i g r=> .yld 0 [.s (g++flat r)]) (fun i g=>g.length≤1001*i) [] rfl (B7 _) hN (fun i g c r hd hi hc hI=> ?_) (fun g hI=> ?_)
  ·left;have h1:=hw c (Cq hc);have h0:([46]:List UInt8).length=1:=rfl;refine⟨g++c++[46],?_,by simp;omega,by simp[flat]⟩;simp(disch:=first|omega|(simp only[B0];omega))only[As2,hc,Aj,simprocAttr]
  ·simp(disch:=omega)only[As2,Aj,simprocAttr];simp[flat,Out.goes]
 simpa using key
def Df4 (l:List (List UInt8)) (hl:l.length≤1000) (hw:∀x∈l,x.length≤1000):S f4 1 [Cn l]=some [.s (jn l)]:=by
 refine Ht8 (N:=l.length+1) rfl ?_;unfold jn;by_cases h:l=[]
 ·subst h;simp(disch:=first|omega|(simp;omega))only[As2,Aj,simprocAttr]
 ·have h1:0<l.length:=Ch.2 h;have hk:=Gr1 l hl hw (l.length+1) (by omega);simp(disch:=omega)only[As2,hk,h,Aj,simprocAttr]
def Dn6 (n:List UInt8):∀x∈lbl n,x.length≤1000:=fun x hx=>by have:=Vq (Dn7 n x hx);omega
def Zg {n:List UInt8} (h:vld n=true) (k:Nat):(jn ((lbl n).drop k)).length≤254:=Hl (M3 h k).1
def Od (n:List UInt8):List UInt8:=if n=[46] then [42,46] else [42,46]++n
def starOk (n:List UInt8):Bool:=vld n && !decide ((lbl n)[0]? =some [42]) && vld (Od n)
def starN (n:List UInt8):List UInt8:=if starOk n=true then Od n else []
def ol (n:List UInt8) (hn:n.length≤1000000):S Az3 1 [.s n]=some [.s (starN n),.b (starOk n)]:=by
 refine Jm6 (N:=1) rfl ?_;have h0:([42,46]:List UInt8).length=2:=rfl;have hl:(Od n).length≤9223372036854775807:=by
  unfold Od;split
  ·simp
  ·rw[B0,h0];omega
 have h1:=G2 n;unfold starN starOk;rcases Bm (vld n) with h3|h3
 ·have tail:∀(q:List (List UInt8)),(¬q[0]? =some [42])→T.ev S 1 Ey0 [.s n,Cn q,.b true]=some (.ret (if vld (Od n)=true then [.s (Od n),.b true] else [.s [],.b false])):=by
   intro q _;unfold Od at hl ⊢;by_cases h4:n=[46]
   ·simp only[if_pos h4] at hl ⊢;rcases Bm (vld [42,46]) with h5|h5<;>simp(disch:=omega)only[Aq3,Gd,h4,h5,Aj,simprocAttr]
   ·simp only[if_neg h4] at hl ⊢;rcases Bm (vld ([42,46]++n)) with h5|h5<;>simp(disch:=omega)only[Aq3,Gd,h4,Aj,simprocAttr]<;>simp only[Dl,Dw] at h5 hl<;>simp(disch:=omega)only[Aq3,Gd,h5,Aj,simprocAttr]<;>simp
  cases hq:lbl n with
  |nil=>
   have ht:=tail [] (by simp);simp(disch:=first|omega|(simp;omega))only[↓ht,Aq3,split_ok,hq,h3,Aj,simprocAttr];rcases Bm (vld (Od n)) with h5|h5<;>simp[h5]
  |cons p r=>
   have h6:0<((p::r).length:Int):=by simp only[Cj];omega
   by_cases h7:p=[42]
   ·subst h7;simp(disch:=first|omega|(simp only[Cj];omega))only[Aq3,split_ok,hq,h3,Aj,simprocAttr];simp
   ·have ht:=tail (p::r) (by simpa using h7);simp(disch:=first|omega|(simp only[Cj];omega))only[↓ht,Aq3,split_ok,hq,h3,h7,Aj,simprocAttr];rcases Bm (vld (Od n)) with h5|h5<;>simp[h5,h7]
 ·simp(disch:=omega)only[Aq3,split_ok,h3,Aj,simprocAttr];simp
def Ur {n:List UInt8} (h:vld n=true):(n[0]? =some 42↔(lbl n)[0]? =some [42]):=by
 rcases vld_cases h with⟨h1,h2⟩|⟨h1,h2,h3,_⟩
 ·subst h1;simp[K6]
 ·cases hl:lbl n with
  |nil=>exact absurd hl h1
  |cons p r=>
   rw[hl] at h2 h3;have hp:=Hr h2 (Im ..);have hne:=mw hp;cases p with
   |nil=>exact absurd rfl hne
   |cons c q=>
    rw[h3,Mm];simp only[Dl,Dn,Bn];constructor
    ·rintro rfl;unfold K8 at hp;simp at hp;rcases hp with h|h
     ·rw[h]
     ·exfalso;have:Tx 42=false:=by decide
      rw[this] at h;simp at h
    ·intro h;injection h
def oh (n:List UInt8) (hn:n.length≤1000000):S Az5 1 [.s n]=some [.s (starN n),.b (starOk n)]:=by
 refine Jp4 (N:=1) rfl ?_;have h0:([42,46]:List UInt8).length=2:=rfl;have hl:(Od n).length≤9223372036854775807:=by
  unfold Od;split
  ·simp
  ·rw[B0,h0];omega
 unfold starN starOk;have tail:T.ev S 1 Ey1 [.s n,.s (Od n)]=some (.ret [.s (starN n),.b (starOk n)]):=by
  unfold starN starOk;rcases Bm (vld n) with h3|h3
  ·have h4:=Ur h3;have h5:=Bs (Sz h3);have h6:=Ep1 (n[0]'(Sz h3)) 42 (by omega);by_cases h7:(lbl n)[0]? =some [42]
   ·have h8:=h4.2 h7;rw[h5] at h8;injection h8 with h8;have h9:((n[0]'(Sz h3)).toNat:Int)=42:=h6.2 h8;simp(disch:=omega)only[En1,Dc,h3,h5,Aj,simprocAttr];simp[h7]
   ·have h8:¬n[0]? =some 42:=fun e=>h7 (h4.1 e);rw[h5] at h8;have h9:¬((n[0]'(Sz h3)).toNat:Int)=42:=fun e=>h8 (by rw[h6.1 e];rfl);rcases Bm (vld (Od n)) with ha|ha<;>simp(disch:=omega)only[En1,Dc,h3,h5,ha,Aj,simprocAttr]<;>simp[h7]
  ·simp(disch:=omega)only[En1,Dc,h3,Aj,simprocAttr];simp
 unfold starN starOk at tail;obtain⟨y0,y1,y2,y3,y4,y5,y6,y7,yt⟩:=En1;by_cases h4:n=[46]
 ·have e:Od n=[42,46]:=by simp[Od,h4]
  rw[e] at tail ⊢;subst h4;simp(disch:=omega)only[y0,y1,y2,yt,Aj,simprocAttr];rw[tail];simp
 ·have e:Od n=42::46::n:=by simp[Od,h4]
  rw[e] at tail ⊢;simp(disch:=omega)only[y0,y1,y2,yt,h4,Aj,simprocAttr];rw[tail];simp
end Go.X.G
/- Data of records: what the reference's functions give. -/
namespace Go.X.G
open Go Go.X
def Jv2 (t:Int):List UInt8:=
 if t=1 then [65] else if t=2 then [78,83] else if t=5 then [67,78,65,77,69] else if t=6 then [83,79,65] else if t=12 then [80,84,82]
 else if t=15 then [77,88] else if t=16 then [84,88,84] else if t=28 then [65,65,65,65] else if t=33 then [83,82,86] else if t=39 then [68,78,65,77,69]
 else if t=43 then [68,83] else if t=46 then [82,82,83,73,71] else if t=47 then [78,83,69,67] else if t=48 then [68,78,83,75,69,89] else []
def t15 (t:Int):t=1∨t=2∨t=5∨t=6∨t=12∨t=15∨t=16∨t=28∨t=33∨t=39∨t=43∨t=46∨t=47∨t=48∨(t≠1∧t≠2∧t≠5∧t≠6∧t≠12∧t≠15∧t≠16∧t≠28∧t≠33∧t≠39∧t≠43∧t≠46∧t≠47∧t≠48):=by omega
def Ap2 (t:Int):S wx 1 [.i .i64 t]=some [.s (Jv2 t)]:=by
 refine Ik1 (N:=1) rfl ?_;rcases t15 t with rfl|rfl|rfl|rfl|rfl|rfl|rfl|rfl|rfl|rfl|rfl|rfl|rfl|rfl|⟨h0,h1,h2,h3,h4,h5,h6,h7,h8,h9,h10,h11,h12,h13⟩
 all_goals simp(disch:=omega)only[Hd2,Aj,simprocAttr]
 all_goals first|rfl|(unfold Jv2;simp only[if_neg, *];rfl)
def knw (t:Int):Bool:=decide (t=1)||decide (t=2)||decide (t=5)||decide (t=6)||decide (t=12)||decide (t=15)||decide (t=16)||decide (t=28)||decide (t=33)||decide (t=39)||decide (t=43)||decide (t=46)||decide (t=47)||decide (t=48)
def Fh5 (t:Int):decide (Jv2 t≠[])=knw t:=by
 unfold Jv2 knw;rcases t15 t with rfl|rfl|rfl|rfl|rfl|rfl|rfl|rfl|rfl|rfl|rfl|rfl|rfl|rfl|⟨h0,h1,h2,h3,h4,h5,h6,h7,h8,h9,h10,h11,h12,h13⟩
 all_goals simp[*]
def D3 (t:Int):S Y4 1 [.i .i64 t]=some [.b (knw t)]:=by refine Jh0 (N:=1) rfl ?_;simp(disch:=omega)only[Jx7,Ap2,Fh5,Aj,simprocAttr]
def z6 (t:Int):S Dg7 1 [.i .i64 t]=some [.b (decide (t=6)||decide (t=5)||decide (t=39))]:=by refine Jg6 (N:=1) rfl ?_;simp(disch:=omega)only[Jx5,Aj,simprocAttr]
def F0 (d:Dat):Bool:=d.v6||(decide (d.hi=0) && decide (d.lo<4294967296))
def zn (d:Dat):S f7 1 [Ll d]=some [.b (F0 d)]:=by refine Ij9 (N:=1) rfl ?_;unfold F0;cases h:d.v6<;>by_cases h2:d.hi=0<;>simp(disch:=omega) [Hd0,h,h2,Aj,simprocAttr]
def inB (n most:Int):Bool:=decide (0≤n) && decide (n≤most)
def Cz0 (n m:Int):S I5 2 [.i .i64 n,.i .i64 m]=some [.b (inB n m)]:=by refine Ij6 (N:=1) rfl ?_;simp(disch:=omega)only[Hc8,inB,Aj,simprocAttr]
def Eg2 (n:Int):S wv 1 [.i .i64 n]=some [.b (inB n 4294967295)]:=by refine Ij7 (N:=1) rfl ?_;simp(disch:=omega)only[Hc9,inB,Aj,simprocAttr];congr 5;simp;omega
def Ix (s:List UInt8):Bool:=decide (1≤s.length) && decide (s.length≤255)
def j7 (s:List UInt8):S Y9 1 [.s s]=some [.b (Ix s)]:=by refine Ij5 (N:=1) rfl ?_;simp(disch:=omega)only[Hc7,Ix,Aj,simprocAttr];congr 5<;>simp<;>omega
def Cp7 {n:List UInt8} (h:vld n=true):0<n.length:=by
 unfold vld nm at h;split at h
 ·rename_i e;simp[e]
 ·split at h
  ·omega
  ·cases h
def H3 (n:List UInt8):Bool:=vld n && decide (n[0]? ≠some 42)
def J7 (n:List UInt8) (hn:n.length≤9223372036854775807):S Q3 1 [.s n]=some [.b (H3 n)]:=by
 refine Ij8 (N:=1) rfl ?_;unfold H3;cases h:vld n
 ·simp(disch:=omega)only[Gj5,Gd,h,Aj,simprocAttr];rfl
 ·have h0:=Bs (Cp7 h);have h1:=Ep1 (n[0]'(Cp7 h)) 42 (by omega);simp(disch:=omega)only[Gj5,Gd,h,h0,Aj,simprocAttr];simp;exact h1
def bit (set:Int) (t:Nat):Int:=set / 2 ^ t % 2
def Hz3 (x:Int):IntKind.u64.wrap ((BitVec.ofInt IntKind.u64.bits x &&& BitVec.ofInt IntKind.u64.bits 1).toNat:Int)=x % 2:=by
 have h2:(BitVec.ofInt 64 x &&& BitVec.ofInt 64 1).toNat=(BitVec.ofInt 64 x).toNat % 2:=by rw[BitVec.toNat_and];show (BitVec.ofInt 64 x).toNat &&& 1=_;exact Nat.and_one_is_mod _
 show IntKind.u64.wrap (((BitVec.ofInt 64 x &&& BitVec.ofInt 64 1).toNat:Nat):Int)=_;rw[h2,BitVec.toNat_ofInt];rw[Gj9]<;>omega
end Go.X.G
/- NSEC records: what they show. -/
namespace Go.X.G
open Go Go.X
def Ay3 (n t:Nat):n &&& 2 ^ t=(n.testBit t).toNat*2 ^ t:=by
 apply Nat.eq_of_testBit_eq;intro i;rw[Nat.testBit_and,Nat.testBit_two_pow];by_cases h:t=i
 ·subst h;cases h2:n.testBit t<;>simp
 ·cases h2:n.testBit t<;>simp[h,Nat.testBit_two_pow]
def Hx6 (x:Int) (t:Nat) (ht:t<64):IntKind.u64.wrap ((BitVec.ofInt IntKind.u64.bits x &&& BitVec.ofInt IntKind.u64.bits (2 ^ t)).toNat:Int)=if bit x t=1 then 2 ^ t else 0:=by
 have hp:(2 ^ t:Nat)<2 ^ 64:=Nat.pow_lt_pow_right (by decide) ht;have h1:(BitVec.ofInt 64 ((2:Int) ^ t)).toNat=2 ^ t:=by
  rw[BitVec.toNat_ofInt];have e:((2:Int) ^ t)=((2 ^ t:Nat):Int):=by simp
  rw[e,←Int.natCast_emod,Ec];exact Fz hp
 have h2:(BitVec.ofInt 64 x &&& BitVec.ofInt 64 ((2:Int) ^ t)).toNat=((BitVec.ofInt 64 x).toNat.testBit t).toNat*2 ^ t:=by rw[BitVec.toNat_and,h1,Ay3]
 show IntKind.u64.wrap (((BitVec.ofInt 64 x &&& BitVec.ofInt 64 ((2:Int) ^ t)).toNat:Nat):Int)=_;have h3:(BitVec.ofInt 64 x).toNat.testBit t=decide (bit x t=1):=by
  rw[BitVec.toNat_ofInt,Nat.testBit_eq_decide_div_mod_eq,decide_eq_decide];unfold bit;have hpos:(0:Int)<2 ^ t:=Int.pow_pos (by decide);have hb:0≤x % ((2 ^ 64:Nat):Int):=Int.emod_nonneg _ (by decide);have e1:(((x % ((2 ^ 64:Nat):Int)).toNat / 2 ^ t % 2:Nat):Int)=x % ((2 ^ 64:Nat):Int) / 2 ^ t % 2:=by rw[Int.natCast_emod,Int.natCast_ediv,Int.toNat_of_nonneg hb];simp
  have e2:x % ((2 ^ 64:Nat):Int) / 2 ^ t % 2=x / 2 ^ t % 2:=by
   have hs:((2 ^ 64:Nat):Int)=2 ^ t*(2*2 ^ (63 - t)):=by
    have:(2:Int) ^ 64=2 ^ t*(2*2 ^ (63 - t)):=by rw[←Int.mul_assoc,←Int.pow_succ,←Int.pow_add];congr 1;omega
    simpa using this
   have hx:x=((2 ^ 64:Nat):Int)*(x / ((2 ^ 64:Nat):Int))+x % ((2 ^ 64:Nat):Int):=(Int.mul_ediv_add_emod x _).symm;have hd:x / 2 ^ t=(2*2 ^ (63 - t))*(x / ((2 ^ 64:Nat):Int))+x % ((2 ^ 64:Nat):Int) / 2 ^ t:=by
    have:x=2 ^ t*((2*2 ^ (63 - t))*(x / ((2 ^ 64:Nat):Int)))+x % ((2 ^ 64:Nat):Int):=by rw[←Int.mul_assoc,←hs];exact hx
    calc x / 2 ^ t=(2 ^ t*((2*2 ^ (63 - t))*(x / ((2 ^ 64:Nat):Int)))+x % ((2 ^ 64:Nat):Int)) / 2 ^ t:=by rw[←this]
     _=_:=by rw[Int.mul_add_ediv_left _ _ (Int.ne_of_gt hpos)]
   rw[hd,Int.mul_assoc];omega
  rw[←e2,←e1];generalize (x % ((2 ^ 64:Nat):Int)).toNat / 2 ^ t % 2=q;omega
 rw[h2,h3];have hq:((2 ^ t:Nat):Int)≤9223372036854775808:=by have:(2 ^ t:Nat)≤2 ^ 63:=Nat.pow_le_pow_right (by decide) (by omega);omega
 by_cases hb:bit x t=1
 ·simp only[hb,decide_true,Bool.toNat_true,Gp,if_true];rw[Gj9 (by omega) (by omega)];simp
 ·simp only[hb,decide_false,Bool.toNat_false,Nat.zero_mul,if_false];rw[Gj9 (by omega) (by omega)];simp
def Ak0 (r:Rec) (t:Int):Bool:=decide (0≤t) && decide (t≤63) && decide (bit r.data.bits t.toNat=1)
def Cv9 (r:Rec) (t:Int):S Zk 2 [r.pv,.i .i64 t]=some [.b (Ak0 r t)]:=by
 refine Iq0 (N:=1) rfl ?_;unfold Ak0;by_cases h1:0≤t
 ·by_cases h2:t≤63
  ·obtain⟨n,rfl⟩:∃n:Nat,t=(n:Int):=⟨t.toNat,by omega⟩;have hb:IntKind.u64.bits=64:=rfl;have h3:X.bin .shr (.i .u64 r.data.bits) (.i .i64 (n:Int))=some (.i .u64 (r.data.bits / 2 ^ n)):=Aw3 _ _ _ _ (by rw[hb];omega);have h4:r.data.bits / 2 ^ n % 2=bit r.data.bits n:=rfl;simp(disch:=omega)only[Cp3,Py,Hz3,h3,h4,Aj,simprocAttr]
   try simp
   try omega
  ·simp(disch:=omega)only[Cp3,Aj,simprocAttr]
   try simp[h2]
 ·simp(disch:=omega)only[Cp3,Aj,simprocAttr]
  try simp[h1]
def T6 (n:Nat) (h:n<64):S Rz 1 [.i .i64 (n:Int)]=some [.i .u64 (2 ^ n)]:=by
 refine Jg1 (N:=1) rfl ?_;have hb:IntKind.u64.bits=64:=rfl;have h1:min n 64=n:=by omega
 have hp:(2:Int) ^ n≤18446744073709551615:=by
  have h2:(2 ^ n:Nat)≤2 ^ 63:=Nat.pow_le_pow_right (by decide) (by omega);have h3:((2:Int) ^ n)=((2 ^ n:Nat):Int):=by simp
  rw[h3];omega
 have hp0:(0:Int)≤2 ^ n:=Int.le_of_lt (Int.pow_pos (by decide));have h4:¬((n:Int)<0):=by omega
 simp(disch:=omega)only[Jx2,Am0,hb,h1,h4,Int.one_mul,Aj,simprocAttr]
def Bg3 (r:Rec) (t:Int):S Ay6 2 [r.pv,.i .i64 t]=some [.b (Ak0 r t)]:=by
 refine Jf1 (N:=1) rfl ?_;unfold Ak0;by_cases h1:0≤t
 ·by_cases h2:t≤63
  ·obtain⟨n,rfl⟩:∃n:Nat,t=(n:Int):=⟨t.toNat,by omega⟩;have h3:=Hx6 r.data.bits n (by omega);have hp0:(0:Int)<2 ^ n:=Int.pow_pos (by decide);simp(disch:=omega)only[Gf9,T6,Py,h3,Aj,simprocAttr];by_cases h4:bit r.data.bits n=1
   ·simp[h4];omega
   ·simp[h4]
  ·simp(disch:=omega)only[Gf9,Aj,simprocAttr]
   try simp[h2]
 ·simp(disch:=omega)only[Gf9,Aj,simprocAttr]
  try simp[h1]
def ab (n top:List UInt8):Bool:=decide (n≠top) && under n top
def V9 (n top:List UInt8) (hn:n.length≤9223372036854775807) (ht:top.length≤9223372036854775807):S Dg9 2 [.s n,.s top]=some [.b (ab n top)]:=by
 refine Jh5 (N:=1) rfl ?_;unfold ab;by_cases h:n=top
 ·simp(disch:=omega)only[Hz7,h,Aj,simprocAttr]
  try simp
 ·simp(disch:=omega)only[Hz7,Gv,h,Aj,simprocAttr]
  try simp
def ib (r:Rec):Bool:=Ak0 r 39||(Ak0 r 2 && !Ak0 r 6)
def Bl5 (r:Rec):S Dg8 1 [r.pv]=some [.b (ib r)]:=by refine Jh4 (N:=1) rfl ?_;unfold ib;rcases Bm (Ak0 r 39) with h1|h1<;>rcases Bm (Ak0 r 2) with h2|h2<;>rcases Bm (Ak0 r 6) with h3|h3<;>simp(disch:=omega)only[Jy0,Cv9,h1,h2,h3,Aj,simprocAttr]<;>rfl
def Md (r:Rec) (zone name:List UInt8):Bool:=
 decide (r.typ=47) && under name zone && decide (0<Jp name r.name) && !(decide (r.data.host≠zone) && decide (0≤Jp name r.data.host)) && (!ab name r.name|| !ib r)
def Aj3 (r:Rec) (zone name:List UInt8) (hr:r.wf) (hz:zone.length≤9223372036854775807) (hn:name.length≤9223372036854775807):S Cy1 3 [r.pv,.s zone,.s name]=some [.b (Md r zone name)]:=by
 refine Jp1 (N:=1) rfl ?_;have g1:=hr.name;have g2:=hr.data.host;unfold My at g1 g2;unfold Md;by_cases h1:r.typ=47
 ·rcases Bm (under name zone) with h2|h2
  ·by_cases h3:0<Jp name r.name
   ·by_cases h4:r.data.host=zone
    ·rcases Bm (ab name r.name) with h6|h6<;>rcases Bm (ib r) with h7|h7<;>simp(disch:=omega)only[Bs1,Gv,J3,V9,Bl5,h1,h2,h4,h6,h7,Aj,simprocAttr]<;>simp[h3]
    ·by_cases h5:0≤Jp name r.data.host
     ·simp(disch:=omega)only[Bs1,Gv,J3,h1,h2,h4,Aj,simprocAttr]
      try simp[h4,h5]
     ·rcases Bm (ab name r.name) with h6|h6<;>rcases Bm (ib r) with h7|h7<;>simp(disch:=omega)only[Bs1,Gv,J3,V9,Bl5,h1,h2,h4,h6,h7,Aj,simprocAttr]<;>simp[h3,h5]
   ·simp(disch:=omega)only[Bs1,Gv,J3,h1,h2,Aj,simprocAttr]
    try simp[h3]
  ·simp(disch:=omega)only[Bs1,Gv,h1,h2,Aj,simprocAttr]
   try simp
 ·simp(disch:=omega)only[Bs1,h1,Aj,simprocAttr]
  try simp
def Ew8 (a:List UInt8):Jp a a=0:=by
 rcases Bm (vld a) with h|h
 ·rw[av h h];unfold Af9;have:∀l:List (List UInt8),Xm l l=none:=by
   intro l;induction l with
   |nil=>rfl
   |cons x xs ih=>simp[Xm,ih]
  rw[this];simp
 ·unfold Jp;simp[h,Kb]
def bk (r:Rec) (zone name:List UInt8) (hr:r.wf) (hz:zone.length≤9223372036854775807) (hn:name.length≤9223372036854775807):S Cx8 3 [r.pv,.s zone,.s name]=some [.b (Md r zone name)]:=by
 refine Jm5 (N:=1) rfl ?_;have g1:=hr.name;have g2:=hr.data.host;unfold My at g1 g2;unfold Md;by_cases h1:r.typ=47
 ·rcases Bm (under name zone) with h2|h2
  ·by_cases h3:0<Jp name r.name
   ·have hne:name≠r.name:=fun e=>by rw[←e,Ew8] at h3;omega
    have hbel:ab name r.name=under name r.name:=by simp[ab,hne]
    rw[hbel];unfold ib;by_cases h4:r.data.host=zone
    ·rcases Bm (under name r.name) with h6|h6<;>rcases Bm (Ak0 r 39) with h7|h7<;>rcases Bm (Ak0 r 6) with h8|h8<;>rcases Bm (Ak0 r 2) with h9|h9<;>simp(disch:=omega)only[Br7,Gw,J4,Bg3,h1,h2,h4,h6,h7,h8,h9,Aj,simprocAttr]<;>simp[h3]
    ·by_cases h5:0≤Jp name r.data.host
     ·simp(disch:=omega)only[Br7,Gw,J4,h1,h2,h4,Aj,simprocAttr]
      try simp[h4,h5]
     ·rcases Bm (under name r.name) with h6|h6<;>rcases Bm (Ak0 r 39) with h7|h7<;>rcases Bm (Ak0 r 6) with h8|h8<;>rcases Bm (Ak0 r 2) with h9|h9<;>simp(disch:=omega)only[Br7,Gw,J4,Bg3,h1,h2,h4,h6,h7,h8,h9,Aj,simprocAttr]<;>simp[h3,h5]
   ·simp(disch:=omega)only[Br7,Gw,J4,h1,h2,Aj,simprocAttr]
    try simp[h3]
  ·simp(disch:=omega)only[Br7,Gw,h1,h2,Aj,simprocAttr]
   try simp
 ·simp(disch:=omega)only[Br7,h1,Aj,simprocAttr]
  try simp
def Mh (v:List UInt8):List (List UInt8)→Nat→Int
 |[],_=> -1
 |x::r,i=>if v=x then(i:Int) else Mh v r (i+1)
def xp (v:List UInt8):∀(l:List (List UInt8)) (i:Nat),decide (0≤Mh v l i)=decide (v∈l)
 |[],i=>by simp[Mh]
 |x::r,i=>by
  simp only[Mh];by_cases h:v=x
  ·simp[h]
  ·simp only[if_neg h,xp v r (i+1)];simp[h]
def Dj0 (l:List (List UInt8)) (v:List UInt8) (hl:l.length≤1000000):S gy 2 [Cn l,.s v]=some [.i .i64 (Mh v l 0)]:=by
 refine Gk5 (N:=l.length+1) rfl ?_;have key:Ac0.ev S (l.length+1) [Cn l,.s v]=some (if Mh v l 0= -1 then .yld 0 [] else .ret [.i .i64 (Mh v l 0)]):=by
  refine Es l (fun i=>[.i .i64 (i:Int)]) (fun i r=>if Mh v r i= -1 then .yld 0 [] else .ret [.i .i64 (Mh v r i)]) rfl (by omega) (fun i c r hd hi hc=> ?_) ?_
  ·by_cases h:v=c
   ·right;simp(disch:=omega)only[Qp,hc,h,Aj,simprocAttr];have:¬((i:Int)= -1):=by omega
    simp[Mh,this,Out.goes]
   ·left;simp(disch:=omega)only[Qp,hc,h,Aj,simprocAttr]
    try simp[Mh,h]
  ·simp(disch:=omega)only[Qp,Aj,simprocAttr]
   try simp[Mh,Out.goes]
 by_cases h:Mh v l 0= -1
 ·rw[if_pos h] at key;simp(disch:=omega)only[Qp,key,h,Aj,simprocAttr]
 ·rw[if_neg h] at key;simp(disch:=omega)only[Qp,key,Aj,simprocAttr]
def sq (l:List (List UInt8)) (v:List UInt8) (hl:l.length≤1000000):S l6 2 [Cn l,.s v]=some [.b (decide (v∈l))]:=by refine Hm2 (N:=1) rfl ?_;rw[←xp v l 0];simp(disch:=omega)only[Hz8,Dj0,Aj,simprocAttr]
end Go.X.G
