/- Names: what the reference's functions give. -/
import Derived.Test.YtdljoocpdjbhfaaDoorTrustInsidesG5
import Derived.Test.YtdljoocpdjbhfaaDoorTrustInsidesG6
open Bool renaming and_eq_true→Ax,or_eq_true→Ah,eq_false_or_eq_true→A0,eq_iff_iff→Gt,and_true→Ol
open List renaming getElem?_eq_some_iff→Az,getElem?_eq_getElem→Ac,append_assoc→A2,length_pos_iff→B5,mem_of_getElem?→Ck,mem_cons→Cd,length_cons→Dj,cons_append→Fy,mem_cons_self→Fb,isSuffixOf_iff_suffix→Fc,drop_eq_getElem_cons→Gm,drop_eq_nil_of_le→Lw,length_nil→Mm
open Nat renaming le_refl→Af,zero_le→B4
open Option renaming map_eq_some_iff→Aq,map_some→Am
set_option maxHeartbeats 1000000
set_option linter.unusedVariables false
set_option linter.unusedSimpArgs false
namespace Go.X.G
open Go Go.X
def H8 (c:UInt8):Bool:=decide (97≤(c.toNat:Int)) && decide ((c.toNat:Int)≤122)||decide (48≤(c.toNat:Int)) && decide ((c.toNat:Int)≤57)||decide ((c.toNat:Int)=45)||decide ((c.toNat:Int)=95)
theorem S8 (c:UInt8):(decide (97≤(c.toNat:Int)) && decide ((c.toNat:Int)≤122)||decide (48≤(c.toNat:Int)) && decide ((c.toNat:Int)≤57)||decide ((c.toNat:Int)=45)||decide ((c.toNat:Int)=95))=H8 c:=rfl
def Gr (s:List UInt8):Bool:=decide (s=[42])||(decide (1≤s.length) && decide (s.length≤63) && s.all H8)
theorem Tq (s:List UInt8) (N:Nat) (hN:s.length<N) (hs:s.length≤4294967296):
  ff.ev S N [.s s]=some (if s.all H8=true then .yld 0 [] else .ret [.b false]):=by
 refine E2 s (fun i=>[.i .i64 (i:Int)]) (fun i r=>if r.all H8=true then .yld 0 [] else .ret [.b false]) rfl hN (fun i c r hd hi hc=> ?_) ?_
 ·simp (disch:=omega) only [l4,xe,EV,simprocAttr,hc,S8];cases h:H8 c<;>simp [h,Out.goes]
 ·simp (disch:=omega) [l4,xe,EV,simprocAttr,Out.goes]
theorem Tj (s:List UInt8) (hs:s.length≤4294967296):S Wq 1 [.s s]=some [.b (Gr s)]:=by
 refine Ak8 (N:=s.length+1) rfl ?_;simp (disch:=omega) only [l4,Tq,xe,EV,simprocAttr];unfold Gr
 grind
end Go.X.G
/- Names: what the reference's functions give. -/
namespace Go.X.G
open Go Go.X
def spl (first:Bool) (cur:List UInt8):List UInt8→Option (List (List UInt8))
 |[]=>some []
 |c::r=>if c=46 then (if Gr cur=true∧(cur=[42]→first=true) then (spl false [] r).map (cur::·) else none) else spl first (cur++[c]) r
def nm (n:List UInt8):Option (List (List UInt8)):=
 if n=[46] then some [] else if 2≤n.length∧n.length≤254∧n[n.length - 1]? =some 46 then spl true [] n else none
def lbl (n:List UInt8):List (List UInt8):=(nm n).getD []
def vld (n:List UInt8):Bool:=(nm n).isSome
theorem mf {α:Type} (n:List α) (i j:Nat) (c:α) (h:n[i]? =some c) (hj:j≤i):(n.take (i+1)).drop j=(n.take i).drop j++[c]:=by have hi:i<n.length:=(Az.1 h).1;rw [List.take_add_one,h,List.drop_append_of_le_length (by simp;omega)];rfl
theorem ml {α:Type} (n:List α) (i:Nat):(n.take i).drop i=[]:=by rw [List.drop_eq_nil_iff];simp;omega
def Kf (l:List (List UInt8)):Option (List (List UInt8))→Out
 |some ls=> .yld 0 [.l 1 ((l++ls).map .s)]
 |none=> .ret [.l 1 [], .b false]
theorem Z8 (n:List UInt8) (N:Nat) (hN:n.length<N) (hs:n.length≤1000):
  fg.ev S N [.s n]=some (Kf [] (spl true [] n)):=by
 refine E9 n (fun i (g:List (List UInt8)×Nat)=>[.l 1 (g.1.map .s), .i .i64 (g.2:Int), .i .i64 (i:Int)]) (fun i g r=>Kf g.1 (spl (decide (g.2=0)) ((n.take i).drop g.2) r)) (fun i g=>g.1.length≤i∧g.2≤i) ([],0) rfl ⟨Af _,Af _⟩ hN (fun i g c r hd hi hc hI=> ?_) (fun g hI=> ?_)
 ·obtain ⟨l,st⟩:=g;obtain ⟨h1,h2⟩:=hI;simp only at h1 h2 ⊢;have hl:((n.take i).drop st).length≤4294967296:=by simp;omega
  have hm:(l.map PV.s).length=l.length:=List.length_map ..;have hd':=s8 c 46 (by omega);by_cases hdot:c=46
  ·have hdi:=hd'.2 hdot;simp (disch:=omega) only [Mr,xe,EV,simprocAttr,hc,Tj];simp only [spl,if_pos hdot];by_cases h:Gr ((n.take i).drop st)=true∧((n.take i).drop st=[42]→st=0)
   ·obtain ⟨h3,h4⟩:=h;left;refine ⟨(l++[(n.take i).drop st],i+1),?_,?_,?_⟩
    ·rw [if_neg (by simp only [h3];intro h;simp at h;have:=h4 h.1;omega)];simp
    ·simp;omega
    ·simp only [ml];rw [if_pos ⟨h3,by simpa using h4⟩];cases h9:spl false [] r<;>simp [h9,Kf]
   ·right;have h':¬(Gr ((n.take i).drop st)=true∧((n.take i).drop st=[42]→decide (st=0)=true)):=by simpa using h
    rw [if_neg h'];refine ⟨?_,rfl⟩;rw [if_pos]
    ·rfl
    ·cases h5:Gr ((n.take i).drop st)
     ·simp
     ·simp only [h5,true_and] at h;have ⟨h6,h7⟩:=Classical.not_imp.1 h;simp [h6];omega
  ·have hdi:¬(c.toNat:Int)=46:=fun h=>hdot (hd'.1 h);left;refine ⟨(l,st),?_,?_,?_⟩
   ·simp (disch:=omega) only [Mr,xe,EV,simprocAttr,hc]
   ·simp only;omega
   ·simp only [spl];rw [if_neg hdot,mf n i st c hc h2]
 ·simp (disch:=omega) [Mr,xe,EV,simprocAttr,Out.goes,spl,Kf]
theorem split_ok (n:List UInt8) (hs:n.length≤9223372036854775807):S S3 1 [.s n]=some [B7 (lbl n), .b (vld n)]:=by
 refine Aq2 (N:=n.length+1) rfl ?_;unfold B7 lbl vld nm;by_cases h1:n=[46]
 ·simp (disch:=omega) [Mr,xe,EV,simprocAttr,h1]
 ·rw [if_neg h1];by_cases h2:n.length<2
  ·simp (disch:=omega) only [Mr,xe,EV,simprocAttr,h1];have h3:¬(2≤n.length∧n.length≤254∧n[n.length - 1]? =some 46):=by omega
   rw [if_neg h3];rfl
  ·by_cases h3:254<n.length
   ·simp (disch:=omega) only [Mr,xe,EV,simprocAttr,h1];have h3:¬(2≤n.length∧n.length≤254∧n[n.length - 1]? =some 46):=by omega
    rw [if_neg h3];rfl
   ·have h4:=Ac (l:=n) (i:=n.length - 1) (by omega);have h5:((n.length:Int) - 1).toNat=n.length - 1:=by omega
    have h6:=s8 (n[n.length - 1]'(by omega)) 46 (by omega);simp (disch:=omega) only [Mr,xe,EV,simprocAttr,h1,h4,h5,Z8];by_cases h7:n[n.length - 1]'(by omega)=46
    ·rw [if_pos (show 2≤n.length∧n.length≤254∧some (n[n.length - 1]'(by omega))=some 46 from ⟨by omega,by omega,by rw [h7]⟩),if_neg (fun h=>h (h6.2 h7))];cases h8:spl true [] n
     ·simp [Kf,X9]
     ·simp (disch:=omega) [Mr,Kf,xe,EV,simprocAttr]
    ·rw [if_neg (show¬(2≤n.length∧n.length≤254∧some (n[n.length - 1]'(by omega))=some 46) from fun h=>h7 (by simpa using h.2.2)),if_pos (show (((n[n.length - 1]'(by omega)).toNat:Int)≠46) from fun h=>h7 (h6.1 h))];rfl
end Go.X.G
/- Names: what the reference's functions give, ctd. -/
namespace Go.X.G
open Go Go.X
theorem O6:∀(r:List UInt8) (f:Bool) (cur:List UInt8) (l:List (List UInt8)),spl f cur r=some l→l.length≤r.length
 |[],f,cur,l,h=>by simp [spl] at h;simp [←h]
 |c::r,f,cur,l,h=>by
  simp only [spl] at h;split at h
  ·split at h
   ·obtain ⟨m,hm,rfl⟩:=Aq.1 h;have:=O6 r _ _ _ hm;simp;omega
   ·cases h
  ·have:=O6 r _ _ _ h;simp;omega
theorem vw {n:List UInt8} {l:List (List UInt8)} (h:nm n=some l):l.length≤254:=by
 unfold nm at h;split at h
 ·injection h with h;subst h;simp
 ·split at h
  ·rename_i h2;have:=O6 _ _ _ _ h;omega
  ·cases h
theorem Wp (n:List UInt8):(lbl n).length≤254:=by
 unfold lbl;cases h:nm n with
 |none=>simp
 |some l=>exact vw h
def Xb {α:Type} [DecidableEq α]:List α→List α→Nat
 |x::xs,y::ys=>if x=y then Xb xs ys+1 else 0
 |_,_=>0
def Rl (a b:List (List UInt8)):Nat:=Xb a.reverse b.reverse
theorem nz (a b:List (List UInt8)) (N:Nat) (hN:a.length<N) (ha:a.length≤1000000) (hb:b.length≤1000000):
  Ws.ev S N [B7 a,B7 b]=some (.yld 0 [.i .i64 (Rl a b:Int)]):=by
 have key:=Jr (fn:=S) (N:=N) (η:=[B7 a,B7 b]) (id:=1) (init:=[(.c (.i .i64 (0)))]) (body:=X5) (α:=Nat) (fun k=>[.i .i64 (k:Int)]) (fun k=> .yld 0 [.i .i64 ((k+Xb (a.reverse.drop k) (b.reverse.drop k):Nat):Int)]) (fun k=>k≤a.length∧k≤b.length) (fun k=>a.length - k) 0 rfl ⟨B4 _,B4 _⟩ (by omega) ?_
 ·simpa [Rl,Ws] using key
 ·rintro k ⟨h1,h2⟩;by_cases h3:k<a.length
  ·by_cases h4:k<b.length
   ·have e1:((a.length:Int) - 1 - k).toNat=a.length - 1 - k:=by omega
    have e2:((b.length:Int) - 1 - k).toNat=b.length - 1 - k:=by omega
    have g1:a[a.length - 1 - k]? =some (a[a.length - 1 - k]'(by omega)):=Ac (by omega);have g2:b[b.length - 1 - k]? =some (b[b.length - 1 - k]'(by omega)):=Ac (by omega);have d1:a.reverse.drop k=(a[a.length - 1 - k]'(by omega))::a.reverse.drop (k+1):=by rw [Gm (by simpa using h3)];simp
    have d2:b.reverse.drop k=(b[b.length - 1 - k]'(by omega))::b.reverse.drop (k+1):=by rw [Gm (by simpa using h4)];simp
    simp (disch:=omega) only [Yp,xe,EVP,EV,simprocAttr,e1,e2,g1,g2];rw [d1,d2];simp only [Xb];by_cases h:a[a.length - 1 - k]'(by omega)=b[b.length - 1 - k]'(by omega)
    ·left;refine ⟨k+1,by simp [h],⟨by omega,by omega⟩,by omega,?_⟩;rw [if_pos h];congr 3
     push_cast
     omega
    ·right;simp [h,Out.goes]
   ·right;have d2:b.reverse.drop k=[]:=Lw (by simp;omega);have z:Xb (a.reverse.drop k) []=0:=by cases a.reverse.drop k<;>rfl
    rw [d2,z];simp (disch:=omega) [Yp,xe,EVP,EV,simprocAttr,Out.goes]
  ·right;have d1:a.reverse.drop k=[]:=Lw (by simp;omega);have z:Xb [] (b.reverse.drop k)=0:=rfl;rw [d1,z];simp (disch:=omega) [Yp,xe,EVP,EV,simprocAttr,Out.goes]
theorem ny (a b:List (List UInt8)) (ha:a.length≤1000000) (hb:b.length≤1000000):S Wx 2 [B7 a,B7 b]=some [.i .i64 (Rl a b:Int)]:=by refine Aq1 (N:=a.length+1) rfl ?_;simp (disch:=omega) only [Yp,nz,xe,EVP,EV,simprocAttr]
def If (n top:List UInt8):Bool:=vld n && vld top && decide (Rl (lbl n) (lbl top)=(lbl top).length)
theorem Ob (n top:List UInt8) (hn:n.length≤9223372036854775807) (ht:top.length≤9223372036854775807):S Wb 2 [.s n, .s top]=some [.b (If n top)]:=by
 refine Aq6 (N:=1) rfl ?_;have h1:=Wp n;have h2:=Wp top;unfold If;cases h3:vld n<;>cases h4:vld top<;>simp (disch:=omega) only [Aj4,split_ok,ny,h3,h4,xe,EVP,EV,simprocAttr]
 all_goals (simp;try omega)
def cmpS (a b:List UInt8):Int:=if Op.bytesLess a b then -1 else if a=b then 0 else 1
end Go.X.G
/- Data of records: what the reference's functions give. -/
namespace Go.X.G
open Go Go.X
end Go.X.G
/- Data of records: bytes. -/
namespace Go.X.G
open Go Go.X
end Go.X.G
/- Data of records: the wire form. -/
namespace Go.X.G
open Go Go.X
end Go.X.G
/- Data of records: which are valid. -/
namespace Go.X.G
open Go Go.X
end Go.X.G
/- Lists of records: what the reference's functions give. -/
namespace Go.X.G
open Go Go.X
end Go.X.G
/- The library's functions on strings. -/
namespace Go.X.G
open Go Go.X
theorem qh (x:List UInt8) (c:UInt8):S bg 2 [.s x, .i .u8 (c.toNat:Int)]=some [.i .i64 (x.count c:Int)]:=
 Ak5 (args:=[.s x, .i .u8 (c.toNat:Int)]) (by simp [XK.run,Rn,Lib.countByte])
theorem pb (x:List UInt8) (c:UInt8):S bf 2 [.s x, .i .u8 (c.toNat:Int)]=some [.i .i64 (Lib.indexByte x c)]:=
 Ak2 (args:=[.s x, .i .u8 (c.toNat:Int)]) (by simp [XK.run,Rn])
theorem Mc (x:List UInt8) (c:UInt8):S V9 2 [.s x, .i .u8 (c.toNat:Int)]=some [.i .i64 (Lib.indexByte x c)]:=by refine Ak3 (N:=1) rfl ?_;simp (disch:=omega) only [z9,pb,xe,EVP,EV,simprocAttr]
theorem Gh (c:UInt8):∀(x:List UInt8),c∉x→Lib.indexByte x c= -1
 |[],_=>rfl
 |b::l,h=>by have h1:b≠c:=fun e=>h (by simp [e]);have h2:=Gh c l (fun e=>h (by simp [e]));simp [Lib.indexByte,h1,h2]
theorem Gg (c:UInt8) (post:List UInt8):∀(pre:List UInt8),c∉pre→Lib.indexByte (pre++c::post) c=(pre.length:Int)
 |[],_=>by simp [Lib.indexByte]
 |b::l,h=>by
  have h1:b≠c:=fun e=>h (by simp [e]);have h2:=Gg c post l (fun e=>h (by simp [e]));simp only [Fy,Lib.indexByte,h2];simp [h1]
  try omega
theorem dot_split (c:UInt8):∀(s:List UInt8),c∉s∨∃pre post,s=pre++c::post∧c∉pre
 |[]=> .inl (by simp)
 |b::l=>by
  by_cases h:b=c
  ·exact .inr ⟨[],l,by simp [h],by simp⟩
  ·rcases dot_split c l with h1|⟨pre,post,rfl,h2⟩
   ·exact .inl (by simp [h1,Ne.symm h])
   ·exact .inr ⟨b::pre,post,by simp,by simp [h2,Ne.symm h]⟩
def pcs (cur:List UInt8):List UInt8→List (List UInt8)
 |[]=>[cur]
 |c::r=>if c=46 then cur::pcs [] r else pcs (cur++[c]) r
def cut (s:List UInt8):List (List UInt8):=pcs [] s
theorem V3 (post:List UInt8):∀(pre cur:List UInt8),(46:UInt8)∉pre→pcs cur (pre++46::post)=(cur++pre)::pcs [] post
 |[],cur,_=>by simp [pcs]
 |b::l,cur,h=>by have h1:b≠46:=fun e=>h (by simp [e]);have h2:=V3 post l (cur++[b]) (fun e=>h (by simp [e]));simp [pcs,h1,h2]
theorem Lp:∀(s cur:List UInt8),(46:UInt8)∉s→pcs cur s=[cur++s]
 |[],cur,_=>by simp [pcs]
 |b::l,cur,h=>by have h1:b≠46:=fun e=>h (by simp [e]);have h2:=Lp l (cur++[b]) (fun e=>h (by simp [e]));simp [pcs,h1,h2]
theorem Xz (s:List UInt8):(cut s).length=s.count 46+1:=by
 have:∀(s cur:List UInt8),(pcs cur s).length=s.count 46+1:=by
  intro s
  induction s with
  |nil=>intro cur;rfl
  |cons c r ih=>
   intro cur;by_cases h:c=46<;>simp [pcs,h,ih]
 exact this s []
theorem Tn (s:List UInt8) (hs:s.length≤9223372036854775807):S Wj 2 [.s s, .s [46]]=some [.i .i64 (Lib.indexByte s 46)]:=by
 refine Ak4 (N:=1) rfl ?_;have h1:=Mc s 46;have e:(((46:UInt8).toNat:Nat):Int)=46:=rfl;rw [e] at h1;by_cases h:[46]=s
 ·subst h;simp (disch:=omega) only [s5,xe,EVP,EV,simprocAttr];rfl
 ·simp (disch:=omega) only [s5,h,h1,e,xe,EVP,EV,simprocAttr]
theorem Og (s:List UInt8) (hs:s.length≤9223372036854775807):S S2 2 [.s s, .s [46]]=some [.i .i64 (Lib.indexByte s 46)]:=by refine Ak6 (N:=1) rfl ?_;simp (disch:=omega) only [Aj0,Tn,xe,EVP,EV,simprocAttr]
theorem Yy (s:List UInt8):S Wk 2 [.s s, .s [46]]=some [.i .i64 (s.count 46:Int)]:=by refine Ak7 (N:=1) rfl ?_;have h1:=qh s 46;have e:(((46:UInt8).toNat:Nat):Int)=46:=rfl;rw [e] at h1;simp (disch:=omega) only [Aj1,h1,e,xe,EVP,EV,simprocAttr]
def W8 (done rest:List (List UInt8)):Out:=
 .yld 0 [.s ((done++rest).getLastD []),B7 ((done++rest).dropLast++[[]]), .i .i64 (((done++rest).length:Int) - 1)]
theorem P2 (s:List UInt8) (N:Nat) (hN:s.length<N) (hs:s.length≤1000000) (p q:PV):
  Wr.ev S N [.s s, .s [46], .i .i64 0,p, .i .i64 ((s.count 46:Int)+1)]=some (W8 [] (cut s)):=by
 have hc0:s.count 46≤s.length:=List.count_le_length;have key:=Jr (fn:=S) (N:=N) (η:=[.s s, .s [46], .i .i64 0,p, .i .i64 ((s.count 46:Int)+1)]) (id:=1) (init:=[(.v 0),(.rep 1 (.mn (.v 4) (.bin .add (.slen (.v 0)) (.c (.i .i64 (1))))) (.c (.s []))),(.c (.i .i64 (0)))]) (body:=X4) (α:=List (List UInt8)×List UInt8)
  (fun a=>[.s a.2,B7 (a.1++List.replicate (a.2.count 46+1) []), .i .i64 (a.1.length:Int)]) (fun a=>W8 a.1 (cut a.2)) (fun a=>a.1.length+a.2.count 46=s.count 46∧a.2.length≤s.length) (fun a=>a.2.length) ([],s) ?_ ⟨by simp,Af _⟩ hN ?_
 ·simpa [Wr] using key
 ·have e:((s.count 46:Int)+1).toNat=s.count 46+1:=by omega
  simp (disch:=omega) only [e,xe,EVP,EV,simprocAttr]
 ·rintro ⟨done,rest⟩ ⟨h1,h2⟩;simp only at h1 h2 ⊢;rcases dot_split 46 rest with h|⟨pre,post,rfl,h⟩
  ·right;have c0:rest.count 46=0:=List.count_eq_zero.2 h;have i0:=Gh 46 rest h;have cu:cut rest=[rest]:=by simpa [cut] using Lp rest [] h
   refine ⟨?_,rfl⟩;rw [c0];rw [c0] at h1;simp (disch:=omega) only [l5,Og,i0,xe,EVP,EV,simprocAttr];simp [W8,cu,List.getLastD_eq_getLast?]
  ·left;have c0:(pre++46::post).count 46=post.count 46+1:=by rw [List.count_append,List.count_eq_zero.2 h];simp
   have i0:=Gg 46 post pre h;have cu:cut (pre++46::post)=pre::cut post:=by simpa [cut] using V3 post pre [] h
   have hl:(pre++46::post).length=pre.length+post.length+1:=by simp;omega
   have sl1:List.drop (0:Int).toNat (List.take ((pre.length:Int)+0).toNat (pre++46::post))=pre:=by simp
   have sl2:List.drop ((pre.length:Int)+1).toNat (List.take (pre++46::post).length (pre++46::post))=post:=by
    have:((pre.length:Int)+1).toNat=pre.length+1:=by omega
    rw [this,List.take_length,List.drop_append];simp
   have sl3:(done++[]::[]::List.replicate (post.count 46) ([]:List UInt8)).length=done.length+post.count 46+2:=by simp;omega
   refine ⟨(done++[pre],post),?_,⟨by simp;omega,by simp only;omega⟩,by simp;omega,by simp [W8,cu]⟩;rw [c0];rw [c0] at h1;simp (disch:=omega) only [l5,Og,i0,sl1,sl2,xe,EVP,EV,simprocAttr];simp [List.replicate_succ,List.set_append]
theorem P1 (s:List UInt8) (hs:s.length≤1000000):S Wv 4 [.s s, .s [46], .i .i64 0, .i .i64 (-1)]=some [B7 (cut s)]:=by
 refine Ak9 (N:=s.length+1) rfl ?_;have h1:=Xz s;have h2:s.count 46≤s.length:=List.count_le_length;obtain ⟨l,x,hx⟩:∃l x,cut s=l++[x]:=⟨(cut s).dropLast,(cut s).getLast (by intro e;simp [e] at h1),(List.dropLast_concat_getLast _).symm⟩;have h3:l.length=s.count 46:=by rw [hx] at h1;simpa using h1
 have h4:((l.length:Int)+1 - 1)=(l.length:Int):=by omega
 have h5:((l++[([]:List UInt8)]).length:Int)=l.length+1:=by simp
 have h6:((l++[x]).length:Int)=l.length+1:=by simp
 have g1:(l++[([]:List UInt8)])[l.length]? =some []:=by simp
 have g2:(l++[x]).getLastD []=x:=by simp [List.getLastD_eq_getLast?]
 have g3:(l++[([]:List UInt8)]).set l.length x=l++[x]:=by simp
 have hk:=P2 s (s.length+1) (by omega) hs (.i .i64 (-1)) .u;rw [hx] at hk ⊢;simp only [W8,List.nil_append,List.dropLast_concat] at hk;simp (disch:=omega) only [l5,Yy,hk,h4,h6,g1,g2,g3,xe,EVP,EV,simprocAttr];have g4:((l.length:Int)+1).toNat=(l++[x]).length:=by simp
 rw [g4,List.take_length];rfl
theorem Yv (s:List UInt8) (hs:s.length≤1000000):S Wz 2 [.s s, .s [46]]=some [B7 (cut s)]:=by refine Aq4 (N:=1) rfl ?_;simp (disch:=omega) only [Aj2,P1,xe,EVP,EV,simprocAttr]
theorem Md (s t:List UInt8) (hs:s.length≤9223372036854775807):S Ww 2 [.s s, .s t]=some [.b (t.isSuffixOf s)]:=by
 refine Aq0 (N:=1) rfl ?_;by_cases h:t.length≤s.length
 ·have e:((s.length:Int) - (t.length:Int)).toNat=s.length - t.length:=by omega
  simp (disch:=omega) only [s6,e,xe,EVP,EV,simprocAttr];simp only [List.take_length];congr 4;rw [Gt,Fc,decide_eq_true_eq];refine ⟨fun h=>h▸List.drop_suffix _ _,fun h=> ?_⟩;obtain ⟨p,rfl⟩:=h;simp
 ·have h2:t.isSuffixOf s=false:=by rw [Bool.eq_false_iff,ne_eq,Fc];exact fun h'=>h h'.length_le
  simp (disch:=omega) only [s6,h2,xe,EVP,EV,simprocAttr]
theorem F8 (s t:List UInt8) (hs:s.length≤9223372036854775807):S S4 2 [.s s, .s t]=some [.b (t.isSuffixOf s)]:=by refine Aq5 (N:=1) rfl ?_;simp (disch:=omega) only [Aj3,Md,xe,EVP,EV,simprocAttr]
end Go.X.G
/- Names and their labels. -/
namespace Go.X.G
open Go Go.X
def flat (l:List (List UInt8)):List UInt8:=l.flatMap fun x=>x++[46]
def jn (l:List (List UInt8)):List UInt8:=if l=[] then [46] else flat l
def F2 (first:Bool):List (List UInt8)→Bool
 |[]=>true
 |p::r=>Gr p && (!decide (p=[42])||first) && F2 false r
theorem pk:H8 46=false:=by decide
theorem N5 {p:List UInt8} (h:Gr p=true):(46:UInt8)∉p:=by
 unfold Gr at h;simp at h;rcases h with rfl|⟨_,h⟩
 ·decide
 ·intro h2;have:=h 46 h2;rw [pk] at this;cases this
theorem cp {p:List UInt8} (h:Gr p=true):p≠[]:=by rintro rfl;simp [Gr] at h
theorem Hg {p:List UInt8}:∀{f:Bool} {l:List (List UInt8)},F2 f l=true→p∈l→Gr p=true
 |f,q::r,h,hp=>by
  simp only [F2,Ax] at h;rcases Cd.1 hp with rfl|hp
  ·exact h.1.1
  ·exact Hg h.2 hp
theorem Lg:∀(m:List UInt8) (f:Bool) (cur:List UInt8),spl f cur (m++[46])=if F2 f (pcs cur m)=true then some (pcs cur m) else none
 |[],f,cur=>by simp only [List.nil_append,spl,if_true,pcs,F2,Am,Ol];by_cases h:Gr cur=true<;>by_cases h2:cur=[42]<;>cases f<;>simp [h,h2]
 |c::r,f,cur=>by
  simp only [Fy,spl,pcs];by_cases hc:c=46
  ·simp only [if_pos hc];rw [Lg r false []];simp only [F2];by_cases h:Gr cur=true<;>by_cases h2:cur=[42]<;>cases f<;>by_cases h3:F2 false (pcs [] r)=true<;>simp [h,h2,h3]
  ·simp only [if_neg hc];exact Lg r f (cur++[c])
theorem Ls (b:List UInt8):∀(a cur:List UInt8),pcs cur (a++46::b)=pcs cur a++cut b
 |[],cur=>by simp [pcs,cut]
 |c::r,cur=>by
  simp only [Fy,pcs];split
  ·rw [Ls b r []];rfl
  ·exact Ls b r _
theorem I2:∀(m cur:List UInt8),flat (pcs cur m)=cur++m++[46]
 |[],cur=>by simp [pcs,flat]
 |c::r,cur=>by
  simp only [pcs];split
  ·rename_i h;have:=I2 r [];simp only [flat,List.flatMap_cons] at this ⊢;rw [this,h];simp
  ·rw [I2 r (cur++[c])];simp
theorem dy (a b:List (List UInt8)):flat (a++b)=flat a++flat b:=by simp [flat]
theorem uh (cur m:List UInt8):pcs cur m≠[]:=by
 cases m with
 |nil=>simp [pcs]
 |cons c r=>
  simp only [pcs];split
  ·simp
  ·intro h;have:=I2 r (cur++[c]);rw [h] at this;simp [flat] at this
theorem Mx:∀(l:List (List UInt8)),(∀p∈l,(46:UInt8)∉p)→cut (flat l)=l++[[]]
 |[],_=>rfl
 |p::l,h=>by
  have h1:flat (p::l)=p++46::flat l:=by simp [flat]
  rw [h1];show pcs [] _=_;rw [Ls,Lp p [] (h p (by simp)),Mx l (fun q hq=>h q (by simp [hq]))];simp
theorem J1:∀(l:List (List UInt8)),l≠[]→∃m,flat l=m++[46]
 |[p],_=>⟨p,by simp [flat]⟩
 |p::q::r,_=>by obtain ⟨m,hm⟩:=J1 (q::r) (by simp);exact ⟨p++[46]++m,by simp only [flat,List.flatMap_cons] at hm ⊢;rw [hm];simp⟩
theorem N9 {l:List (List UInt8)} (h:F2 true l=true) (hl:l≠[]):2≤(flat l).length:=by
 cases l with
 |nil=>exact absurd rfl hl
 |cons p r=>
  have h1:=cp (Hg h (Fb ..));have:0<p.length:=B5.2 h1;simp [flat];omega
theorem ob {n:List UInt8} {l:List (List UInt8)} (h:nm n=some l):(n=[46]∧l=[])∨(l≠[]∧F2 true l=true∧n=flat l∧n.length≤254):=by
 unfold nm at h;split at h
 ·rename_i e;injection h with h;exact .inl ⟨e,h.symm⟩
 ·split at h
  ·rename_i h1;right;obtain ⟨h2,h3,h4⟩:=h1;obtain ⟨m,hm⟩:∃m,n=m++[46]:=by
    refine ⟨n.dropLast,?_⟩;have:n≠[]:=by intro e;simp [e] at h2
    have h5:=List.dropLast_concat_getLast this;rw [←h5];congr 1
    ·simp
    ·have h6:n[n.length - 1]? =some (n.getLast this):=by rw [List.getLast_eq_getElem];exact Ac _
     rw [h6] at h4;injection h4 with h4;simp [h4]
   rw [hm,Lg] at h;split at h
   ·rename_i h5;injection h with h;subst h;refine ⟨uh _ _,h5,?_,by omega⟩;rw [I2,hm];simp
   ·cases h
  ·cases h
theorem l9 {n:List UInt8}:vld n=true↔nm n=some (lbl n):=by unfold vld lbl;cases nm n<;>simp
theorem vld_cases {n:List UInt8} (h:vld n=true):(n=[46]∧lbl n=[])∨(lbl n≠[]∧F2 true (lbl n)=true∧n=flat (lbl n)∧n.length≤254):=ob (l9.1 h)
theorem et {n:List UInt8} (h:vld n=true):n=jn (lbl n):=by
 unfold jn;rcases vld_cases h with ⟨h1,h2⟩|⟨h1,_,h2,_⟩
 ·rw [h2,if_pos rfl];exact h1
 ·rw [if_neg h1];exact h2
theorem T6 {n:List UInt8} (h:vld n=true):n.length≤254:=by
 rcases vld_cases h with ⟨h1,_⟩|⟨_,_,_,h⟩
 ·simp [h1]
 ·exact h
theorem cz:lbl [46]=[]:=rfl
theorem pq {a b:List UInt8} (ha:vld a=true) (hb:vld b=true) (h:lbl a=lbl b):a=b:=by rw [et ha,et hb,h]
end Go.X.G
/- Names: what the program's functions give. -/
namespace Go.X.G
open Go Go.X
def ord (s:List UInt8):Bool:=decide (1≤s.length) && decide (s.length≤63) && s.all H8
theorem W4 (s:List UInt8):Gr s=(decide (s=[42])||ord s):=rfl
theorem ah:ord [42]=false:=by decide
theorem Py (s:List UInt8) (N:Nat) (hN:s.length<N) (hs:s.length≤9223372036854775807):
  fh.ev S N [.s s]=some (if s.all H8=true then .yld 0 [] else .ret [.b false]):=by
 refine E2 s (fun i=>[.i .i64 (i:Int)]) (fun i r=>if r.all H8=true then .yld 0 [] else .ret [.b false]) rfl hN (fun i c r hd hi hc=> ?_) ?_
 ·have key:X6.ev S N ([.s s]++[.i .i64 (i:Int)])=some (if H8 c=true then .yld 1 [.i .i64 ((i:Int)+1)] else .ret [.b false]):=by
   simp (disch:=omega) only [T3,hc,xe,EVP,EV,simprocAttr];unfold H8
   grind
  rw [key];rcases A0 (H8 c) with h|h<;>simp [h,Out.goes]
 ·simp (disch:=omega) [T3,xe,EVP,EV,simprocAttr,Out.goes]
theorem E6 (s:List UInt8) (hs:s.length≤9223372036854775807):S Wy 1 [.s s]=some [.b (ord s)]:=by
 refine Aq3 (N:=s.length+1) rfl ?_;unfold ord;by_cases h1:s=[]
 ·subst h1;simp (disch:=omega) [T3,xe,EVP,EV,simprocAttr]
 ·have h2:1≤s.length:=B5.2 h1;by_cases h3:s.length≤63
  ·simp (disch:=omega) only [T3,Py,h1,xe,EVP,EV,simprocAttr];cases s.all H8<;>simp [h2,h3]
  ·simp (disch:=omega) only [T3,h1,xe,EVP,EV,simprocAttr];simp [h3]
def okP (i:Nat) (p:List UInt8):Bool:=ord p||(decide (i=0) && decide (p=[42]))
def bc:Nat→List (List UInt8)→Bool
 |_,[]=>true
 |i,p::r=>okP i p && bc (i+1) r
theorem Nh:∀(l:List (List UInt8)) (i:Nat),bc i l=F2 (decide (i=0)) l
 |[],_=>rfl
 |p::r,i=>by
  have h1:=Nh r (i+1);simp only [bc,F2,h1,okP,W4];by_cases h2:p=[42]
  ·subst h2;by_cases h3:i=0<;>simp [ah,h3]
  ·simp [h2]
theorem Yk (p q:PV) (l:List (List UInt8)) (hl:l.length≤1000000) (hw:∀x∈l,x.length≤9223372036854775807) (N:Nat) (hN:l.length<N):
  fm.ev S N [p,q,B7 l]=some (if bc 0 l=true then .yld 0 [] else .ret [.b false]):=by
 refine E2 l (fun i=>[.i .i64 (i:Int)]) (fun i r=>if bc i r=true then .yld 0 [] else .ret [.b false]) rfl hN (fun i c r hd hi hc=> ?_) ?_
 ·have hcw:=hw c (Ck hc);have key:X7.ev S N ([p,q,B7 l]++[.i .i64 (i:Int)])=some (if okP i c=true then .yld 1 [.i .i64 ((i:Int)+1)] else .ret [.b false]):=by
   rcases A0 (ord c) with h1|h1
   ·simp (disch:=omega) only [Lz,E6,hc,h1,xe,EVP,EV,simprocAttr];simp [okP,h1]
   ·by_cases h2:i=0
    ·subst h2;by_cases h3:c=[42]
     ·subst h3;simp (disch:=omega) only [Lz,E6,hc,h1,xe,EVP,EV,simprocAttr];simp [okP]
     ·simp (disch:=omega) only [Lz,E6,hc,h1,h3,xe,EVP,EV,simprocAttr];simp [okP,h1,h3]
    ·simp (disch:=omega) only [Lz,E6,hc,h1,xe,EVP,EV,simprocAttr];simp [okP,h1,h2]
  rw [key];rcases A0 (okP i c) with h|h<;>simp [h,bc,Out.goes]
 ·simp (disch:=omega) only [Lz,xe,EVP,EV,simprocAttr];simp [Out.goes,bc]
theorem Lr:∀(m cur:List UInt8) (x:List UInt8),x∈pcs cur m→x.length≤cur.length+m.length
 |[],cur,x,h=>by simp [pcs] at h;subst h;simp
 |c::r,cur,x,h=>by
  simp only [pcs] at h;split at h
  ·rcases Cd.1 h with rfl|h
   ·omega
   ·have:=Lr r [] x h;simp at this ⊢;omega
  ·have:=Lr r _ x h;simp at this ⊢;omega
theorem dn (m x:List UInt8) (h:x∈cut m):x.length≤m.length:=by simpa using Lr m [] x h
theorem xy (m:List UInt8):(cut m).length≤m.length+1:=by have:=Xz m;have:m.count 46≤m.length:=List.count_le_length;omega
theorem Uk (n:List UInt8):([46]:List UInt8).isSuffixOf n=true↔∃m,n=m++[46]:=by rw [Fc];exact ⟨fun ⟨m,h⟩=>⟨m,h.symm⟩,fun ⟨m,h⟩=>⟨m,h.symm⟩⟩
theorem Y3 (m:List UInt8) (hm:m≠[]) (hl:m.length≤253):vld (m++[46])=bc 0 (cut m):=by have h1:m++[46]≠[46]:=fun e=>hm (List.append_cancel_right (bs:=[46]) (by simpa using e));have h2:0<m.length:=B5.2 hm;unfold vld nm;rw [if_neg h1,if_pos ⟨by simp;omega,by simp;omega,by simp⟩,Lg,Nh];have e:pcs [] m=cut m:=rfl;have e2:F2 (decide ((0:Nat)=0)) (cut m)=F2 true (cut m):=rfl;rw [e,e2];cases F2 true (cut m)<;>rfl
theorem Kj (n:List UInt8) (hn:n.length≤9223372036854775807):S S5 1 [.s n]=some [.b (vld n)]:=by
 refine Aq8 (N:=300) rfl ?_;by_cases h0:n=[46]
 ·subst h0;simp (disch:=omega) only [Lz,xe,EVP,EV,simprocAttr];rfl
 ·by_cases h1:255≤n.length
  ·have hv:vld n=false:=by rw [Bool.eq_false_iff];intro h;have:=T6 h;omega
   simp (disch:=omega) only [Lz,h0,hv,xe,EVP,EV,simprocAttr]
  ·rcases A0 (([46]:List UInt8).isSuffixOf n) with h2|h2
   ·obtain ⟨m,rfl⟩:=(Uk n).1 h2;have hm:m≠[]:=fun e=>h0 (by simp [e]);have hl:(m++[46]).length=m.length+1:=by simp
    have hml:m.length≤1000000:=by omega
    have e:List.drop 0 (List.take (((m++[46]).length:Int) - 1).toNat (m++[46]))=m:=by
     have:(((m++[46]).length:Int) - 1).toNat=m.length:=by omega
     rw [this];simp
    have hc:=xy m;have hv:=Y3 m hm (by omega);have hk:=Yk (.s (m++[46])) (.b true) (cut m) (by omega) (fun x hx=>by have:=dn m x hx;omega) 300 (by omega);simp (disch:=omega) only [Lz,F8,Yv,e,hk,h0,h2,xe,EVP,EV,simprocAttr];rw [hv];cases bc 0 (cut m)<;>simp
   ·have hv:vld n=false:=by
     rw [Bool.eq_false_iff];intro h;rcases vld_cases h with ⟨h3,_⟩|⟨h3,_,h5,_⟩
     ·exact h0 h3
     ·obtain ⟨m,hm⟩:=J1 _ h3;have:=(Uk n).2 ⟨m,h5.trans hm⟩;rw [h2] at this;cases this
    simp (disch:=omega) only [Lz,F8,h0,h2,hv,xe,EVP,EV,simprocAttr]
def Xv (n top:List UInt8):Bool:=(decide (top=[46])||decide (n=top))||(46::top).isSuffixOf n
theorem qc (n top:List UInt8) (hn:n.length≤9223372036854775807) (ht:top.length≤1000000):S Wc 2 [.s n, .s top]=some [.b (Xv n top)]:=by
 refine Aq7 (N:=1) rfl ?_;unfold Xv;have h0:([46]:List UInt8).length=1:=rfl;by_cases h1:top=[46]<;>by_cases h2:n=top<;>simp (disch:=omega) only [Aj5,F8,h1,h2,xe,EVP,EV,simprocAttr]
 all_goals simp
theorem P5 {a b:List (List UInt8)} (ha:F2 true a=true) (hb:F2 true b=true) (h:(46::flat b)<:+flat a):b<:+a:=by obtain ⟨p,hp⟩:=h;have h1:=Mx a (fun x hx=>N5 (Hg ha hx));have h2:=Mx b (fun x hx=>N5 (Hg hb hx));rw [←hp] at h1;have h3:cut (p++46::flat b)=cut p++cut (flat b):=Ls (flat b) p [];rw [h3,h2,←A2] at h1;exact ⟨cut p,List.append_cancel_right h1⟩
theorem dl {n top:List UInt8} (hn:vld n=true) (ht:vld top=true):Xv n top=true↔lbl top<:+lbl n:=by
 unfold Xv;simp only [Ah,decide_eq_true_eq,Fc];constructor
 ·rintro ((rfl|rfl)|h)
  ·rw [cz];exact List.nil_suffix
  ·exact List.suffix_refl _
  ·rcases vld_cases ht with ⟨h1,h2⟩|⟨h1,h2,h3,_⟩
   ·rw [h2];exact List.nil_suffix
   ·rcases vld_cases hn with ⟨h5,_⟩|⟨h5,h6,h7,_⟩
    ·rw [h5] at h;have h9:=h.length_le;have h8:=N9 h2 h1;rw [←h3] at h8;simp only [Dj,Mm] at h9;omega
    ·rw [h3,h7] at h;exact P5 h6 h2 h
 ·intro h;obtain ⟨p,hp⟩:=h;rcases vld_cases ht with ⟨h1,h2⟩|⟨h1,h2,h3,_⟩
  ·exact .inl (.inl h1)
  ·by_cases hp0:p=[]
   ·left;right;subst hp0;exact pq hn ht hp.symm
   ·right;rcases vld_cases hn with ⟨_,h5⟩|⟨h5,h6,h7,_⟩
    ·rw [h5] at hp;exact absurd (List.append_eq_nil_iff.1 hp).1 hp0
    ·obtain ⟨m,hm⟩:=J1 p hp0;rw [h7,←hp,dy,hm];exact ⟨m,by rw [A2,←h3];simp⟩
theorem J7 {α:Type} [DecidableEq α]:∀(a b:List α),Xb a b=b.length↔b<+:a
 |[],[]=>by simp [Xb]
 |[],y::ys=>by simp [Xb]
 |x::xs,[]=>by simp [Xb]
 |x::xs,y::ys=>by
  have:=J7 xs ys;simp only [Xb];split
  ·rename_i h;subst h;simp [this,List.cons_prefix_cons]
  ·rename_i h;simp [List.cons_prefix_cons,Ne.symm h]
theorem Nk (a b:List (List UInt8)):Rl a b=b.length↔b<:+a:=by unfold Rl;have:=J7 a.reverse b.reverse;rw [List.length_reverse] at this;rw [this,List.reverse_prefix]
theorem T7 {n top:List UInt8}:If n top=true↔vld n=true∧vld top=true∧lbl top<:+lbl n:=by unfold If;simp [Nk,and_assoc]
theorem Rc {n top:List UInt8} (hn:vld n=true) (ht:vld top=true):Xv n top=If n top:=by rw [Gt,dl hn ht,T7];simp [hn,ht]
theorem Yq (n top:List UInt8) (hn:n.length≤9223372036854775807) (ht:top.length≤9223372036854775807):S Wd 2 [.s n, .s top]=some [.b (If n top)]:=by
 refine Av5 (N:=1) rfl ?_;rcases A0 (vld n) with h1|h1
 ·rcases A0 (vld top) with h2|h2
  ·have h3:=T6 h2;simp (disch:=omega) only [l7,Kj,qc,h1,h2,xe,EVP,EV,simprocAttr];rw [Rc h1 h2]
  ·have h3:If n top=false:=by simp [If,h2]
   simp (disch:=omega) only [l7,Kj,h1,h2,h3,xe,EVP,EV,simprocAttr]
 ·have h3:If n top=false:=by simp [If,h1]
  simp (disch:=omega) only [l7,Kj,h1,h3,xe,EVP,EV,simprocAttr]
end Go.X.G
/- Names: order, common ancestors, wildcards. -/
namespace Go.X.G
open Go Go.X
end Go.X.G
