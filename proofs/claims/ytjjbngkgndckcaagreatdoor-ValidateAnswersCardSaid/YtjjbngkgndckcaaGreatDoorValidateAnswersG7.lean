/- Names: what the reference's functions give. -/
import Derived.Test.YtjjbngkgndckcaaGreatDoorValidateAnswersG5
import Derived.Test.YtjjbngkgndckcaaGreatDoorValidateAnswersG6
open List renaming getElem?_eq_some_iff->Br,getElem?_eq_getElem->B3,drop_eq_getElem_cons->Et,take_add_one->E3,length_map->Fq,drop_eq_nil_of_le->Im
open Nat renaming le_refl->B7,zero_le->Dz
open Option renaming map_eq_some_iff->Bs
set_option maxHeartbeats 1000000
set_option linter.defProp false
set_option linter.unusedVariables false
set_option linter.unusedSimpArgs false
namespace Go.X.G
open Go Go.X
def Aj:=And.intro xe<|And.intro EVP EV
def Ql (c:UInt8):Bool:=decide (97<=(c.toNat:Int)) && decide ((c.toNat:Int)<=122)||decide (48<=(c.toNat:Int)) && decide ((c.toNat:Int)<=57)||decide ((c.toNat:Int)=45)||decide ((c.toNat:Int)=95)
def Bq0 (c:UInt8):(decide (97<=(c.toNat:Int)) && decide ((c.toNat:Int)<=122)||decide (48<=(c.toNat:Int)) && decide ((c.toNat:Int)<=57)||decide ((c.toNat:Int)=45)||decide ((c.toNat:Int)=95))=Ql c:=rfl
def Iw (s:List UInt8):Bool:=decide (s=[42])||(decide (1<=s.length) && decide (s.length<=63) && s.all Ql)
def Bq3 (s:List UInt8) (N:Nat) (hN:s.length<N) (hs:s.length<=4294967296):
  Dq1.ev S N [.s s]=some (if s.all Ql=true then .yld 0 [] else .ret [.b false]):=by
 refine Df s (fun i=>[.i .i64 (i:Int)]) (fun i r=>if r.all Ql=true then .yld 0 [] else .ret [.b false]) rfl hN (fun i c r hd hi hc=> ?_) ?_
 .simp(disch:=omega)only[Bd7,xe,EV,simprocAttr,hc,Bq0];cases h:Ql c<;>simp[h,Out.goes]
 .simp(disch:=omega) [Bd7,xe,EV,simprocAttr,Out.goes]
def Z4 (s:List UInt8) (hs:s.length<=4294967296):S nv 1 [.s s]=some [.b (Iw s)]:=by
 refine Hz9 (N:=s.length+1) rfl ?_;simp(disch:=omega)only[Bd7,Bq3,xe,EV,simprocAttr];unfold Iw
 grind
def spl (first:Bool) (cur:List UInt8):List UInt8->Option (List (List UInt8))
 |[]=>some []
 |c::r=>if c=46 then(if Iw cur=true∧(cur=[42]->first=true) then(spl false [] r).map (cur::·) else none) else spl first (cur++[c]) r
def nm (n:List UInt8):Option (List (List UInt8)):=
 if n=[46] then some [] else if 2<=n.length∧n.length<=254∧n[n.length - 1]? =some 46 then spl true [] n else none
def lbl (n:List UInt8):List (List UInt8):=(nm n).getD []
def vld (n:List UInt8):Bool:=(nm n).isSome
def Fz5 {D:Type} (n:List D) (i j:Nat) (c:D) (h:n[i]? =some c) (hj:j<=i):(n.take (i+1)).drop j=(n.take i).drop j++[c]:=by have hi:i<n.length:=(Br.1 h).1;rw[E3,h,List.drop_append_of_le_length (by simp;omega)];rfl
def Fz6 {D:Type} (n:List D) (i:Nat):(n.take i).drop i=[]:=by rw[List.drop_eq_nil_iff];simp;omega
def Zj (l:List (List UInt8)):Option (List (List UInt8))->Out
 |some ls=> .yld 0 [.l 1 ((l++ls).map .s)]
 |none=> .ret [.l 1 [],.b false]
def Dr2 (n:List UInt8) (N:Nat) (hN:n.length<N) (hs:n.length<=1000):
  Et2.ev S N [.s n]=some (Zj [] (spl true [] n)):=by
 refine Fl n (fun i (g:List (List UInt8)×Nat)=>[.l 1 (g.1.map .s),.i .i64 (g.2:Int),.i .i64 (i:Int)]) (fun i g r=>Zj g.1 (spl (decide (g.2=0)) ((n.take i).drop g.2) r)) (fun i g=>g.1.length<=i∧g.2<=i) ([],0) rfl ⟨B7 _,B7 _⟩ hN (fun i g c r hd hi hc hI=> ?_) (fun g hI=> ?_)
 .obtain⟨l,st⟩:=g;obtain⟨h1,h2⟩:=hI;simp only at h1 h2 ⊢;have hl:((n.take i).drop st).length<=4294967296:=by simp;omega
  have hm:(l.map PV.s).length=l.length:=Fq ..;have hd':=Dn7 c 46 (by omega);by_cases hdot:c=46
  .have hdi:=hd'.2 hdot;simp(disch:=omega)only[i4,xe,EV,simprocAttr,hc,Z4];simp only[spl,if_pos hdot];by_cases h:Iw ((n.take i).drop st)=true∧((n.take i).drop st=[42]->st=0)
   .obtain⟨h3,h4⟩:=h;left;refine⟨(l++[(n.take i).drop st],i+1),?_,?_,?_⟩
    .rw[if_neg (by simp only[h3];intro h;simp at h;have:=h4 h.1;omega)];simp
    .simp;omega
    .simp only[Fz6];rw[if_pos ⟨h3,by simpa using h4⟩];cases h9:spl false [] r<;>simp[h9,Zj]
   .right;have h':¬(Iw ((n.take i).drop st)=true∧((n.take i).drop st=[42]->decide (st=0)=true)):=by simpa using h
    rw[if_neg h'];refine⟨?_,rfl⟩;rw[if_pos]
    .rfl
    .cases h5:Iw ((n.take i).drop st)
     .simp
     .simp only[h5,true_and] at h;have ⟨h6,h7⟩:=Classical.not_imp.1 h;simp[h6];omega
  .have hdi:¬(c.toNat:Int)=46:=fun h=>hdot (hd'.1 h);left;refine⟨(l,st),?_,?_,?_⟩
   .simp(disch:=omega)only[i4,xe,EV,simprocAttr,hc]
   .simp only;omega
   .simp only[spl];rw[if_neg hdot,Fz5 n i st c hc h2]
 .simp(disch:=omega) [i4,xe,EV,simprocAttr,Out.goes,spl,Zj]
def split_ok (n:List UInt8) (hs:n.length<=9223372036854775807):S Py 1 [.s n]=some [Dq (lbl n),.b (vld n)]:=by
 refine Ib2 (N:=n.length+1) rfl ?_;unfold Dq lbl vld nm;by_cases h1:n=[46]
 .simp(disch:=omega) [i4,xe,EV,simprocAttr,h1]
 .rw[if_neg h1];by_cases h2:n.length<2
  .simp(disch:=omega)only[i4,xe,EV,simprocAttr,h1];have h3:¬(2<=n.length∧n.length<=254∧n[n.length - 1]? =some 46):=by omega
   rw[if_neg h3];rfl
  .by_cases h3:254<n.length
   .simp(disch:=omega)only[i4,xe,EV,simprocAttr,h1];have h3:¬(2<=n.length∧n.length<=254∧n[n.length - 1]? =some 46):=by omega
    rw[if_neg h3];rfl
   .have h4:=B3 (l:=n) (i:=n.length - 1) (by omega);have h5:((n.length:Int) - 1).toNat=n.length - 1:=by omega
    have h6:=Dn7 (n[n.length - 1]'(by omega)) 46 (by omega);simp(disch:=omega)only[i4,xe,EV,simprocAttr,h1,h4,h5,Dr2];by_cases h7:n[n.length - 1]'(by omega)=46
    .rw[if_pos (show 2<=n.length∧n.length<=254∧some (n[n.length - 1]'(by omega))=some 46 from⟨by omega,by omega,by rw[h7]⟩),if_neg (fun h=>h (h6.2 h7))];cases h8:spl true [] n
     .simp[Zj,Dg4]
     .simp(disch:=omega) [i4,Zj,xe,EV,simprocAttr]
    .rw[if_neg (show¬(2<=n.length∧n.length<=254∧some (n[n.length - 1]'(by omega))=some 46) from fun h=>h7 (by simpa using h.2.2)),if_pos (show (((n[n.length - 1]'(by omega)).toNat:Int)≠46) from fun h=>h7 (h6.1 h))];rfl
def s9:∀(r:List UInt8) (f:Bool) (cur:List UInt8) (l:List (List UInt8)),spl f cur r=some l->l.length<=r.length
 |[],f,cur,l,h=>by simp[spl] at h;simp[<-h]
 |c::r,f,cur,l,h=>by
  simp only[spl] at h;split at h
  .split at h
   .obtain⟨m,hm,rfl⟩:=Bs.1 h;have:=s9 r _ _ _ hm;simp;omega
   .cases h
  .have:=s9 r _ _ _ h;simp;omega
def Hg7 {n:List UInt8} {l:List (List UInt8)} (h:nm n=some l):l.length<=254:=by
 unfold nm at h;split at h
 .injection h with h;subst h;simp
 .split at h
  .rename_i h2;have:=s9 _ _ _ _ h;omega
  .cases h
def Fg (n:List UInt8):(lbl n).length<=254:=by
 unfold lbl;cases h:nm n with
 |none=>simp
 |some l=>exact Hg7 h
def I3 (n:List UInt8) (hs:n.length<=9223372036854775807):S Qd 1 [.s n]=some [.b (vld n)]:=by refine Hz7 (N:=1) rfl ?_;simp(disch:=omega)only[Gh5,split_ok,Aj,simprocAttr]
def Jw (n:List UInt8) (hs:n.length<=9223372036854775807):S V9 1 [.s n]=some [Dq (lbl n)]:=by refine Iz9 (N:=1) rfl ?_;simp(disch:=omega)only[Ik8,split_ok,Aj,simprocAttr]
def Sm {D:Type} [DecidableEq D]:List D->List D->Nat
 |x::xs,y::ys=>if x=y then Sm xs ys+1 else 0
 |_,_=>0
def Hc (a b:List (List UInt8)):Nat:=Sm a.reverse b.reverse
def Dy5 {D:Type} [DecidableEq D]:∀(a b:List D),Sm a b<=a.length∧Sm a b<=b.length
 |[],b=>by simp[Sm]
 |x::xs,[]=>by simp[Sm]
 |x::xs,y::ys=>by have:=Dy5 xs ys;simp only[Sm];split<;>simp<;>omega
def c9 (a b:List (List UInt8)):Hc a b<=a.length∧Hc a b<=b.length:=by have:=Dy5 a.reverse b.reverse;simpa [Hc] using this
def Fn7 (a b:List (List UInt8)) (N:Nat) (hN:a.length<N) (ha:a.length<=1000000) (hb:b.length<=1000000):
  Ct6.ev S N [Dq a,Dq b]=some (.yld 0 [.i .i64 (Hc a b:Int)]):=by
 have key:=Gj (fn:=S) (N:=N) (J:=[Dq a,Dq b]) (id:=1) (init:=[(.c (.i .i64 (0)))]) (body:=Df7) (D:=Nat) (fun k=>[.i .i64 (k:Int)]) (fun k=> .yld 0 [.i .i64 ((k+Sm (a.reverse.drop k) (b.reverse.drop k):Nat):Int)]) (fun k=>k<=a.length∧k<=b.length) (fun k=>a.length - k) 0 rfl ⟨Dz _,Dz _⟩ (by omega) ?_
 .simpa [Hc,Ct6] using key
 .rintro k ⟨h1,h2⟩;by_cases h3:k<a.length
  .by_cases h4:k<b.length
   .have e1:((a.length:Int) - 1 - k).toNat=a.length - 1 - k:=by omega
    have e2:((b.length:Int) - 1 - k).toNat=b.length - 1 - k:=by omega
    have g1:a[a.length - 1 - k]? =some (a[a.length - 1 - k]'(by omega)):=B3 (by omega);have g2:b[b.length - 1 - k]? =some (b[b.length - 1 - k]'(by omega)):=B3 (by omega);have d1:a.reverse.drop k=(a[a.length - 1 - k]'(by omega))::a.reverse.drop (k+1):=by rw[Et (by simpa using h3)];simp
    have d2:b.reverse.drop k=(b[b.length - 1 - k]'(by omega))::b.reverse.drop (k+1):=by rw[Et (by simpa using h4)];simp
    simp(disch:=omega)only[Dm6,xe,EVP,EV,simprocAttr,e1,e2,g1,g2];rw[d1,d2];simp only[Sm];by_cases h:a[a.length - 1 - k]'(by omega)=b[b.length - 1 - k]'(by omega)
    .left;refine⟨k+1,by simp[h],⟨by omega,by omega⟩,by omega,?_⟩;rw[if_pos h];congr 3
     push_cast
     omega
    .right;simp[h,Out.goes]
   .right;have d2:b.reverse.drop k=[]:=Im (by simp;omega);have z:Sm (a.reverse.drop k) []=0:=by cases a.reverse.drop k<;>rfl
    rw[d2,z];simp(disch:=omega) [Dm6,xe,EVP,EV,simprocAttr,Out.goes]
  .right;have d1:a.reverse.drop k=[]:=Im (by simp;omega);have z:Sm [] (b.reverse.drop k)=0:=rfl;rw[d1,z];simp(disch:=omega) [Dm6,xe,EVP,EV,simprocAttr,Out.goes]
def c8 (a b:List (List UInt8)) (ha:a.length<=1000000) (hb:b.length<=1000000):S Bj8 2 [Dq a,Dq b]=some [.i .i64 (Hc a b:Int)]:=by refine Ib1 (N:=a.length+1) rfl ?_;simp(disch:=omega)only[Dm6,Fn7,Aj,simprocAttr]
def under (n top:List UInt8):Bool:=vld n && vld top && decide (Hc (lbl n) (lbl top)=(lbl top).length)
def F5 (n top:List UInt8) (hn:n.length<=9223372036854775807) (ht:top.length<=9223372036854775807):S O0 2 [.s n,.s top]=some [.b (under n top)]:=by
 refine If5 (N:=1) rfl ?_;have h1:=Fg n;have h2:=Fg top;unfold under;cases h3:vld n<;>cases h4:vld top<;>simp(disch:=omega)only[Iq5,split_ok,c8,h3,h4,Aj,simprocAttr]
 all_goals (simp;try omega)
def cmpS (a b:List UInt8):Int:=if Op.bytesLess a b then -1 else if a=b then 0 else 1
def P6 (a b:List UInt8):S l7 2 [.s a,.s b]=some [.i .i64 (cmpS a b)]:=by
 refine Hj2 (N:=1) rfl ?_;unfold cmpS;simp(disch:=omega)only[Gf1,Aj,simprocAttr];cases h:Op.bytesLess a b
 .by_cases h2:a=b<;>simp[h2]
 .simp
def Od (a b:List UInt8):Int:=
 if vld a && vld b then
  let k:=Hc (lbl a) (lbl b)
  if k<(lbl a).length∧k<(lbl b).length then cmpS ((lbl a).getD ((lbl a).length - 1 - k) []) ((lbl b).getD ((lbl b).length - 1 - k) [])
  else if(lbl a).length<(lbl b).length then -1 else if(lbl b).length<(lbl a).length then 1 else 0
 else if vld a then -1 else if vld b then 1 else cmpS a b
def Kr (a b:List UInt8) (hn:a.length<=9223372036854775807) (ht:b.length<=9223372036854775807):S Zl 2 [.s a,.s b]=some [.i .i64 (Od a b)]:=by
 refine Hq5 (N:=1) rfl ?_;have h1:=Fg a;have h2:=Fg b;have h5:=c9 (lbl a) (lbl b);unfold Od;cases h3:vld a<;>cases h4:vld b
 .simp(disch:=omega) [jq,split_ok,P6,h3,h4,Aj,simprocAttr]
 .simp(disch:=omega) [jq,split_ok,P6,h3,h4,Aj,simprocAttr]
 .simp(disch:=omega) [jq,split_ok,P6,h3,h4,Aj,simprocAttr]
 .by_cases h6:Hc (lbl a) (lbl b)<(lbl a).length∧Hc (lbl a) (lbl b)<(lbl b).length
  .obtain⟨h7,h8⟩:=h6;have e1:(((lbl a).length:Int) - 1 - (Hc (lbl a) (lbl b):Int)).toNat=(lbl a).length - 1 - Hc (lbl a) (lbl b):=by omega
   have e2:(((lbl b).length:Int) - 1 - (Hc (lbl a) (lbl b):Int)).toNat=(lbl b).length - 1 - Hc (lbl a) (lbl b):=by omega
   have g1:=B3 (l:=lbl a) (i:=(lbl a).length - 1 - Hc (lbl a) (lbl b)) (by omega);have g2:=B3 (l:=lbl b) (i:=(lbl b).length - 1 - Hc (lbl a) (lbl b)) (by omega);simp(disch:=omega)only[jq,split_ok,c8,P6,h3,h4,e1,e2,g1,g2,Aj,simprocAttr];simp[h7,h8,g1,g2]
  .simp(disch:=omega)only[jq,split_ok,c8,P6,h3,h4,Aj,simprocAttr];simp only[h6]
   grind
end Go.X.G
