/- Names: what the reference's functions give. -/
import Derived.Test.YtjakmljndnkplaaGreatDoorProveRespondsG5
import Derived.Test.YtjakmljndnkplaaGreatDoorProveRespondsG6
open Bool renaming eq_false_or_eq_true->Bl,and_eq_true->Bs,or_eq_true->Cy,eq_iff_iff->D7,and_true->Ac2,eq_false_iff->By7
open Int renaming toNat_natCast->Ef
open List renaming getElem?_eq_some_iff->Bp,length_append->Br,getElem?_eq_getElem->Bt,mem_of_getElem?->B8,length_cons->B9,append_assoc->Cj,mem_cons->Cq,length_pos_iff->Cg,length_nil->C1,nil_append->C8,getD_eq_getElem?_getD->C9,take_append_drop->Dw,drop_eq_getElem_cons->Dd,cons_append->Dn,take_add_one->Dp,length_map->Dt,getElem?_cons_zero->D2,take_length->E3,flatMap_cons->Fy,isSuffixOf_iff_suffix->Hz,drop_eq_nil_of_le->Hr,mem_cons_self->K4,drop_append_of_le_length->L1,getLast_eq_getElem->Mc,cons_prefix_cons->Q2,append_cancel_right->Wz,count_eq_zero->Jt9
open Nat renaming le_refl->B7,zero_le->C3,mod_eq_of_lt->F2,one_mul->Gs
open Option renaming map_eq_some_iff->B0,map_some->Cf
open Option.some renaming injEq->Bn
set_option maxHeartbeats 1000000
set_option linter.defProp false
set_option linter.unusedVariables false
set_option linter.unusedSimpArgs false
namespace Go.X.G
open Go Go.X
def Aj:=And.intro xe<|And.intro EVP EV
def U8 (c:UInt8):Bool:=decide (97<=(c.toNat:Int)) && decide ((c.toNat:Int)<=122)||decide (48<=(c.toNat:Int)) && decide ((c.toNat:Int)<=57)||decide ((c.toNat:Int)=45)||decide ((c.toNat:Int)=95)
def Cf8 (c:UInt8):(decide (97<=(c.toNat:Int)) && decide ((c.toNat:Int)<=122)||decide (48<=(c.toNat:Int)) && decide ((c.toNat:Int)<=57)||decide ((c.toNat:Int)=45)||decide ((c.toNat:Int)=95))=U8 c:=rfl
def Lf (s:List UInt8):Bool:=decide (s=[42])||(decide (1<=s.length) && decide (s.length<=63) && s.all U8)
def Cg2 (s:List UInt8) (N:Nat) (hN:s.length<N) (hs:s.length<=4294967296):
  En0.ev S N [.s s]=some (if s.all U8=true then .yld 0 [] else .ret [.b false]):=by
 refine Et s (fun i=>[.i .i64 (i:Int)]) (fun i r=>if r.all U8=true then .yld 0 [] else .ret [.b false]) rfl hN (fun i c r hd hi hc=> ?_) ?_
 .simp(disch:=omega)only[Dk1,xe,EV,simprocAttr,hc,Cf8];cases h:U8 c<;>simp[h,Out.goes]
 .simp(disch:=omega) [Dk1,xe,EV,simprocAttr,Out.goes]
def Cg1 (s:List UInt8) (hs:s.length<=4294967296):S Bl9 1 [.s s]=some [.b (Lf s)]:=by
 refine Jq1 (N:=s.length+1) rfl ?_;simp(disch:=omega)only[Dk1,Cg2,xe,EV,simprocAttr];unfold Lf
 grind
def spl (first:Bool) (cur:List UInt8):List UInt8->Option (List (List UInt8))
 |[]=>some []
 |c::r=>if c=46 then(if Lf cur=true∧(cur=[42]->first=true) then(spl false [] r).map (cur::·) else none) else spl first (cur++[c]) r
def nm (n:List UInt8):Option (List (List UInt8)):=
 if n=[46] then some [] else if 2<=n.length∧n.length<=254∧n[n.length - 1]? =some 46 then spl true [] n else none
def lbl (n:List UInt8):List (List UInt8):=(nm n).getD []
def vld (n:List UInt8):Bool:=(nm n).isSome
def Hy4 {D:Type} (n:List D) (i j:Nat) (c:D) (h:n[i]? =some c) (hj:j<=i):(n.take (i+1)).drop j=(n.take i).drop j++[c]:=by have hi:i<n.length:=(Bp.1 h).1;rw[Dp,h,L1 (by simp;omega)];rfl
def Hy5 {D:Type} (n:List D) (i:Nat):(n.take i).drop i=[]:=by rw[List.drop_eq_nil_iff];simp;omega
def jz (l:List (List UInt8)):Option (List (List UInt8))->Out
 |some ls=> .yld 0 [.l 1 ((l++ls).map .s)]
 |none=> .ret [.l 1 [],.b false]
def Fp5 (n:List UInt8) (N:Nat) (hN:n.length<N) (hs:n.length<=1000):
  Ep5.ev S N [.s n]=some (jz [] (spl true [] n)):=by
 refine Dh n (fun i (g:List (List UInt8)×Nat)=>[.l 1 (g.1.map .s),.i .i64 (g.2:Int),.i .i64 (i:Int)]) (fun i g r=>jz g.1 (spl (decide (g.2=0)) ((n.take i).drop g.2) r)) (fun i g=>g.1.length<=i∧g.2<=i) ([],0) rfl ⟨B7 _,B7 _⟩ hN (fun i g c r hd hi hc hI=> ?_) (fun g hI=> ?_)
 .obtain⟨l,st⟩:=g;obtain⟨h1,h2⟩:=hI;simp only at h1 h2 ⊢;have hl:((n.take i).drop st).length<=4294967296:=by simp;omega
  have hm:(l.map PV.s).length=l.length:=Dt ..;have hd':=Fm8 c 46 (by omega);by_cases hdot:c=46
  .have hdi:=hd'.2 hdot;simp(disch:=omega)only[X4,xe,EV,simprocAttr,hc,Cg1];simp only[spl,if_pos hdot];by_cases h:Lf ((n.take i).drop st)=true∧((n.take i).drop st=[42]->st=0)
   .obtain⟨h3,h4⟩:=h;left;refine⟨(l++[(n.take i).drop st],i+1),?_,?_,?_⟩
    .rw[if_neg (by simp only[h3];intro h;simp at h;have:=h4 h.1;omega)];simp
    .simp;omega
    .simp only[Hy5];rw[if_pos ⟨h3,by simpa using h4⟩];cases h9:spl false [] r<;>simp[h9,jz]
   .right;have h':¬(Lf ((n.take i).drop st)=true∧((n.take i).drop st=[42]->decide (st=0)=true)):=by simpa using h
    rw[if_neg h'];refine⟨?_,rfl⟩;rw[if_pos]
    .rfl
    .cases h5:Lf ((n.take i).drop st)
     .simp
     .simp only[h5,true_and] at h;have ⟨h6,h7⟩:=Classical.not_imp.1 h;simp[h6];omega
  .have hdi:¬(c.toNat:Int)=46:=fun h=>hdot (hd'.1 h);left;refine⟨(l,st),?_,?_,?_⟩
   .simp(disch:=omega)only[X4,xe,EV,simprocAttr,hc]
   .simp only;omega
   .simp only[spl];rw[if_neg hdot,Hy4 n i st c hc h2]
 .simp(disch:=omega) [X4,xe,EV,simprocAttr,Out.goes,spl,jz]
def split_ok (n:List UInt8) (hs:n.length<=9223372036854775807):S Mp 1 [.s n]=some [Ch (lbl n),.b (vld n)]:=by
 refine Jy5 (N:=n.length+1) rfl ?_;unfold Ch lbl vld nm;by_cases h1:n=[46]
 .simp(disch:=omega) [X4,xe,EV,simprocAttr,h1]
 .rw[if_neg h1];by_cases h2:n.length<2
  .simp(disch:=omega)only[X4,xe,EV,simprocAttr,h1];have h3:¬(2<=n.length∧n.length<=254∧n[n.length - 1]? =some 46):=by omega
   rw[if_neg h3];rfl
  .by_cases h3:254<n.length
   .simp(disch:=omega)only[X4,xe,EV,simprocAttr,h1];have h3:¬(2<=n.length∧n.length<=254∧n[n.length - 1]? =some 46):=by omega
    rw[if_neg h3];rfl
   .have h4:=Bt (l:=n) (i:=n.length - 1) (by omega);have h5:((n.length:Int) - 1).toNat=n.length - 1:=by omega
    have h6:=Fm8 (n[n.length - 1]'(by omega)) 46 (by omega);simp(disch:=omega)only[X4,xe,EV,simprocAttr,h1,h4,h5,Fp5];by_cases h7:n[n.length - 1]'(by omega)=46
    .rw[if_pos (show 2<=n.length∧n.length<=254∧some (n[n.length - 1]'(by omega))=some 46 from⟨by omega,by omega,by rw[h7]⟩),if_neg (fun h=>h (h6.2 h7))];cases h8:spl true [] n
     .simp[jz,Fd7]
     .simp(disch:=omega) [X4,jz,xe,EV,simprocAttr]
    .rw[if_neg (show¬(2<=n.length∧n.length<=254∧some (n[n.length - 1]'(by omega))=some 46) from fun h=>h7 (by simpa using h.2.2)),if_pos (show (((n[n.length - 1]'(by omega)).toNat:Int)≠46) from fun h=>h7 (h6.1 h))];rfl
def Af9:∀(r:List UInt8) (f:Bool) (cur:List UInt8) (l:List (List UInt8)),spl f cur r=some l->l.length<=r.length
 |[],f,cur,l,h=>by simp[spl] at h;simp[<-h]
 |c::r,f,cur,l,h=>by
  simp only[spl] at h;split at h
  .split at h
   .obtain⟨m,hm,rfl⟩:=B0.1 h;have:=Af9 r _ _ _ hm;simp;omega
   .cases h
  .have:=Af9 r _ _ _ h;simp;omega
def Jf8 {n:List UInt8} {l:List (List UInt8)} (h:nm n=some l):l.length<=254:=by
 unfold nm at h;split at h
 .injection h with h;subst h;simp
 .split at h
  .rename_i h2;have:=Af9 _ _ _ _ h;omega
  .cases h
def G5 (n:List UInt8):(lbl n).length<=254:=by
 unfold lbl;cases h:nm n with
 |none=>simp
 |some l=>exact Jf8 h
def Gd (n:List UInt8) (hs:n.length<=9223372036854775807):S qw 1 [.s n]=some [.b (vld n)]:=by refine Kb2 (N:=1) rfl ?_;simp(disch:=omega)only[Kj9,split_ok,Aj,simprocAttr]
def Kv (n:List UInt8) (hs:n.length<=9223372036854775807):S Ut 1 [.s n]=some [Ch (lbl n)]:=by refine Jx9 (N:=1) rfl ?_;simp(disch:=omega)only[Ig0,split_ok,Aj,simprocAttr]
def Zf {D:Type} [DecidableEq D]:List D->List D->Nat
 |x::xs,y::ys=>if x=y then Zf xs ys+1 else 0
 |_,_=>0
def M8 (a b:List (List UInt8)):Nat:=Zf a.reverse b.reverse
def Fq4 {D:Type} [DecidableEq D]:∀(a b:List D),Zf a b<=a.length∧Zf a b<=b.length
 |[],b=>by simp[Zf]
 |x::xs,[]=>by simp[Zf]
 |x::xs,y::ys=>by have:=Fq4 xs ys;simp only[Zf];split<;>simp<;>omega
def Fs2 (a b:List (List UInt8)):M8 a b<=a.length∧M8 a b<=b.length:=by have:=Fq4 a.reverse b.reverse;simpa [M8] using this
def Hn3 (a b:List (List UInt8)) (N:Nat) (hN:a.length<N) (ha:a.length<=1000000) (hb:b.length<=1000000):
  Ap2.ev S N [Ch a,Ch b]=some (.yld 0 [.i .i64 (M8 a b:Int)]):=by
 have key:=I9 (fn:=S) (N:=N) (J:=[Ch a,Ch b]) (id:=1) (init:=[(.c (.i .i64 (0)))]) (body:=Bw5) (D:=Nat) (fun k=>[.i .i64 (k:Int)]) (fun k=> .yld 0 [.i .i64 ((k+Zf (a.reverse.drop k) (b.reverse.drop k):Nat):Int)]) (fun k=>k<=a.length∧k<=b.length) (fun k=>a.length - k) 0 rfl ⟨C3 _,C3 _⟩ (by omega) ?_
 .simpa [M8,Ap2] using key
 .rintro k ⟨h1,h2⟩;by_cases h3:k<a.length
  .by_cases h4:k<b.length
   .have e1:((a.length:Int) - 1 - k).toNat=a.length - 1 - k:=by omega
    have e2:((b.length:Int) - 1 - k).toNat=b.length - 1 - k:=by omega
    have g1:a[a.length - 1 - k]? =some (a[a.length - 1 - k]'(by omega)):=Bt (by omega);have g2:b[b.length - 1 - k]? =some (b[b.length - 1 - k]'(by omega)):=Bt (by omega);have d1:a.reverse.drop k=(a[a.length - 1 - k]'(by omega))::a.reverse.drop (k+1):=by rw[Dd (by simpa using h3)];simp
    have d2:b.reverse.drop k=(b[b.length - 1 - k]'(by omega))::b.reverse.drop (k+1):=by rw[Dd (by simpa using h4)];simp
    simp(disch:=omega)only[Bz9,xe,EVP,EV,simprocAttr,e1,e2,g1,g2];rw[d1,d2];simp only[Zf];by_cases h:a[a.length - 1 - k]'(by omega)=b[b.length - 1 - k]'(by omega)
    .left;refine⟨k+1,by simp[h],⟨by omega,by omega⟩,by omega,?_⟩;rw[if_pos h];congr 3
     push_cast
     omega
    .right;simp[h,Out.goes]
   .right;have d2:b.reverse.drop k=[]:=Hr (by simp;omega);have z:Zf (a.reverse.drop k) []=0:=by cases a.reverse.drop k<;>rfl
    rw[d2,z];simp(disch:=omega) [Bz9,xe,EVP,EV,simprocAttr,Out.goes]
  .right;have d1:a.reverse.drop k=[]:=Hr (by simp;omega);have z:Zf [] (b.reverse.drop k)=0:=rfl;rw[d1,z];simp(disch:=omega) [Bz9,xe,EVP,EV,simprocAttr,Out.goes]
def Ag9 (a b:List (List UInt8)) (ha:a.length<=1000000) (hb:b.length<=1000000):S Ak7 2 [Ch a,Ch b]=some [.i .i64 (M8 a b:Int)]:=by refine Jy1 (N:=a.length+1) rfl ?_;simp(disch:=omega)only[Bz9,Hn3,Aj,simprocAttr]
def under (n top:List UInt8):Bool:=vld n && vld top && decide (M8 (lbl n) (lbl top)=(lbl top).length)
def Gj (n top:List UInt8) (hn:n.length<=9223372036854775807) (ht:top.length<=9223372036854775807):S Um 2 [.s n,.s top]=some [.b (under n top)]:=by
 refine Kz6 (N:=1) rfl ?_;have h1:=G5 n;have h2:=G5 top;unfold under;cases h3:vld n<;>cases h4:vld top<;>simp(disch:=omega)only[Kj6,split_ok,Ag9,h3,h4,Aj,simprocAttr]
 all_goals (simp;try omega)
def cmpS (a b:List UInt8):Int:=if Op.bytesLess a b then -1 else if a=b then 0 else 1
def Uk (a b:List UInt8):S zl 2 [.s a,.s b]=some [.i .i64 (cmpS a b)]:=by
 refine It0 (N:=1) rfl ?_;unfold cmpS;simp(disch:=omega)only[Ic5,Aj,simprocAttr];cases h:Op.bytesLess a b
 .by_cases h2:a=b<;>simp[h2]
 .simp
def J7 (a b:List UInt8):Int:=
 if vld a && vld b then
  let k:=M8 (lbl a) (lbl b)
  if k<(lbl a).length∧k<(lbl b).length then cmpS ((lbl a).getD ((lbl a).length - 1 - k) []) ((lbl b).getD ((lbl b).length - 1 - k) [])
  else if(lbl a).length<(lbl b).length then -1 else if(lbl b).length<(lbl a).length then 1 else 0
 else if vld a then -1 else if vld b then 1 else cmpS a b
def Ky (a b:List UInt8) (hn:a.length<=9223372036854775807) (ht:b.length<=9223372036854775807):S ct 2 [.s a,.s b]=some [.i .i64 (J7 a b)]:=by
 refine Jk2 (N:=1) rfl ?_;have h1:=G5 a;have h2:=G5 b;have h5:=Fs2 (lbl a) (lbl b);unfold J7;cases h3:vld a<;>cases h4:vld b
 .simp(disch:=omega) [wg,split_ok,Uk,h3,h4,Aj,simprocAttr]
 .simp(disch:=omega) [wg,split_ok,Uk,h3,h4,Aj,simprocAttr]
 .simp(disch:=omega) [wg,split_ok,Uk,h3,h4,Aj,simprocAttr]
 .by_cases h6:M8 (lbl a) (lbl b)<(lbl a).length∧M8 (lbl a) (lbl b)<(lbl b).length
  .obtain⟨h7,h8⟩:=h6;have e1:(((lbl a).length:Int) - 1 - (M8 (lbl a) (lbl b):Int)).toNat=(lbl a).length - 1 - M8 (lbl a) (lbl b):=by omega
   have e2:(((lbl b).length:Int) - 1 - (M8 (lbl a) (lbl b):Int)).toNat=(lbl b).length - 1 - M8 (lbl a) (lbl b):=by omega
   have g1:=Bt (l:=lbl a) (i:=(lbl a).length - 1 - M8 (lbl a) (lbl b)) (by omega);have g2:=Bt (l:=lbl b) (i:=(lbl b).length - 1 - M8 (lbl a) (lbl b)) (by omega);simp(disch:=omega)only[wg,split_ok,Ag9,Uk,h3,h4,e1,e2,g1,g2,Aj,simprocAttr];simp[h7,h8,g1,g2]
  .simp(disch:=omega)only[wg,split_ok,Ag9,Uk,h3,h4,Aj,simprocAttr];simp only[h6]
   grind
def Iv8 (x:List UInt8) (c:UInt8):S Bh1 2 [.s x,.i .u8 (c.toNat:Int)]=some [.i .i64 (x.count c:Int)]:=
 Is1 (args:=[.s x,.i .u8 (c.toNat:Int)]) (by simp[XK.run,Cy1,Lib.countByte])
def Ht9 (x:List UInt8) (c:UInt8):S Bg5 2 [.s x,.i .u8 (c.toNat:Int)]=some [.i .i64 (Lib.indexByte x c)]:=
 Ir3 (args:=[.s x,.i .u8 (c.toNat:Int)]) (by simp[XK.run,Cy1])
def Iv9 (x y:List UInt8):S Bg4 2 [.s x,.s y]=some [.i .i64 (Lib.compareBytes x y)]:=
 Ir2 (args:=[.s x,.s y]) (by simp[XK.run,Fs4])
def Wj (x:List UInt8) (c:UInt8):S zm 2 [.s x,.i .u8 (c.toNat:Int)]=some [.i .i64 (Lib.indexByte x c)]:=by refine It3 (N:=1) rfl ?_;simp(disch:=omega)only[Ic8,Ht9,Aj,simprocAttr]
def Ab6 (x:List UInt8) (c:UInt8):S Bm1 2 [.s x,.i .u8 (c.toNat:Int)]=some [.i .i64 (Lib.indexByte x c)]:=by refine Jq6 (N:=1) rfl ?_;simp(disch:=omega)only[If4,Wj,Aj,simprocAttr]
def Sg (c:UInt8):∀(x:List UInt8),c∉x->Lib.indexByte x c= -1
 |[],_=>rfl
 |b::l,h=>by have h1:b≠c:=fun e=>h (by simp[e]);have h2:=Sg c l (fun e=>h (by simp[e]));simp[Lib.indexByte,h1,h2]
def Nk (c:UInt8) (post:List UInt8):∀(pre:List UInt8),c∉pre->Lib.indexByte (pre++c::post) c=(pre.length:Int)
 |[],_=>by simp[Lib.indexByte]
 |b::l,h=>by
  have h1:b≠c:=fun e=>h (by simp[e]);have h2:=Nk c post l (fun e=>h (by simp[e]));simp only[Dn,Lib.indexByte,h2];simp[h1]
  try omega
def dot_split (c:UInt8):∀(s:List UInt8),c∉s∨∃pre post,s=pre++c::post∧c∉pre
 |[]=> .inl (by simp)
 |b::l=>by
  by_cases h:b=c
  .exact .inr ⟨[],l,by simp[h],by simp⟩
  .rcases dot_split c l with h1|⟨pre,post,rfl,h2⟩
   .exact .inl (by simp[h1,Ne.symm h])
   .exact .inr ⟨b::pre,post,by simp,by simp[h2,Ne.symm h]⟩
def pcs (cur:List UInt8):List UInt8->List (List UInt8)
 |[]=>[cur]
 |c::r=>if c=46 then cur::pcs [] r else pcs (cur++[c]) r
def cut (s:List UInt8):List (List UInt8):=pcs [] s
def Ez2 (post:List UInt8):∀(pre cur:List UInt8),(46:UInt8)∉pre->pcs cur (pre++46::post)=(cur++pre)::pcs [] post
 |[],cur,_=>by simp[pcs]
 |b::l,cur,h=>by have h1:b≠46:=fun e=>h (by simp[e]);have h2:=Ez2 post l (cur++[b]) (fun e=>h (by simp[e]));simp[pcs,h1,h2]
def o9:∀(s cur:List UInt8),(46:UInt8)∉s->pcs cur s=[cur++s]
 |[],cur,_=>by simp[pcs]
 |b::l,cur,h=>by have h1:b≠46:=fun e=>h (by simp[e]);have h2:=o9 l (cur++[b]) (fun e=>h (by simp[e]));simp[pcs,h1,h2]
def Fq2 (s:List UInt8):(cut s).length=s.count 46+1:=by
 have:∀(s cur:List UInt8),(pcs cur s).length=s.count 46+1:=by
  intro s
  induction s with
  |nil=>intro cur;rfl
  |cons c r ih=>
   intro cur;by_cases h:c=46<;>simp[pcs,h,ih]
 exact this s []
def Cr0 (s:List UInt8) (hs:s.length<=9223372036854775807):S Bh0 2 [.s s,.s [46]]=some [.i .i64 (Lib.indexByte s 46)]:=by
 refine Is0 (N:=1) rfl ?_;have h1:=Wj s 46;have e:(((46:UInt8).toNat:Nat):Int)=46:=rfl;rw[e] at h1;by_cases h:[46]=s
 .subst h;simp(disch:=omega)only[Gm2,Aj,simprocAttr];rfl
 .simp(disch:=omega)only[Gm2,h,h1,e,Aj,simprocAttr]
def Ab5 (s:List UInt8) (hs:s.length<=9223372036854775807):S z7 2 [.s s,.s [46]]=some [.i .i64 (Lib.indexByte s 46)]:=by refine Jj0 (N:=1) rfl ?_;simp(disch:=omega)only[Id1,Cr0,Aj,simprocAttr]
def Fg6 (s:List UInt8):S Bh9 2 [.s s,.s [46]]=some [.i .i64 (s.count 46:Int)]:=by refine Jj1 (N:=1) rfl ?_;have h1:=Iv8 s 46;have e:(((46:UInt8).toNat:Nat):Int)=46:=rfl;rw[e] at h1;simp(disch:=omega)only[Id2,h1,e,Aj,simprocAttr]
def Et1 (done rest:List (List UInt8)):Out:=
 .yld 0 [.s ((done++rest).getLastD []),Ch ((done++rest).dropLast++[[]]),.i .i64 (((done++rest).length:Int) - 1)]
def Ar2 (s:List UInt8) (N:Nat) (hN:s.length<N) (hs:s.length<=1000000) (p q:PV):
  Ap0.ev S N [.s s,.s [46],.i .i64 0,p,.i .i64 ((s.count 46:Int)+1)]=some (Et1 [] (cut s)):=by
 have hc0:s.count 46<=s.length:=List.count_le_length;have key:=I9 (fn:=S) (N:=N) (J:=[.s s,.s [46],.i .i64 0,p,.i .i64 ((s.count 46:Int)+1)]) (id:=1) (init:=[(.v 0),(.rep 1 (.mn (.v 4) (.bin .add (.slen (.v 0)) (.c (.i .i64 (1))))) (.c (.s []))),(.c (.i .i64 (0)))]) (body:=Bw3) (D:=List (List UInt8)×List UInt8)
  (fun a=>[.s a.2,Ch (a.1++List.replicate (a.2.count 46+1) []),.i .i64 (a.1.length:Int)]) (fun a=>Et1 a.1 (cut a.2)) (fun a=>a.1.length+a.2.count 46=s.count 46∧a.2.length<=s.length) (fun a=>a.2.length) ([],s) ?_ ⟨by simp,B7 _⟩ hN ?_
 .simpa [Ap0] using key
 .have e:((s.count 46:Int)+1).toNat=s.count 46+1:=by omega
  simp(disch:=omega)only[e,Aj,simprocAttr]
 .rintro⟨done,rest⟩ ⟨h1,h2⟩;simp only at h1 h2 ⊢;rcases dot_split 46 rest with h|⟨pre,post,rfl,h⟩
  .right;have c0:rest.count 46=0:=Jt9.2 h;have i0:=Sg 46 rest h;have cu:cut rest=[rest]:=by simpa [cut] using o9 rest [] h
   refine⟨?_,rfl⟩;rw[c0];rw[c0] at h1;simp(disch:=omega)only[Dk8,Ab5,i0,Aj,simprocAttr];simp[Et1,cu,List.getLastD_eq_getLast?]
  .left;have c0:(pre++46::post).count 46=post.count 46+1:=by rw[List.count_append,Jt9.2 h];simp
   have i0:=Nk 46 post pre h;have cu:cut (pre++46::post)=pre::cut post:=by simpa [cut] using Ez2 post pre [] h
   have hl:(pre++46::post).length=pre.length+post.length+1:=by simp;omega
   have sl1:List.drop (0:Int).toNat (List.take ((pre.length:Int)+0).toNat (pre++46::post))=pre:=by simp
   have sl2:List.drop ((pre.length:Int)+1).toNat (List.take (pre++46::post).length (pre++46::post))=post:=by
    have:((pre.length:Int)+1).toNat=pre.length+1:=by omega
    rw[this,E3,List.drop_append];simp
   have sl3:(done++[]::[]::List.replicate (post.count 46) ([]:List UInt8)).length=done.length+post.count 46+2:=by simp;omega
   refine⟨(done++[pre],post),?_,⟨by simp;omega,by simp only;omega⟩,by simp;omega,by simp[Et1,cu]⟩;rw[c0];rw[c0] at h1;simp(disch:=omega)only[Dk8,Ab5,i0,sl1,sl2,Aj,simprocAttr];simp[List.replicate_succ,List.set_append]
def Ar1 (s:List UInt8) (hs:s.length<=1000000):S Bm9 4 [.s s,.s [46],.i .i64 0,.i .i64 (-1)]=some [Ch (cut s)]:=by
 refine Jw4 (N:=s.length+1) rfl ?_;have h1:=Fq2 s;have h2:s.count 46<=s.length:=List.count_le_length;obtain⟨l,x,hx⟩:∃l x,cut s=l++[x]:=⟨(cut s).dropLast,(cut s).getLast (by intro e;simp[e] at h1),(List.dropLast_concat_getLast _).symm⟩;have h3:l.length=s.count 46:=by rw[hx] at h1;simpa using h1
 have h4:((l.length:Int)+1 - 1)=(l.length:Int):=by omega
 have h5:((l++[([]:List UInt8)]).length:Int)=l.length+1:=by simp
 have h6:((l++[x]).length:Int)=l.length+1:=by simp
 have g1:(l++[([]:List UInt8)])[l.length]? =some []:=by simp
 have g2:(l++[x]).getLastD []=x:=by simp[List.getLastD_eq_getLast?]
 have g3:(l++[([]:List UInt8)]).set l.length x=l++[x]:=by simp
 have hk:=Ar2 s (s.length+1) (by omega) hs (.i .i64 (-1)) .u;rw[hx] at hk ⊢;simp only[Et1,C8,List.dropLast_concat] at hk;simp(disch:=omega)only[Dk8,Fg6,hk,h4,h6,g1,g2,g3,Aj,simprocAttr];have g4:((l.length:Int)+1).toNat=(l++[x]).length:=by simp
 rw[g4,E3];rfl
def Ab2 (s:List UInt8) (hs:s.length<=1000000):S Eb8 2 [.s s,.s [46]]=some [Ch (cut s)]:=by refine Kx6 (N:=1) rfl ?_;simp(disch:=omega)only[Kj2,Ar1,Aj,simprocAttr]
def Wk (s t:List UInt8) (hs:s.length<=9223372036854775807):S Ak1 2 [.s s,.s t]=some [.b (t.isSuffixOf s)]:=by
 refine Jw5 (N:=1) rfl ?_;by_cases h:t.length<=s.length
 .have e:((s.length:Int) - (t.length:Int)).toNat=s.length - t.length:=by omega
  simp(disch:=omega)only[Gn1,e,Aj,simprocAttr];simp only[E3];congr 4;rw[D7,Hz,decide_eq_true_eq];refine⟨fun h=>h▸List.drop_suffix _ _,fun h=> ?_⟩;obtain⟨p,rfl⟩:=h;simp
 .have h2:t.isSuffixOf s=false:=by rw[By7,ne_eq,Hz];exact fun h'=>h h'.length_le
  simp(disch:=omega)only[Gn1,h2,Aj,simprocAttr]
def Qt (s t:List UInt8) (hs:s.length<=9223372036854775807):S Eb9 2 [.s s,.s t]=some [.b (t.isSuffixOf s)]:=by refine Kx7 (N:=1) rfl ?_;simp(disch:=omega)only[Kj3,Wk,Aj,simprocAttr]
def By0 (x y:List UInt8):S Bh5 2 [.s x,.s y]=some [.i .i64 (Lib.compareBytes x y)]:=by refine It1 (N:=1) rfl ?_;simp(disch:=omega)only[Ic6,Iv9,Aj,simprocAttr]
def Bx7 (x y:List UInt8):S c5 2 [.s x,.s y]=some [.i .i64 (Lib.compareBytes x y)]:=by refine Jq3 (N:=1) rfl ?_;simp(disch:=omega)only[If1,By0,Aj,simprocAttr]
def flat (l:List (List UInt8)):List UInt8:=l.flatMap fun x=>x++[46]
def jn (l:List (List UInt8)):List UInt8:=if l=[] then [46] else flat l
def H8 (first:Bool):List (List UInt8)->Bool
 |[]=>true
 |p::r=>Lf p && (!decide (p=[42])||first) && H8 false r
def Ht6:U8 46=false:=by decide
def Qj {p:List UInt8} (h:Lf p=true):(46:UInt8)∉p:=by
 unfold Lf at h;simp at h;rcases h with rfl|⟨_,h⟩
 .decide
 .intro h2;have:=h 46 h2;rw[Ht6] at this;cases this
def qf {p:List UInt8} (h:Lf p=true):p≠[]:=by rintro rfl;simp[Lf] at h
def H4 {p:List UInt8}:∀{f:Bool} {l:List (List UInt8)},H8 f l=true->p∈l->Lf p=true
 |f,q::r,h,hp=>by
  simp only[H8,Bs] at h;rcases Cq.1 hp with rfl|hp
  .exact h.1.1
  .exact H4 h.2 hp
def Cg6:∀{l:List (List UInt8)},H8 false l=true->H8 true l=true
 |[],_=>rfl
 |p::r,h=>by simp only[H8,Bs] at h ⊢;exact⟨⟨h.1.1,by simp⟩,h.2⟩
def Vy:∀{f:Bool} {a b:List (List UInt8)},H8 f (a++b)=(H8 f a && H8 (f && a.isEmpty) b)
 |f,[],b=>by simp[H8]
 |f,p::r,b=>by simp only[Dn,H8,Vy (a:=r)];simp[Bool.and_assoc]
def Cg7 {f:Bool} {l:List (List UInt8)} (h:H8 f l=true) (k:Nat):H8 f (l.drop k)=true:=by
 rw[<-Dw k l,Vy,Bs] at h;have h2:=h.2;cases f with
 |false=>simpa using h2
 |true=>
  cases he:(l.take k).isEmpty with
  |true=>rw[he] at h2;exact h2
  |false=>rw[he] at h2;exact Cg6 h2
def ah:∀(m:List UInt8) (f:Bool) (cur:List UInt8),spl f cur (m++[46])=if H8 f (pcs cur m)=true then some (pcs cur m) else none
 |[],f,cur=>by simp only[C8,spl,if_true,pcs,H8,Cf,Ac2];by_cases h:Lf cur=true<;>by_cases h2:cur=[42]<;>cases f<;>simp[h,h2]
 |c::r,f,cur=>by
  simp only[Dn,spl,pcs];by_cases hc:c=46
  .simp only[if_pos hc];rw[ah r false []];simp only[H8];by_cases h:Lf cur=true<;>by_cases h2:cur=[42]<;>cases f<;>by_cases h3:H8 false (pcs [] r)=true<;>simp[h,h2,h3]
  .simp only[if_neg hc];exact ah r f (cur++[c])
def br (b:List UInt8):∀(a cur:List UInt8),pcs cur (a++46::b)=pcs cur a++cut b
 |[],cur=>by simp[pcs,cut]
 |c::r,cur=>by
  simp only[Dn,pcs];split
  .rw[br b r []];rfl
  .exact br b r _
def Zz:∀(m cur:List UInt8),flat (pcs cur m)=cur++m++[46]
 |[],cur=>by simp[pcs,flat]
 |c::r,cur=>by
  simp only[pcs];split
  .rename_i h;have:=Zz r [];simp only[flat,Fy] at this ⊢;rw[this,h];simp
  .rw[Zz r (cur++[c])];simp
def Rf (a b:List (List UInt8)):flat (a++b)=flat a++flat b:=by simp[flat]
def Jd3 (cur m:List UInt8):pcs cur m≠[]:=by
 cases m with
 |nil=>simp[pcs]
 |cons c r=>
  simp only[pcs];split
  .simp
  .intro h;have:=Zz r (cur++[c]);rw[h] at this;simp[flat] at this
def Zd:∀(l:List (List UInt8)),(∀p∈l,(46:UInt8)∉p)->cut (flat l)=l++[[]]
 |[],_=>rfl
 |p::l,h=>by
  have h1:flat (p::l)=p++46::flat l:=by simp[flat]
  rw[h1];show pcs [] _=_;rw[br,o9 p [] (h p (by simp)),Zd l (fun q hq=>h q (by simp[hq]))];simp
def Nf:∀(l:List (List UInt8)),l≠[]->∃m,flat l=m++[46]
 |[p],_=>⟨p,by simp[flat]⟩
 |p::q::r,_=>by obtain⟨m,hm⟩:=Nf (q::r) (by simp);exact⟨p++[46]++m,by simp only[flat,Fy] at hm ⊢;rw[hm];simp⟩
def Bt4 {l:List (List UInt8)} (hl:l≠[]) (h:∀p∈l,(46:UInt8)∉p) {m:List UInt8} (hm:flat l=m++[46]):cut m=l:=by
 have h1:=Zd l h;rw[hm] at h1;have h2:cut (m++[46])=cut m++[[]]:=by show pcs [] (m++46::[])=_;rw[br];rfl
 rw[h2] at h1;exact Wz h1
def Kn {l:List (List UInt8)} (h:H8 true l=true) (hl:l≠[]):2<=(flat l).length:=by
 cases l with
 |nil=>exact absurd rfl hl
 |cons p r=>
  have h1:=qf (H4 h (K4 ..));have:0<p.length:=Cg.2 h1;simp[flat];omega
def Hr6 {l:List (List UInt8)} (h:H8 true l=true) (hl:l≠[]) (hlen:(flat l).length<=254):nm (flat l)=some l:=by obtain⟨m,hm⟩:=Nf l hl;have h1:=Bt4 hl (fun p hp=>Qj (H4 h hp)) hm;have h2:=Kn h hl;unfold nm;rw[if_neg (by intro e;rw[e] at h2;simp at h2),if_pos ⟨h2,hlen,by rw[hm];simp⟩,hm,ah];have:pcs [] m=l:=h1;rw[this,if_pos h]
def Hr5 {n:List UInt8} {l:List (List UInt8)} (h:nm n=some l):(n=[46]∧l=[])∨(l≠[]∧H8 true l=true∧n=flat l∧n.length<=254):=by
 unfold nm at h;split at h
 .rename_i e;injection h with h;exact .inl ⟨e,h.symm⟩
 .split at h
  .rename_i h1;right;obtain⟨h2,h3,h4⟩:=h1;obtain⟨m,hm⟩:∃m,n=m++[46]:=by
    refine⟨n.dropLast,?_⟩;have:n≠[]:=by intro e;simp[e] at h2
    have h5:=List.dropLast_concat_getLast this;rw[<-h5];congr 1
    .simp
    .have h6:n[n.length - 1]? =some (n.getLast this):=by rw[Mc];exact Bt _
     rw[h6] at h4;injection h4 with h4;simp[h4]
   rw[hm,ah] at h;split at h
   .rename_i h5;injection h with h;subst h;refine⟨Jd3 _ _,h5,?_,by omega⟩;rw[Zz,hm];simp
   .cases h
  .cases h
def Hx5 {n:List UInt8}:vld n=true↔nm n=some (lbl n):=by unfold vld lbl;cases nm n<;>simp
def vld_cases {n:List UInt8} (h:vld n=true):(n=[46]∧lbl n=[])∨(lbl n≠[]∧H8 true (lbl n)=true∧n=flat (lbl n)∧n.length<=254):=Hr5 (Hx5.1 h)
def T8 {n:List UInt8} (h:vld n=true):H8 true (lbl n)=true:=by
 rcases vld_cases h with⟨_,h⟩|⟨_,h,_⟩
 .rw[h];rfl
 .exact h
def Sx {n:List UInt8} (h:vld n=true):n=jn (lbl n):=by
 unfold jn;rcases vld_cases h with⟨h1,h2⟩|⟨h1,_,h2,_⟩
 .rw[h2,if_pos rfl];exact h1
 .rw[if_neg h1];exact h2
def Hs {n:List UInt8} (h:vld n=true):n.length<=254:=by
 rcases vld_cases h with⟨h1,_⟩|⟨_,_,_,h⟩
 .simp[h1]
 .exact h
def Lc:lbl [46]=[]:=rfl
def Aw7 {l:List (List UInt8)} (h:H8 true l=true) (hl:l≠[]):flat l≠[46]:=by intro e;have:=Kn h hl;rw[e] at this;simp at this
def P8 {n:List UInt8} (h:vld n=true):lbl n=[]↔n=[46]:=by
 rcases vld_cases h with⟨h1,h2⟩|⟨h1,h2,h3,_⟩
 .simp[h1,Lc]
 .constructor
  .intro e;exact absurd e h1
  .intro e;rw[h3] at e;exact absurd e (Aw7 h2 h1)
def Gn5 {l:List (List UInt8)} (h:H8 true l=true) (hlen:(flat l).length<=254):vld (jn l)=true∧lbl (jn l)=l:=by
 unfold jn;by_cases hl:l=[]
 .subst hl;exact⟨rfl,rfl⟩
 .rw[if_neg hl];have:=Hr6 h hl hlen;exact⟨by simp[vld,this],by simp[lbl,this]⟩
def P9 {a b:List UInt8} (ha:vld a=true) (hb:vld b=true) (h:lbl a=lbl b):a=b:=by rw[Sx ha,Sx hb,h]
def rj (l:List (List UInt8)) (k:Nat):(flat (l.drop k)).length<=(flat l).length:=by
 have:flat l=flat (l.take k)++flat (l.drop k):=by rw[<-Rf,Dw]
 rw[this,Br];omega
def N3 {n:List UInt8} (h:vld n=true) (k:Nat):vld (jn ((lbl n).drop k))=true∧lbl (jn ((lbl n).drop k))=(lbl n).drop k:=by
 refine Gn5 (Cg7 (T8 h) k) ?_;rcases vld_cases h with⟨_,h1⟩|⟨_,_,h1,h2⟩
 .rw[h1];simp[flat]
 .have:=rj (lbl n) k;rw[<-h1] at this;omega
def W8 {s:List UInt8} (h:Lf s=true):s.length<=63:=by
 unfold Lf at h;simp at h;rcases h with h|h
 .simp[h]
 .omega
def qb {n:List UInt8} (h:vld n=false):lbl n=[]:=by
 unfold lbl;unfold vld at h;cases h1:nm n with
 |none=>rfl
 |some l=>rw[h1] at h;cases h
def Eg2 (n:List UInt8):∀x∈lbl n,Lf x=true:=fun x hx=>by
 rcases Bl (vld n) with h|h
 .exact H4 (T8 h) hx
 .rw[qb h] at hx;cases hx
def T7 {n:List UInt8} (h:vld n=true):0<n.length:=by
 rcases vld_cases h with⟨h1,_⟩|⟨h1,h2,h3,_⟩
 .simp[h1]
 .have:=Kn h2 h1;rw[h3];omega
def ord (s:List UInt8):Bool:=decide (1<=s.length) && decide (s.length<=63) && s.all U8
def Es3 (s:List UInt8):Lf s=(decide (s=[42])||ord s):=rfl
def Gk2:ord [42]=false:=by decide
def Al1 (s:List UInt8) (N:Nat) (hN:s.length<N) (hs:s.length<=9223372036854775807):
  Gs0.ev S N [.s s]=some (if s.all U8=true then .yld 0 [] else .ret [.b false]):=by
 refine Et s (fun i=>[.i .i64 (i:Int)]) (fun i r=>if r.all U8=true then .yld 0 [] else .ret [.b false]) rfl hN (fun i c r hd hi hc=> ?_) ?_
 .have key:Fc4.ev S N ([.s s]++[.i .i64 (i:Int)])=some (if U8 c=true then .yld 1 [.i .i64 ((i:Int)+1)] else .ret [.b false]):=by
   simp(disch:=omega)only[Ct6,hc,Aj,simprocAttr];unfold U8
   grind
  rw[key];rcases Bl (U8 c) with h|h<;>simp[h,Out.goes]
 .simp(disch:=omega) [Ct6,xe,EVP,EV,simprocAttr,Out.goes]
def Oq (s:List UInt8) (hs:s.length<=9223372036854775807):S Gq5 1 [.s s]=some [.b (ord s)]:=by
 refine Kx5 (N:=s.length+1) rfl ?_;unfold ord;by_cases h1:s=[]
 .subst h1;simp(disch:=omega) [Ct6,Aj,simprocAttr]
 .have h2:1<=s.length:=Cg.2 h1;by_cases h3:s.length<=63
  .simp(disch:=omega)only[Ct6,Al1,h1,Aj,simprocAttr];cases s.all U8<;>simp[h2,h3]
  .simp(disch:=omega)only[Ct6,h1,Aj,simprocAttr];simp[h3]
def okP (i:Nat) (p:List UInt8):Bool:=ord p||(decide (i=0) && decide (p=[42]))
def Gq1:Nat->List (List UInt8)->Bool
 |_,[]=>true
 |i,p::r=>okP i p && Gq1 (i+1) r
def zw:∀(l:List (List UInt8)) (i:Nat),Gq1 i l=H8 (decide (i=0)) l
 |[],_=>rfl
 |p::r,i=>by
  have h1:=zw r (i+1);simp only[Gq1,H8,h1,okP,Es3];by_cases h2:p=[42]
  .subst h2;by_cases h3:i=0<;>simp[Gk2,h3]
  .simp[h2]
def Ff1 (p q:PV) (l:List (List UInt8)) (hl:l.length<=1000000) (hw:∀x∈l,x.length<=9223372036854775807) (N:Nat) (hN:l.length<N):
  Hj9.ev S N [p,q,Ch l]=some (if Gq1 0 l=true then .yld 0 [] else .ret [.b false]):=by
 refine Et l (fun i=>[.i .i64 (i:Int)]) (fun i r=>if Gq1 i r=true then .yld 0 [] else .ret [.b false]) rfl hN (fun i c r hd hi hc=> ?_) ?_
 .have hcw:=hw c (B8 hc);have key:Fc8.ev S N ([p,q,Ch l]++[.i .i64 (i:Int)])=some (if okP i c=true then .yld 1 [.i .i64 ((i:Int)+1)] else .ret [.b false]):=by
   rcases Bl (ord c) with h1|h1
   .simp(disch:=omega)only[nt,Oq,hc,h1,Aj,simprocAttr];simp[okP,h1]
   .by_cases h2:i=0
    .subst h2;by_cases h3:c=[42]
     .subst h3;simp(disch:=omega)only[nt,Oq,hc,h1,Aj,simprocAttr];simp[okP]
     .simp(disch:=omega)only[nt,Oq,hc,h1,h3,Aj,simprocAttr];simp[okP,h1,h3]
    .simp(disch:=omega)only[nt,Oq,hc,h1,Aj,simprocAttr];simp[okP,h1,h2]
  rw[key];rcases Bl (okP i c) with h|h<;>simp[h,Gq1,Out.goes]
 .simp(disch:=omega)only[nt,Aj,simprocAttr];simp[Out.goes,Gq1]
def pj:∀(m cur:List UInt8) (x:List UInt8),x∈pcs cur m->x.length<=cur.length+m.length
 |[],cur,x,h=>by simp[pcs] at h;subst h;simp
 |c::r,cur,x,h=>by
  simp only[pcs] at h;split at h
  .rcases Cq.1 h with rfl|h
   .omega
   .have:=pj r [] x h;simp at this ⊢;omega
  .have:=pj r _ x h;simp at this ⊢;omega
def Gg4 (m x:List UInt8) (h:x∈cut m):x.length<=m.length:=by simpa using pj m [] x h
def Jp2 (m:List UInt8):(cut m).length<=m.length+1:=by have:=Fq2 m;have:m.count 46<=m.length:=List.count_le_length;omega
def Dm4 (n:List UInt8):([46]:List UInt8).isSuffixOf n=true↔∃m,n=m++[46]:=by rw[Hz];exact⟨fun⟨m,h⟩=>⟨m,h.symm⟩,fun⟨m,h⟩=>⟨m,h.symm⟩⟩
def Fm4 (m:List UInt8) (hm:m≠[]) (hl:m.length<=253):vld (m++[46])=Gq1 0 (cut m):=by have h1:m++[46]≠[46]:=fun e=>hm (Wz (bs:=[46]) (by simpa using e));have h2:0<m.length:=Cg.2 hm;unfold vld nm;rw[if_neg h1,if_pos ⟨by simp;omega,by simp;omega,by simp⟩,ah,zw];have e:pcs [] m=cut m:=rfl;have e2:H8 (decide ((0:Nat)=0)) (cut m)=H8 true (cut m):=rfl;rw[e,e2];cases H8 true (cut m)<;>rfl
def Gb1 (m:List UInt8) (h:vld (m++[46])=true) (hm:m≠[]):lbl (m++[46])=cut m:=by
 rcases vld_cases h with⟨h1,_⟩|⟨h1,h2,h3,_⟩
 .exact absurd (Wz (bs:=[46]) (by simpa using h1)) hm
 .exact(Bt4 h1 (fun p hp=>Qj (H4 h2 hp)) h3.symm).symm
def Db (n:List UInt8) (hn:n.length<=9223372036854775807):S O9 1 [.s n]=some [.b (vld n)]:=by
 refine Kd8 (N:=300) rfl ?_;by_cases h0:n=[46]
 .subst h0;simp(disch:=omega)only[nt,Aj,simprocAttr];rfl
 .by_cases h1:255<=n.length
  .have hv:vld n=false:=by rw[By7];intro h;have:=Hs h;omega
   simp(disch:=omega)only[nt,h0,hv,Aj,simprocAttr]
  .rcases Bl (([46]:List UInt8).isSuffixOf n) with h2|h2
   .obtain⟨m,rfl⟩:=(Dm4 n).1 h2;have hm:m≠[]:=fun e=>h0 (by simp[e]);have hl:(m++[46]).length=m.length+1:=by simp
    have hml:m.length<=1000000:=by omega
    have e:List.drop 0 (List.take (((m++[46]).length:Int) - 1).toNat (m++[46]))=m:=by
     have:(((m++[46]).length:Int) - 1).toNat=m.length:=by omega
     rw[this];simp
    have hc:=Jp2 m;have hv:=Fm4 m hm (by omega);have hk:=Ff1 (.s (m++[46])) (.b true) (cut m) (by omega) (fun x hx=>by have:=Gg4 m x hx;omega) 300 (by omega);simp(disch:=omega)only[nt,Qt,Ab2,e,hk,h0,h2,Aj,simprocAttr];rw[hv];cases Gq1 0 (cut m)<;>simp
   .have hv:vld n=false:=by
     rw[By7];intro h;rcases vld_cases h with⟨h3,_⟩|⟨h3,_,h5,_⟩
     .exact h0 h3
     .obtain⟨m,hm⟩:=Nf _ h3;have:=(Dm4 n).2 ⟨m,h5.trans hm⟩;rw[h2] at this;cases this
    simp(disch:=omega)only[nt,Qt,h0,h2,hv,Aj,simprocAttr]
def Xs (n:List UInt8) (hn:n.length<=9223372036854775807):S ky 1 [.s n]=some [Ch (lbl n)]:=by
 refine Jq2 (N:=1) rfl ?_;by_cases h0:n=[46]
 .subst h0;simp(disch:=omega)only[Dk2,Lc,Aj,simprocAttr]
 .rcases Bl (vld n) with h1|h1
  .obtain⟨m,hm,rfl⟩:∃m,m≠[]∧n=m++[46]:=by
    rcases vld_cases h1 with⟨h3,_⟩|⟨h3,_,h5,_⟩
    .exact absurd h3 h0
    .obtain⟨m,hm⟩:=Nf _ h3;exact⟨m,fun e=>h0 (by rw[h5,hm,e];rfl),h5.trans hm⟩
   have hl:(m++[46]).length=m.length+1:=by simp
   have e:List.drop 0 (List.take (((m++[46]).length:Int) - 1).toNat (m++[46]))=m:=by
    have:(((m++[46]).length:Int) - 1).toNat=m.length:=by omega
    rw[this];simp
   have hl2:=Hs h1;have e2:=Gb1 m h1 hm;simp(disch:=omega)only[Dk2,Db,Ab2,e,e2,h0,h1,Aj,simprocAttr]
  .have e:lbl n=[]:=by
    unfold lbl;unfold vld at h1;cases h:nm n with
    |none=>rfl
    |some l=>rw[h] at h1;cases h1
   simp(disch:=omega)only[Dk2,Db,h0,h1,e,Aj,simprocAttr]
def Ng (p:List UInt8) (l:List (List UInt8)):flat (p::l)=p++46::flat l:=by simp[flat]
def parentN (n:List UInt8):List UInt8:=if vld n=true∧n≠[46] then jn ((lbl n).drop 1) else []
def dp (n:List UInt8):Bool:=vld n && !decide (n=[46])
def Xp (n:List UInt8) (hn:n.length<=9223372036854775807):S lz 1 [.s n]=some [.s (parentN n),.b (dp n)]:=by
 refine Jz5 (N:=1) rfl ?_;unfold parentN dp;by_cases h0:n=[46]
 .subst h0;simp(disch:=omega)only[Bb1,Aj,simprocAttr];simp
 .rcases Bl (vld n) with h1|h1
  .rcases vld_cases h1 with⟨h3,_⟩|⟨h3,h4,h5,h6⟩
   .exact absurd h3 h0
   .cases hl:lbl n with
    |nil=>exact absurd hl h3
    |cons p r=>
     rw[hl] at h4 h5;have hp:=Qj (H4 h4 (K4 ..));have hi:=Ab6 n 46;have hc:(((46:UInt8).toNat:Nat):Int)=46:=rfl;have hx:Lib.indexByte n 46=(p.length:Int):=by rw[h5,Ng];exact Nk 46 _ p hp
     rw[hc,hx] at hi;have hlen:n.length=p.length+1+(flat r).length:=by rw[h5,Ng];simp;omega
     have e:List.drop ((p.length:Int)+1).toNat (List.take n.length n)=flat r:=by
      have:((p.length:Int)+1).toNat=p.length+1:=by omega
      rw[this,E3,h5,Ng];simp
     by_cases h7:r=[]
     .subst h7;have e2:flat []=[]:=rfl;simp(disch:=omega)only[Bb1,Db,hi,e,e2,h0,h1,Aj,simprocAttr];simp[jn]
     .have e2:¬flat r=[]:=by obtain⟨m,hm⟩:=Nf r h7;rw[hm];simp
      simp(disch:=omega)only[Bb1,Db,hi,e,e2,h0,h1,Aj,simprocAttr];simp[jn,h7]
  .simp(disch:=omega)only[Bb1,Db,h0,h1,Aj,simprocAttr];simp
def Fj6 (n top:List UInt8):Bool:=(decide (top=[46])||decide (n=top))||(46::top).isSuffixOf n
def Fj5 (n top:List UInt8) (hn:n.length<=9223372036854775807) (ht:top.length<=1000000):S Aq4 2 [.s n,.s top]=some [.b (Fj6 n top)]:=by
 refine Jb3 (N:=1) rfl ?_;unfold Fj6;have h0:([46]:List UInt8).length=1:=rfl;by_cases h1:top=[46]<;>by_cases h2:n=top<;>simp(disch:=omega)only[Ig8,Qt,h1,h2,Aj,simprocAttr]
 all_goals simp
def Ar3 {a b:List (List UInt8)} (ha:H8 true a=true) (hb:H8 true b=true) (h:(46::flat b)<:+flat a):b<:+a:=by obtain⟨p,hp⟩:=h;have h1:=Zd a (fun x hx=>Qj (H4 ha hx));have h2:=Zd b (fun x hx=>Qj (H4 hb hx));rw[<-hp] at h1;have h3:cut (p++46::flat b)=cut p++cut (flat b):=br (flat b) p [];rw[h3,h2,<-Cj] at h1;exact⟨cut p,Wz h1⟩
def Gf0 {n top:List UInt8} (hn:vld n=true) (ht:vld top=true):Fj6 n top=true↔lbl top<:+lbl n:=by
 unfold Fj6;simp only[Cy,decide_eq_true_eq,Hz];constructor
 .rintro ((rfl|rfl)|h)
  .rw[Lc];exact List.nil_suffix
  .exact List.suffix_refl _
  .rcases vld_cases ht with⟨h1,h2⟩|⟨h1,h2,h3,_⟩
   .rw[h2];exact List.nil_suffix
   .rcases vld_cases hn with⟨h5,_⟩|⟨h5,h6,h7,_⟩
    .rw[h5] at h;have h9:=h.length_le;have h8:=Kn h2 h1;rw[<-h3] at h8;simp only[B9,C1] at h9;omega
    .rw[h3,h7] at h;exact Ar3 h6 h2 h
 .intro h;obtain⟨p,hp⟩:=h;rcases vld_cases ht with⟨h1,h2⟩|⟨h1,h2,h3,_⟩
  .exact .inl (.inl h1)
  .by_cases hp0:p=[]
   .left;right;subst hp0;exact P9 hn ht hp.symm
   .right;rcases vld_cases hn with⟨_,h5⟩|⟨h5,h6,h7,_⟩
    .rw[h5] at hp;exact absurd (List.append_eq_nil_iff.1 hp).1 hp0
    .obtain⟨m,hm⟩:=Nf p hp0;rw[h7,<-hp,Rf,hm];exact⟨m,by rw[Cj,<-h3];simp⟩
def fy {D:Type} [DecidableEq D]:∀(a b:List D),Zf a b=b.length↔b<+:a
 |[],[]=>by simp[Zf]
 |[],y::ys=>by simp[Zf]
 |x::xs,[]=>by simp[Zf]
 |x::xs,y::ys=>by
  have:=fy xs ys;simp only[Zf];split
  .rename_i h;subst h;simp[this,Q2]
  .rename_i h;simp[Q2,Ne.symm h]
def yb (a b:List (List UInt8)):M8 a b=b.length↔b<:+a:=by unfold M8;have:=fy a.reverse b.reverse;rw[List.length_reverse] at this;rw[this,List.reverse_prefix]
def C5 {n top:List UInt8}:under n top=true↔vld n=true∧vld top=true∧lbl top<:+lbl n:=by unfold under;simp[yb,and_assoc]
def jk {n top:List UInt8} (hn:vld n=true) (ht:vld top=true):Fj6 n top=under n top:=by rw[D7,Gf0 hn ht,C5];simp[hn,ht]
def F9 (n top:List UInt8) (hn:n.length<=9223372036854775807) (ht:top.length<=9223372036854775807):S P5 2 [.s n,.s top]=some [.b (under n top)]:=by
 refine Kd0 (N:=1) rfl ?_;rcases Bl (vld n) with h1|h1
 .rcases Bl (vld top) with h2|h2
  .have h3:=Hs h2;simp(disch:=omega)only[Hw8,Db,Fj5,h1,h2,Aj,simprocAttr];rw[jk h1 h2]
  .have h3:under n top=false:=by simp[under,h2]
   simp(disch:=omega)only[Hw8,Db,h1,h2,h3,Aj,simprocAttr]
 .have h3:under n top=false:=by simp[under,h1]
  simp(disch:=omega)only[Hw8,Db,h1,h3,Aj,simprocAttr]
def Yb:∀(a:List UInt8),Op.bytesLess a a=false
 |[]=>rfl
 |a::x=>by simp[Op.bytesLess,Yb x]
def Qc:∀(a b:List UInt8),Lib.compareBytes a b=cmpS a b
 |[],[]=>rfl
 |[],_::_=>rfl
 |_::_,[]=>rfl
 |a::x,b::y=>by
  have ih:=Qc x y;unfold cmpS at ih ⊢;simp only[Lib.compareBytes,Op.bytesLess,ih];by_cases h1:a<b
  .simp[h1]
  .by_cases h2:b<a
   .have h3:a≠b:=fun e=>by subst e;exact h1 h2
    simp[h1,h2,h3]
   .have h3:a=b:=UInt8.le_antisymm (UInt8.not_lt.1 h2) (UInt8.not_lt.1 h1);subst h3;simp[h1]
def Ks {a b:List UInt8}:cmpS a b=0↔a=b:=by
 unfold cmpS;by_cases h:a=b
 .subst h;simp[Yb]
 .cases h2:Op.bytesLess a b<;>simp[h]
def Om (x y:List UInt8):S c5 2 [.s x,.s y]=some [.i .i64 (cmpS x y)]:=by rw[Bx7,Qc]
def Zl:List (List UInt8)->List (List UInt8)->Option Int
 |x::xs,y::ys=>if x=y then Zl xs ys else some (cmpS x y)
 |_,_=>none
def Fq9:∀(a b:List (List UInt8)),Zl a b=if Zf a b<a.length∧Zf a b<b.length then some (cmpS (a.getD (Zf a b) []) (b.getD (Zf a b) [])) else none
 |[],b=>by simp[Zl,Zf]
 |x::xs,[]=>by simp[Zl,Zf]
 |x::xs,y::ys=>by
  have ih:=Fq9 xs ys;simp only[Zl,Zf];by_cases h:x=y
  .simp only[if_pos h,ih];simp
  .simp[h]
def At2 (a b:List (List UInt8)):Int:=match Zl a.reverse b.reverse with
 |some c=>c
 |none=>if a.length<b.length then -1 else if b.length<a.length then 1 else 0
def Bs4 (a:List (List UInt8)) (k:Nat) (h:k<a.length):a.reverse.getD k []=a.getD (a.length - 1 - k) []:=by simp[C9,List.getElem?_reverse h]
def fb {a b:List UInt8} (ha:vld a=true) (hb:vld b=true):J7 a b=At2 (lbl a) (lbl b):=by
 unfold J7 At2;rw[Fq9];have e:Zf (lbl a).reverse (lbl b).reverse=M8 (lbl a) (lbl b):=rfl;rw[e,ha,hb];simp only[List.length_reverse,Bool.and_self,if_true];by_cases h:M8 (lbl a) (lbl b)<(lbl a).length∧M8 (lbl a) (lbl b)<(lbl b).length
 .rw[if_pos h,if_pos h,Bs4 _ _ h.1,Bs4 _ _ h.2]
 .rw[if_neg h,if_neg h]
def Bx9 (a b:List (List UInt8)) (p1 p2 p3 p4:PV) (ha:a.length<=1000) (hb:b.length<=1000) (N:Nat) (hN:1001<N):
  Ap4.ev S N [p1,p2,p3,p4,Ch a,Ch b]=some (match Zl a.reverse b.reverse with|some c=> .ret [.i .i64 c]|none=> .yld 0 []):=by
 have key:=I9 (fn:=S) (N:=N) (J:=[p1,p2,p3,p4,Ch a,Ch b]) (id:=1) (init:=[(.c (.i .i64 (1)))]) (body:=Bw6) (D:=Nat) (fun k=>[.i .i64 ((k:Int)+1)])
  (fun k=>match Zl (a.reverse.drop k) (b.reverse.drop k) with|some c=> .ret [.i .i64 c]|none=> .yld 0 []) (fun k=>k<=a.length∧k<=b.length) (fun k=>a.length - k) 0 rfl ⟨C3 _,C3 _⟩ (by omega) ?_
 .simpa [Ap4] using key
 .rintro k ⟨h1,h2⟩;by_cases h3:k<a.length
  .by_cases h4:k<b.length
   .have e1:((a.length:Int) - ((k:Int)+1)).toNat=a.length - 1 - k:=by omega
    have e2:((b.length:Int) - ((k:Int)+1)).toNat=b.length - 1 - k:=by omega
    have g1:a[a.length - 1 - k]? =some (a[a.length - 1 - k]'(by omega)):=Bt (by omega);have g2:b[b.length - 1 - k]? =some (b[b.length - 1 - k]'(by omega)):=Bt (by omega);have d1:a.reverse.drop k=(a[a.length - 1 - k]'(by omega))::a.reverse.drop (k+1):=by rw[Dd (by simpa using h3)];simp
    have d2:b.reverse.drop k=(b[b.length - 1 - k]'(by omega))::b.reverse.drop (k+1):=by rw[Dd (by simpa using h4)];simp
    rw[d1,d2];generalize (a[a.length - 1 - k]'(by omega))=x at g1;generalize (b[b.length - 1 - k]'(by omega))=y at g2;simp only[Zl];by_cases h:x=y
    .left;have h5:cmpS x y=0:=Ks.2 h;refine⟨k+1,?_,⟨by omega,by omega⟩,by omega,by rw[if_pos h]⟩;simp(disch:=omega)only[Z6,Om,e1,e2,g1,g2,h5,Aj,simprocAttr]
    .right;have h5:¬cmpS x y=0:=fun e=>h (Ks.1 e);rw[if_neg h];simp(disch:=omega)only[Z6,Om,e1,e2,g1,g2,h5,Aj,simprocAttr];simp[Out.goes]
   .right;have d2:b.reverse.drop k=[]:=Hr (by simp;omega);have z:Zl (a.reverse.drop k) []=none:=by cases a.reverse.drop k<;>rfl
    rw[d2,z];simp(disch:=omega) [Z6,xe,EVP,EV,simprocAttr,Out.goes]
  .right;have d1:a.reverse.drop k=[]:=Hr (by simp;omega);have z:Zl [] (b.reverse.drop k)=none:=rfl;rw[d1,z];simp(disch:=omega) [Z6,xe,EVP,EV,simprocAttr,Out.goes]
def Kx (a b:List UInt8) (hn:a.length<=9223372036854775807) (ht:b.length<=9223372036854775807):S Mr 2 [.s a,.s b]=some [.i .i64 (J7 a b)]:=by
 refine Jy8 (N:=1002) rfl ?_;have h1:=G5 a;have h2:=G5 b;rcases Bl (vld a) with h3|h3<;>rcases Bl (vld b) with h4|h4
 .rw[fb h3 h4];unfold At2;have hk:=Bx9 (lbl a) (lbl b) (.s a) (.s b) (.b true) (.b true) (by omega) (by omega) 1002 (by omega);cases h5:Zl (lbl a).reverse (lbl b).reverse with
  |some c=>
   rw[h5] at hk;simp(disch:=omega)only[Z6,Db,Xs,hk,h3,h4,Aj,simprocAttr]
  |none=>
   rw[h5] at hk;simp(disch:=omega)only[Z6,Db,Xs,hk,h3,h4,Aj,simprocAttr]
   grind
 all_goals unfold J7
 all_goals simp(disch:=omega)only[Z6,Db,Om,h3,h4,Aj,simprocAttr]
 all_goals simp
def Hr8 (l:List (List UInt8)) (hl:l.length<=1000) (hw:∀x∈l,x.length<=1000) (N:Nat) (hN:l.length<N):
  An8.ev S N [Ch l]=some (.yld 0 [.s (flat l)]):=by
 have key:An8.ev S N [Ch l]=some (.yld 0 [.s ([]++flat l)]):=by
  refine Dh l (fun i (g:List UInt8)=>[.s g,.i .i64 (i:Int)]) (fun i g r=> .yld 0 [.s (g++flat r)]) (fun i g=>g.length<=1001*i) [] rfl (B7 _) hN (fun i g c r hd hi hc hI=> ?_) (fun g hI=> ?_)
  .left;have h1:=hw c (B8 hc);have h0:([46]:List UInt8).length=1:=rfl;refine⟨g++c++[46],?_,by simp;omega,by simp[flat]⟩;simp(disch:=first|omega|(simp only[Br];omega))only[Bz5,hc,Aj,simprocAttr]
  .simp(disch:=omega)only[Bz5,Aj,simprocAttr];simp[flat,Out.goes]
 simpa using key
def Eb6 (l:List (List UInt8)) (hl:l.length<=1000) (hw:∀x∈l,x.length<=1000):S zf 1 [Ch l]=some [.s (jn l)]:=by
 refine Is7 (N:=l.length+1) rfl ?_;unfold jn;by_cases h:l=[]
 .subst h;simp(disch:=first|omega|(simp;omega))only[Bz5,Aj,simprocAttr]
 .have h1:0<l.length:=Cg.2 h;have hk:=Hr8 l hl hw (l.length+1) (by omega);simp(disch:=omega)only[Bz5,hk,h,Aj,simprocAttr]
def Eg1 (n:List UInt8):∀x∈lbl n,x.length<=1000:=fun x hx=>by have:=W8 (Eg2 n x hx);omega
def dc {n:List UInt8} (h:vld n=true) (k:Nat):(jn ((lbl n).drop k)).length<=254:=Hs (N3 h k).1
def Ps (n:List UInt8):List UInt8:=if n=[46] then [42,46] else [42,46]++n
def starOk (n:List UInt8):Bool:=vld n && !decide ((lbl n)[0]? =some [42]) && vld (Ps n)
def starN (n:List UInt8):List UInt8:=if starOk n=true then Ps n else []
def um (n:List UInt8) (hn:n.length<=1000000):S kg 1 [.s n]=some [.s (starN n),.b (starOk n)]:=by
 refine Jw8 (N:=1) rfl ?_;have h0:([42,46]:List UInt8).length=2:=rfl;have hl:(Ps n).length<=9223372036854775807:=by
  unfold Ps;split
  .simp
  .rw[Br,h0];omega
 have h1:=G5 n;unfold starN starOk;rcases Bl (vld n) with h3|h3
 .have tail:∀(q:List (List UInt8)),(¬q[0]? =some [42])->T.ev S 1 At9 [.s n,Ch q,.b true]=some (.ret (if vld (Ps n)=true then [.s (Ps n),.b true] else [.s [],.b false])):=by
   intro q _;unfold Ps at hl ⊢;by_cases h4:n=[46]
   .simp only[if_pos h4] at hl ⊢;rcases Bl (vld [42,46]) with h5|h5<;>simp(disch:=omega)only[Z4,Gd,h4,h5,Aj,simprocAttr]
   .simp only[if_neg h4] at hl ⊢;rcases Bl (vld ([42,46]++n)) with h5|h5<;>simp(disch:=omega)only[Z4,Gd,h4,Aj,simprocAttr]<;>simp only[Dn,C8] at h5 hl<;>simp(disch:=omega)only[Z4,Gd,h5,Aj,simprocAttr]<;>simp
  cases hq:lbl n with
  |nil=>
   have ht:=tail [] (by simp);simp(disch:=first|omega|(simp;omega))only[↓ht,Z4,split_ok,hq,h3,Aj,simprocAttr];rcases Bl (vld (Ps n)) with h5|h5<;>simp[h5]
  |cons p r=>
   have h6:0<((p::r).length:Int):=by simp only[B9];omega
   by_cases h7:p=[42]
   .subst h7;simp(disch:=first|omega|(simp only[B9];omega))only[Z4,split_ok,hq,h3,Aj,simprocAttr];simp
   .have ht:=tail (p::r) (by simpa using h7);simp(disch:=first|omega|(simp only[B9];omega))only[↓ht,Z4,split_ok,hq,h3,h7,Aj,simprocAttr];rcases Bl (vld (Ps n)) with h5|h5<;>simp[h5,h7]
 .simp(disch:=omega)only[Z4,split_ok,h3,Aj,simprocAttr];simp
def Wl {n:List UInt8} (h:vld n=true):(n[0]? =some 42↔(lbl n)[0]? =some [42]):=by
 rcases vld_cases h with⟨h1,h2⟩|⟨h1,h2,h3,_⟩
 .subst h1;simp[Lc]
 .cases hl:lbl n with
  |nil=>exact absurd hl h1
  |cons p r=>
   rw[hl] at h2 h3;have hp:=H4 h2 (K4 ..);have hne:=qf hp;cases p with
   |nil=>exact absurd rfl hne
   |cons c q=>
    rw[h3,Ng];simp only[Dn,D2,Bn];constructor
    .rintro rfl;unfold Lf at hp;simp at hp;rcases hp with h|h
     .rw[h]
     .exfalso;have:U8 42=false:=by decide
      rw[this] at h;simp at h
    .intro h;injection h
def uh (n:List UInt8) (hn:n.length<=1000000):S lv 1 [.s n]=some [.s (starN n),.b (starOk n)]:=by
 refine Jz0 (N:=1) rfl ?_;have h0:([42,46]:List UInt8).length=2:=rfl;have hl:(Ps n).length<=9223372036854775807:=by
  unfold Ps;split
  .simp
  .rw[Br,h0];omega
 unfold starN starOk;have tail:T.ev S 1 Bj0 [.s n,.s (Ps n)]=some (.ret [.s (starN n),.b (starOk n)]):=by
  unfold starN starOk;rcases Bl (vld n) with h3|h3
  .have h4:=Wl h3;have h5:=Bt (T7 h3);have h6:=Fm8 (n[0]'(T7 h3)) 42 (by omega);by_cases h7:(lbl n)[0]? =some [42]
   .have h8:=h4.2 h7;rw[h5] at h8;injection h8 with h8;have h9:((n[0]'(T7 h3)).toNat:Int)=42:=h6.2 h8;simp(disch:=omega)only[Bb0,Db,h3,h5,Aj,simprocAttr];simp[h7]
   .have h8:¬n[0]? =some 42:=fun e=>h7 (h4.1 e);rw[h5] at h8;have h9:¬((n[0]'(T7 h3)).toNat:Int)=42:=fun e=>h8 (by rw[h6.1 e];rfl);rcases Bl (vld (Ps n)) with ha|ha<;>simp(disch:=omega)only[Bb0,Db,h3,h5,ha,Aj,simprocAttr]<;>simp[h7]
  .simp(disch:=omega)only[Bb0,Db,h3,Aj,simprocAttr];simp
 unfold starN starOk at tail;obtain⟨y0,y1,y2,y3,y4,y5,y6,y7,yt⟩:=Bb0;by_cases h4:n=[46]
 .have e:Ps n=[42,46]:=by simp[Ps,h4]
  rw[e] at tail ⊢;subst h4;simp(disch:=omega)only[y0,y1,y2,yt,Aj,simprocAttr];rw[tail];simp
 .have e:Ps n=42::46::n:=by simp[Ps,h4]
  rw[e] at tail ⊢;simp(disch:=omega)only[y0,y1,y2,yt,h4,Aj,simprocAttr];rw[tail];simp
def Js7 (t:Int):List UInt8:=
 if t=1 then [65] else if t=2 then [78,83] else if t=5 then [67,78,65,77,69] else if t=6 then [83,79,65] else if t=12 then [80,84,82]
 else if t=15 then [77,88] else if t=16 then [84,88,84] else if t=28 then [65,65,65,65] else if t=33 then [83,82,86] else if t=39 then [68,78,65,77,69]
 else if t=43 then [68,83] else if t=46 then [82,82,83,73,71] else if t=47 then [78,83,69,67] else if t=48 then [68,78,83,75,69,89] else []
def t15 (t:Int):t=1∨t=2∨t=5∨t=6∨t=12∨t=15∨t=16∨t=28∨t=33∨t=39∨t=43∨t=46∨t=47∨t=48∨(t≠1∧t≠2∧t≠5∧t≠6∧t≠12∧t≠15∧t≠16∧t≠28∧t≠33∧t≠39∧t≠43∧t≠46∧t≠47∧t≠48):=by omega
def Bx5 (t:Int):S Bl8 1 [.i .i64 t]=some [.s (Js7 t)]:=by
 refine Jq0 (N:=1) rfl ?_;rcases t15 t with rfl|rfl|rfl|rfl|rfl|rfl|rfl|rfl|rfl|rfl|rfl|rfl|rfl|rfl|⟨h0,h1,h2,h3,h4,h5,h6,h7,h8,h9,h10,h11,h12,h13⟩
 all_goals simp(disch:=omega)only[If0,Aj,simprocAttr]
 all_goals first|rfl|(unfold Js7;simp only[if_neg, *];rfl)
def knw (t:Int):Bool:=decide (t=1)||decide (t=2)||decide (t=5)||decide (t=6)||decide (t=12)||decide (t=15)||decide (t=16)||decide (t=28)||decide (t=33)||decide (t=39)||decide (t=43)||decide (t=46)||decide (t=47)||decide (t=48)
def Gb2 (t:Int):decide (Js7 t≠[])=knw t:=by
 unfold Js7 knw;rcases t15 t with rfl|rfl|rfl|rfl|rfl|rfl|rfl|rfl|rfl|rfl|rfl|rfl|rfl|rfl|⟨h0,h1,h2,h3,h4,h5,h6,h7,h8,h9,h10,h11,h12,h13⟩
 all_goals simp[*]
def D8 (t:Int):S Sf 1 [.i .i64 t]=some [.b (knw t)]:=by refine Jy4 (N:=1) rfl ?_;simp(disch:=omega)only[Ig3,Bx5,Gb2,Aj,simprocAttr]
def Ab3 (t:Int):S Bn3 1 [.i .i64 t]=some [.b (decide (t=6)||decide (t=5)||decide (t=39))]:=by refine Jy0 (N:=1) rfl ?_;simp(disch:=omega)only[Ig1,Aj,simprocAttr]
def Ft (d:Dat):Bool:=d.v6||(decide (d.hi=0) && decide (d.lo<4294967296))
def Ab1 (d:Dat):S Aj3 1 [Mk d]=some [.b (Ft d)]:=by refine Jk8 (N:=1) rfl ?_;unfold Ft;cases h:d.v6<;>by_cases h2:d.hi=0<;>simp(disch:=omega) [Id8,h,h2,Aj,simprocAttr]
def inB (n most:Int):Bool:=decide (0<=n) && decide (n<=most)
def Cg3 (n m:Int):S Jd 2 [.i .i64 n,.i .i64 m]=some [.b (inB n m)]:=by refine Jk5 (N:=1) rfl ?_;simp(disch:=omega)only[Id6,inB,Aj,simprocAttr]
def Ff2 (n:Int):S Bl6 1 [.i .i64 n]=some [.b (inB n 4294967295)]:=by refine Jk6 (N:=1) rfl ?_;simp(disch:=omega)only[Id7,inB,Aj,simprocAttr];congr 5;simp;omega
def Il (s:List UInt8):Bool:=decide (1<=s.length) && decide (s.length<=255)
def ox (s:List UInt8):S kx 1 [.s s]=some [.b (Il s)]:=by refine Jk4 (N:=1) rfl ?_;simp(disch:=omega)only[Id5,Il,Aj,simprocAttr];congr 5<;>simp<;>omega
def Dq4 {n:List UInt8} (h:vld n=true):0<n.length:=by
 unfold vld nm at h;split at h
 .rename_i e;simp[e]
 .split at h
  .omega
  .cases h
def Iq (n:List UInt8):Bool:=vld n && decide (n[0]? ≠some 42)
def Kf (n:List UInt8) (hn:n.length<=9223372036854775807):S Un 1 [.s n]=some [.b (Iq n)]:=by
 refine Jk7 (N:=1) rfl ?_;unfold Iq;cases h:vld n
 .simp(disch:=omega)only[Gm5,Gd,h,Aj,simprocAttr];rfl
 .have h0:=Bt (Dq4 h);have h1:=Fm8 (n[0]'(Dq4 h)) 42 (by omega);simp(disch:=omega)only[Gm5,Gd,h,h0,Aj,simprocAttr];simp;exact h1
def bit (set:Int) (t:Nat):Int:=set / 2 ^ t % 2
def Ib1 (x:Int):IntKind.u64.wrap ((BitVec.ofInt IntKind.u64.bits x &&& BitVec.ofInt IntKind.u64.bits 1).toNat:Int)=x % 2:=by
 have h2:(BitVec.ofInt 64 x &&& BitVec.ofInt 64 1).toNat=(BitVec.ofInt 64 x).toNat % 2:=by rw[BitVec.toNat_and];show (BitVec.ofInt 64 x).toNat &&& 1=_;exact Nat.and_one_is_mod _
 show IntKind.u64.wrap (((BitVec.ofInt 64 x &&& BitVec.ofInt 64 1).toNat:Nat):Int)=_;rw[h2,BitVec.toNat_ofInt];rw[Gn4]<;>omega
def Al8 (n t:Nat):n &&& 2 ^ t=(n.testBit t).toNat*2 ^ t:=by
 apply Nat.eq_of_testBit_eq;intro i;rw[Nat.testBit_and,Nat.testBit_two_pow];by_cases h:t=i
 .subst h;cases h2:n.testBit t<;>simp
 .cases h2:n.testBit t<;>simp[h,Nat.testBit_two_pow]
def Iy3 (x:Int) (t:Nat) (ht:t<64):IntKind.u64.wrap ((BitVec.ofInt IntKind.u64.bits x &&& BitVec.ofInt IntKind.u64.bits (2 ^ t)).toNat:Int)=if bit x t=1 then 2 ^ t else 0:=by
 have hp:(2 ^ t:Nat)<2 ^ 64:=Nat.pow_lt_pow_right (by decide) ht;have h1:(BitVec.ofInt 64 ((2:Int) ^ t)).toNat=2 ^ t:=by
  rw[BitVec.toNat_ofInt];have e:((2:Int) ^ t)=((2 ^ t:Nat):Int):=by simp
  rw[e,<-Int.natCast_emod,Ef];exact F2 hp
 have h2:(BitVec.ofInt 64 x &&& BitVec.ofInt 64 ((2:Int) ^ t)).toNat=((BitVec.ofInt 64 x).toNat.testBit t).toNat*2 ^ t:=by rw[BitVec.toNat_and,h1,Al8]
 show IntKind.u64.wrap (((BitVec.ofInt 64 x &&& BitVec.ofInt 64 ((2:Int) ^ t)).toNat:Nat):Int)=_;have h3:(BitVec.ofInt 64 x).toNat.testBit t=decide (bit x t=1):=by
  rw[BitVec.toNat_ofInt,Nat.testBit_eq_decide_div_mod_eq,decide_eq_decide];unfold bit;have hpos:(0:Int)<2 ^ t:=Int.pow_pos (by decide);have hb:0<=x % ((2 ^ 64:Nat):Int):=Int.emod_nonneg _ (by decide);have e1:(((x % ((2 ^ 64:Nat):Int)).toNat / 2 ^ t % 2:Nat):Int)=x % ((2 ^ 64:Nat):Int) / 2 ^ t % 2:=by rw[Int.natCast_emod,Int.natCast_ediv,Int.toNat_of_nonneg hb];simp
  have e2:x % ((2 ^ 64:Nat):Int) / 2 ^ t % 2=x / 2 ^ t % 2:=by
   have hs:((2 ^ 64:Nat):Int)=2 ^ t*(2*2 ^ (63 - t)):=by
    have:(2:Int) ^ 64=2 ^ t*(2*2 ^ (63 - t)):=by rw[<-Int.mul_assoc,<-Int.pow_succ,<-Int.pow_add];congr 1;omega
    simpa using this
   have hx:x=((2 ^ 64:Nat):Int)*(x / ((2 ^ 64:Nat):Int))+x % ((2 ^ 64:Nat):Int):=(Int.mul_ediv_add_emod x _).symm;have hd:x / 2 ^ t=(2*2 ^ (63 - t))*(x / ((2 ^ 64:Nat):Int))+x % ((2 ^ 64:Nat):Int) / 2 ^ t:=by
    have:x=2 ^ t*((2*2 ^ (63 - t))*(x / ((2 ^ 64:Nat):Int)))+x % ((2 ^ 64:Nat):Int):=by rw[<-Int.mul_assoc,<-hs];exact hx
    calc x / 2 ^ t=(2 ^ t*((2*2 ^ (63 - t))*(x / ((2 ^ 64:Nat):Int)))+x % ((2 ^ 64:Nat):Int)) / 2 ^ t:=by rw[<-this]
     _=_:=by rw[Int.mul_add_ediv_left _ _ (Int.ne_of_gt hpos)]
   rw[hd,Int.mul_assoc];omega
  rw[<-e2,<-e1];generalize (x % ((2 ^ 64:Nat):Int)).toNat / 2 ^ t % 2=q;omega
 rw[h2,h3];have hq:((2 ^ t:Nat):Int)<=9223372036854775808:=by have:(2 ^ t:Nat)<=2 ^ 63:=Nat.pow_le_pow_right (by decide) (by omega);omega
 by_cases hb:bit x t=1
 .simp only[hb,decide_true,Bool.toNat_true,Gs,if_true];rw[Gn4 (by omega) (by omega)];simp
 .simp only[hb,decide_false,Bool.toNat_false,Nat.zero_mul,if_false];rw[Gn4 (by omega) (by omega)];simp
def Ac5 (r:Rec) (t:Int):Bool:=decide (0<=t) && decide (t<=63) && decide (bit r.data.bits t.toNat=1)
def Cd8 (r:Rec) (t:Int):S lq 2 [r.pv,.i .i64 t]=some [.b (Ac5 r t)]:=by
 refine Jy6 (N:=1) rfl ?_;unfold Ac5;by_cases h1:0<=t
 .by_cases h2:t<=63
  .obtain⟨n,rfl⟩:∃n:Nat,t=(n:Int):=⟨t.toNat,by omega⟩;have hb:IntKind.u64.bits=64:=rfl;have h3:X.bin .shr (.i .u64 r.data.bits) (.i .i64 (n:Int))=some (.i .u64 (r.data.bits / 2 ^ n)):=Ag5 _ _ _ _ (by rw[hb];omega);have h4:r.data.bits / 2 ^ n % 2=bit r.data.bits n:=rfl;simp(disch:=omega)only[Dq0,Qh,Ib1,h3,h4,Aj,simprocAttr]
   try simp
   try omega
  .simp(disch:=omega)only[Dq0,Aj,simprocAttr]
   try simp[h2]
 .simp(disch:=omega)only[Dq0,Aj,simprocAttr]
  try simp[h1]
def V4 (n:Nat) (h:n<64):S Mn 1 [.i .i64 (n:Int)]=some [.i .u64 (2 ^ n)]:=by
 refine Is4 (N:=1) rfl ?_;have hb:IntKind.u64.bits=64:=rfl;have h1:min n 64=n:=by omega
 have hp:(2:Int) ^ n<=18446744073709551615:=by
  have h2:(2 ^ n:Nat)<=2 ^ 63:=Nat.pow_le_pow_right (by decide) (by omega);have h3:((2:Int) ^ n)=((2 ^ n:Nat):Int):=by simp
  rw[h3];omega
 have hp0:(0:Int)<=2 ^ n:=Int.le_of_lt (Int.pow_pos (by decide));have h4:¬((n:Int)<0):=by omega
 simp(disch:=omega)only[Ic4,Bq6,hb,h1,h4,Int.one_mul,Aj,simprocAttr]
def Bs2 (r:Rec) (t:Int):S kv 2 [r.pv,.i .i64 t]=some [.b (Ac5 r t)]:=by
 refine Is2 (N:=1) rfl ?_;unfold Ac5;by_cases h1:0<=t
 .by_cases h2:t<=63
  .obtain⟨n,rfl⟩:∃n:Nat,t=(n:Int):=⟨t.toNat,by omega⟩;have h3:=Iy3 r.data.bits n (by omega);have hp0:(0:Int)<2 ^ n:=Int.pow_pos (by decide);simp(disch:=omega)only[Dj9,V4,Qh,h3,Aj,simprocAttr];by_cases h4:bit r.data.bits n=1
   .simp[h4];omega
   .simp[h4]
  .simp(disch:=omega)only[Dj9,Aj,simprocAttr]
   try simp[h2]
 .simp(disch:=omega)only[Dj9,Aj,simprocAttr]
  try simp[h1]
def fp (n top:List UInt8):Bool:=decide (n≠top) && under n top
def X9 (n top:List UInt8) (hn:n.length<=9223372036854775807) (ht:top.length<=9223372036854775807):S Gw1 2 [.s n,.s top]=some [.b (fp n top)]:=by
 refine Kb3 (N:=1) rfl ?_;unfold fp;by_cases h:n=top
 .simp(disch:=omega)only[Ib8,h,Aj,simprocAttr]
  try simp
 .simp(disch:=omega)only[Ib8,F9,h,Aj,simprocAttr]
  try simp
def mq (r:Rec):Bool:=Ac5 r 39||(Ac5 r 2 && !Ac5 r 6)
def Cj3 (r:Rec):S Bn4 1 [r.pv]=some [.b (mq r)]:=by refine Jy7 (N:=1) rfl ?_;unfold mq;rcases Bl (Ac5 r 39) with h1|h1<;>rcases Bl (Ac5 r 2) with h2|h2<;>rcases Bl (Ac5 r 6) with h3|h3<;>simp(disch:=omega)only[Ig4,Cd8,h1,h2,h3,Aj,simprocAttr]<;>rfl
def Nw (r:Rec) (zone name:List UInt8):Bool:=
 decide (r.typ=47) && under name zone && decide (0<J7 name r.name) && !(decide (r.data.host≠zone) && decide (0<=J7 name r.data.host)) && (!fp name r.name|| !mq r)
def Ab9 (r:Rec) (zone name:List UInt8) (hr:r.wf) (hz:zone.length<=9223372036854775807) (hn:name.length<=9223372036854775807):S Ec5 3 [r.pv,.s zone,.s name]=some [.b (Nw r zone name)]:=by
 refine Kb4 (N:=1) rfl ?_;have g1:=hr.name;have g2:=hr.data.host;unfold Mw at g1 g2;unfold Nw;by_cases h1:r.typ=47
 .rcases Bl (under name zone) with h2|h2
  .by_cases h3:0<J7 name r.name
   .by_cases h4:r.data.host=zone
    .rcases Bl (fp name r.name) with h6|h6<;>rcases Bl (mq r) with h7|h7<;>simp(disch:=omega)only[Cw7,F9,Kx,X9,Cj3,h1,h2,h4,h6,h7,Aj,simprocAttr]<;>simp[h3]
    .by_cases h5:0<=J7 name r.data.host
     .simp(disch:=omega)only[Cw7,F9,Kx,h1,h2,h4,Aj,simprocAttr]
      try simp[h4,h5]
     .rcases Bl (fp name r.name) with h6|h6<;>rcases Bl (mq r) with h7|h7<;>simp(disch:=omega)only[Cw7,F9,Kx,X9,Cj3,h1,h2,h4,h6,h7,Aj,simprocAttr]<;>simp[h3,h5]
   .simp(disch:=omega)only[Cw7,F9,Kx,h1,h2,Aj,simprocAttr]
    try simp[h3]
  .simp(disch:=omega)only[Cw7,F9,h1,h2,Aj,simprocAttr]
   try simp
 .simp(disch:=omega)only[Cw7,h1,Aj,simprocAttr]
  try simp
def Fq7 (a:List UInt8):J7 a a=0:=by
 rcases Bl (vld a) with h|h
 .rw[fb h h];unfold At2;have:∀l:List (List UInt8),Zl l l=none:=by
   intro l;induction l with
   |nil=>rfl
   |cons x xs ih=>simp[Zl,ih]
  rw[this];simp
 .unfold J7;simp[h,Ks]
def gk (r:Rec) (zone name:List UInt8) (hr:r.wf) (hz:zone.length<=9223372036854775807) (hn:name.length<=9223372036854775807):S z8 3 [r.pv,.s zone,.s name]=some [.b (Nw r zone name)]:=by
 refine Jj2 (N:=1) rfl ?_;have g1:=hr.name;have g2:=hr.data.host;unfold Mw at g1 g2;unfold Nw;by_cases h1:r.typ=47
 .rcases Bl (under name zone) with h2|h2
  .by_cases h3:0<J7 name r.name
   .have hne:name≠r.name:=fun e=>by rw[<-e,Fq7] at h3;omega
    have hbel:fp name r.name=under name r.name:=by simp[fp,hne]
    rw[hbel];unfold mq;by_cases h4:r.data.host=zone
    .rcases Bl (under name r.name) with h6|h6<;>rcases Bl (Ac5 r 39) with h7|h7<;>rcases Bl (Ac5 r 6) with h8|h8<;>rcases Bl (Ac5 r 2) with h9|h9<;>simp(disch:=omega)only[im,Gj,Ky,Bs2,h1,h2,h4,h6,h7,h8,h9,Aj,simprocAttr]<;>simp[h3]
    .by_cases h5:0<=J7 name r.data.host
     .simp(disch:=omega)only[im,Gj,Ky,h1,h2,h4,Aj,simprocAttr]
      try simp[h4,h5]
     .rcases Bl (under name r.name) with h6|h6<;>rcases Bl (Ac5 r 39) with h7|h7<;>rcases Bl (Ac5 r 6) with h8|h8<;>rcases Bl (Ac5 r 2) with h9|h9<;>simp(disch:=omega)only[im,Gj,Ky,Bs2,h1,h2,h4,h6,h7,h8,h9,Aj,simprocAttr]<;>simp[h3,h5]
   .simp(disch:=omega)only[im,Gj,Ky,h1,h2,Aj,simprocAttr]
    try simp[h3]
  .simp(disch:=omega)only[im,Gj,h1,h2,Aj,simprocAttr]
   try simp
 .simp(disch:=omega)only[im,h1,Aj,simprocAttr]
  try simp
def Nb (v:List UInt8):List (List UInt8)->Nat->Int
 |[],_=> -1
 |x::r,i=>if v=x then(i:Int) else Nb v r (i+1)
def Aw1 (v:List UInt8):∀(l:List (List UInt8)) (i:Nat),decide (0<=Nb v l i)=decide (v∈l)
 |[],i=>by simp[Nb]
 |x::r,i=>by
  simp only[Nb];by_cases h:v=x
  .simp[h]
  .simp only[if_neg h,Aw1 v r (i+1)];simp[h]
def Dp6 (l:List (List UInt8)) (v:List UInt8) (hl:l.length<=1000000):S Aq0 2 [Ch l,.s v]=some [.i .i64 (Nb v l 0)]:=by
 refine Gp3 (N:=l.length+1) rfl ?_;have key:Ap3.ev S (l.length+1) [Ch l,.s v]=some (if Nb v l 0= -1 then .yld 0 [] else .ret [.i .i64 (Nb v l 0)]):=by
  refine Et l (fun i=>[.i .i64 (i:Int)]) (fun i r=>if Nb v r i= -1 then .yld 0 [] else .ret [.i .i64 (Nb v r i)]) rfl (by omega) (fun i c r hd hi hc=> ?_) ?_
  .by_cases h:v=c
   .right;simp(disch:=omega)only[Sw,hc,h,Aj,simprocAttr];have:¬((i:Int)= -1):=by omega
    simp[Nb,this,Out.goes]
   .left;simp(disch:=omega)only[Sw,hc,h,Aj,simprocAttr]
    try simp[Nb,h]
  .simp(disch:=omega)only[Sw,Aj,simprocAttr]
   try simp[Nb,Out.goes]
 by_cases h:Nb v l 0= -1
 .rw[if_pos h] at key;simp(disch:=omega)only[Sw,key,h,Aj,simprocAttr]
 .rw[if_neg h] at key;simp(disch:=omega)only[Sw,key,Aj,simprocAttr]
def yc (l:List (List UInt8)) (v:List UInt8) (hl:l.length<=1000000):S gt 2 [Ch l,.s v]=some [.b (decide (v∈l))]:=by refine Ip0 (N:=1) rfl ?_;rw[<-Aw1 v l 0];simp(disch:=omega)only[Ib9,Dp6,Aj,simprocAttr]
end Go.X.G
