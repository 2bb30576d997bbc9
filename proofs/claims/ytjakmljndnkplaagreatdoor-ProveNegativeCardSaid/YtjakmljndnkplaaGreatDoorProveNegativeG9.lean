/- Names: what the reference's functions give. -/
import Derived.Test.YtjakmljndnkplaaGreatDoorProveNegativeG7
import Derived.Test.YtjakmljndnkplaaGreatDoorProveNegativeG8
open Bool renaming eq_false_or_eq_true->Bm,and_eq_true->Bp,or_eq_true->Ck,not_eq_true'->Cf,eq_iff_iff->D8,eq_false_iff->Ef,and_true->N2
open List renaming length_append->Bt,getElem?_eq_getElem->B0,mem_cons->Cj,mem_of_getElem?->Cq,append_assoc->Cv,length_cons->Cy,length_pos_iff->C1,length_nil->C3,take_append_drop->C7,getD_eq_getElem?_getD->Dv,getElem?_cons_zero->Db,nil_append->Dc,cons_append->Dl,drop_drop->D6,drop_eq_getElem_cons->D9,take_length->Eh,drop_zero->F6,flatMap_cons->Gj,isSuffixOf_iff_suffix->G6,mem_cons_self->Ic,cons_prefix_cons->J5,getLast_eq_getElem->Lf,append_cancel_right->T9,drop_eq_nil_of_le->gf,take_succ_cons->Ff3,reverse_prefix->Ff4,count_eq_zero->Ik7
open Nat renaming le_refl->B7,zero_le->Df
open Option renaming map_eq_some_iff->Bs,map_some->Cc
open Option.some renaming injEq->Bn
set_option maxHeartbeats 1000000
set_option linter.defProp false
set_option linter.unusedVariables false
set_option linter.unusedSimpArgs false
namespace Go.X.G
open Go Go.X
def Aj:=And.intro xe<|And.intro EVP EV
def bw (c:UInt8):Bool:=decide (97<=(c.toNat:Int)) && decide ((c.toNat:Int)<=122)||decide (48<=(c.toNat:Int)) && decide ((c.toNat:Int)<=57)||decide ((c.toNat:Int)=45)||decide ((c.toNat:Int)=95)
def Ox (s:List UInt8):Bool:=decide (s=[42])||(decide (1<=s.length) && decide (s.length<=63) && s.all bw)
def spl (first:Bool) (cur:List UInt8):List UInt8->Option (List (List UInt8))
 |[]=>some []
 |c::r=>if c=46 then(if Ox cur=true∧(cur=[42]->first=true) then(spl false [] r).map (cur::·) else none) else spl first (cur++[c]) r
def nm (n:List UInt8):Option (List (List UInt8)):=
 if n=[46] then some [] else if 2<=n.length∧n.length<=254∧n[n.length - 1]? =some 46 then spl true [] n else none
def lbl (n:List UInt8):List (List UInt8):=(nm n).getD []
def vld (n:List UInt8):Bool:=(nm n).isSome
def zc:∀(r:List UInt8) (f:Bool) (cur:List UInt8) (l:List (List UInt8)),spl f cur r=some l->l.length<=r.length
 |[],f,cur,l,h=>by simp[spl] at h;simp[<-h]
 |c::r,f,cur,l,h=>by
  simp only[spl] at h;split at h
  .split at h
   .obtain⟨m,hm,rfl⟩:=Bs.1 h;have:=zc r _ _ _ hm;simp;omega
   .cases h
  .have:=zc r _ _ _ h;simp;omega
def Hh0 {n:List UInt8} {l:List (List UInt8)} (h:nm n=some l):l.length<=254:=by
 unfold nm at h;split at h
 .injection h with h;subst h;simp
 .split at h
  .rename_i h2;have:=zc _ _ _ _ h;omega
  .cases h
def Nz (n:List UInt8):(lbl n).length<=254:=by
 unfold lbl;cases h:nm n with
 |none=>simp
 |some l=>exact Hh0 h
def Z2 {α:Type} [DecidableEq α]:List α->List α->Nat
 |x::xs,y::ys=>if x=y then Z2 xs ys+1 else 0
 |_,_=>0
def My (a b:List (List UInt8)):Nat:=Z2 a.reverse b.reverse
def Dl6 {α:Type} [DecidableEq α]:∀(a b:List α),Z2 a b<=a.length∧Z2 a b<=b.length
 |[],b=>by simp[Z2]
 |x::xs,[]=>by simp[Z2]
 |x::xs,y::ys=>by have:=Dl6 xs ys;simp only[Z2];split<;>simp<;>omega
def Ez8 (a b:List (List UInt8)):My a b<=a.length∧My a b<=b.length:=by have:=Dl6 a.reverse b.reverse;simpa [My] using this
def under (n top:List UInt8):Bool:=vld n && vld top && decide (My (lbl n) (lbl top)=(lbl top).length)
def cmpS (a b:List UInt8):Int:=if Op.bytesLess a b then -1 else if a=b then 0 else 1
def Ky (a b:List UInt8):Int:=
 if vld a && vld b then
  let k:=My (lbl a) (lbl b)
  if k<(lbl a).length∧k<(lbl b).length then cmpS ((lbl a).getD ((lbl a).length - 1 - k) []) ((lbl b).getD ((lbl b).length - 1 - k) [])
  else if(lbl a).length<(lbl b).length then -1 else if(lbl b).length<(lbl a).length then 1 else 0
 else if vld a then -1 else if vld b then 1 else cmpS a b
def Gd7 (x:List UInt8) (c:UInt8):S Ap3 2 [.s x,.i .u8 (c.toNat:Int)]=some [.i .i64 (x.count c:Int)]:=
 Hv2 (args:=[.s x,.i .u8 (c.toNat:Int)]) (by simp[XK.run,Bz3,Lib.countByte])
def Gx6 (x:List UInt8) (c:UInt8):S An7 2 [.s x,.i .u8 (c.toNat:Int)]=some [.i .i64 (Lib.indexByte x c)]:=
 Hq4 (args:=[.s x,.i .u8 (c.toNat:Int)]) (by simp[XK.run,Bz3])
def Gd8 (x y:List UInt8):S An6 2 [.s x,.s y]=some [.i .i64 (Lib.compareBytes x y)]:=
 Hq3 (args:=[.s x,.s y]) (by simp[XK.run,Ez9])
def T3 (x:List UInt8) (c:UInt8):S rt 2 [.s x,.i .u8 (c.toNat:Int)]=some [.i .i64 (Lib.indexByte x c)]:=by refine Hv5 (N:=1) rfl ?_;simp(disch:=omega)only[Gn7,Gx6,Aj,simprocAttr]
def xh (x:List UInt8) (c:UInt8):S Ar0 2 [.s x,.i .u8 (c.toNat:Int)]=some [.i .i64 (Lib.indexByte x c)]:=by refine Hx1 (N:=1) rfl ?_;simp(disch:=omega)only[Gp6,T3,Aj,simprocAttr]
def Q1 (c:UInt8):∀(x:List UInt8),c∉x->Lib.indexByte x c= -1
 |[],_=>rfl
 |b::l,h=>by have h1:b≠c:=fun e=>h (by simp[e]);have h2:=Q1 c l (fun e=>h (by simp[e]));simp[Lib.indexByte,h1,h2]
def Mq (c:UInt8) (post:List UInt8):∀(pre:List UInt8),c∉pre->Lib.indexByte (pre++c::post) c=(pre.length:Int)
 |[],_=>by simp[Lib.indexByte]
 |b::l,h=>by
  have h1:b≠c:=fun e=>h (by simp[e]);have h2:=Mq c post l (fun e=>h (by simp[e]));simp only[Dl,Lib.indexByte,h2];simp[h1]
  try omega
def dot_split (c:UInt8):∀(s:List UInt8),c∉s∨∃pre post,s=pre++c::post∧c∉pre
 |[]=> .inl (by simp)
 |b::l=>by
  by_cases h:b=c
  .exact .inr ⟨[],l,by simp[h],by simp⟩
  .rcases dot_split c l with h1|⟨pre,post,rfl,h2⟩
   .exact .inl (by simp[h1,Ne.symm h])
   .exact .inr ⟨b::pre,post,by simp,by simp[h2,Ne.symm h]⟩
def pcs (cur:List UInt8):List UInt8->List (List UInt8)
 |[]=>[cur]
 |c::r=>if c=46 then cur::pcs [] r else pcs (cur++[c]) r
def cut (s:List UInt8):List (List UInt8):=pcs [] s
def Dq1 (post:List UInt8):∀(pre cur:List UInt8),(46:UInt8)∉pre->pcs cur (pre++46::post)=(cur++pre)::pcs [] post
 |[],cur,_=>by simp[pcs]
 |b::l,cur,h=>by have h1:b≠46:=fun e=>h (by simp[e]);have h2:=Dq1 post l (cur++[b]) (fun e=>h (by simp[e]));simp[pcs,h1,h2]
def jy:∀(s cur:List UInt8),(46:UInt8)∉s->pcs cur s=[cur++s]
 |[],cur,_=>by simp[pcs]
 |b::l,cur,h=>by have h1:b≠46:=fun e=>h (by simp[e]);have h2:=jy l (cur++[b]) (fun e=>h (by simp[e]));simp[pcs,h1,h2]
def Dl5 (s:List UInt8):(cut s).length=s.count 46+1:=by
 have:∀(s cur:List UInt8),(pcs cur s).length=s.count 46+1:=by
  intro s
  induction s with
  |nil=>intro cur;rfl
  |cons c r ih=>
   intro cur;by_cases h:c=46<;>simp[pcs,h,ih]
 exact this s []
def Br0 (s:List UInt8) (hs:s.length<=9223372036854775807):S Ap2 2 [.s s,.s [46]]=some [.i .i64 (Lib.indexByte s 46)]:=by
 refine Hv1 (N:=1) rfl ?_;have h1:=T3 s 46;have e:(((46:UInt8).toNat:Nat):Int)=46:=rfl;rw[e] at h1;by_cases h:[46]=s
 .subst h;simp(disch:=omega)only[Fq6,Aj,simprocAttr];rfl
 .simp(disch:=omega)only[Fq6,h,h1,e,Aj,simprocAttr]
def xg (s:List UInt8) (hs:s.length<=9223372036854775807):S sn 2 [.s s,.s [46]]=some [.i .i64 (Lib.indexByte s 46)]:=by refine Hw2 (N:=1) rfl ?_;simp(disch:=omega)only[Gp0,Br0,Aj,simprocAttr]
def Ek7 (s:List UInt8):S Ap8 2 [.s s,.s [46]]=some [.i .i64 (s.count 46:Int)]:=by refine Hw3 (N:=1) rfl ?_;have h1:=Gd7 s 46;have e:(((46:UInt8).toNat:Nat):Int)=46:=rfl;rw[e] at h1;simp(disch:=omega)only[Gp1,h1,e,Aj,simprocAttr]
def Dg0 (done rest:List (List UInt8)):Out:=
 .yld 0 [.s ((done++rest).getLastD []),C8 ((done++rest).dropLast++[[]]),.i .i64 (((done++rest).length:Int) - 1)]
def Av0 (s:List UInt8) (N:Nat) (hN:s.length<N) (hs:s.length<=1000000) (p q:PV):
  Aq1.ev S N [.s s,.s [46],.i .i64 0,p,.i .i64 ((s.count 46:Int)+1)]=some (Dg0 [] (cut s)):=by
 have hc0:s.count 46<=s.length:=List.count_le_length;have key:=Lj (fn:=S) (N:=N) (J:=[.s s,.s [46],.i .i64 0,p,.i .i64 ((s.count 46:Int)+1)]) (id:=1) (init:=[(.v 0),(.rep 1 (.mn (.v 4) (.bin .add (.slen (.v 0)) (.c (.i .i64 (1))))) (.c (.s []))),(.c (.i .i64 (0)))]) (body:=Ac4) (α:=List (List UInt8)×List UInt8)
  (fun a=>[.s a.2,C8 (a.1++List.replicate (a.2.count 46+1) []),.i .i64 (a.1.length:Int)]) (fun a=>Dg0 a.1 (cut a.2)) (fun a=>a.1.length+a.2.count 46=s.count 46∧a.2.length<=s.length) (fun a=>a.2.length) ([],s) ?_ ⟨by simp,B7 _⟩ hN ?_
 .simpa [Aq1] using key
 .have e:((s.count 46:Int)+1).toNat=s.count 46+1:=by omega
  simp(disch:=omega)only[e,Aj,simprocAttr]
 .rintro⟨done,rest⟩ ⟨h1,h2⟩;simp only at h1 h2 ⊢;rcases dot_split 46 rest with h|⟨pre,post,rfl,h⟩
  .right;have c0:rest.count 46=0:=Ik7.2 h;have i0:=Q1 46 rest h;have cu:cut rest=[rest]:=by simpa [cut] using jy rest [] h
   refine⟨?_,rfl⟩;rw[c0];rw[c0] at h1;simp(disch:=omega)only[Ck3,xg,i0,Aj,simprocAttr];simp[Dg0,cu,List.getLastD_eq_getLast?]
  .left;have c0:(pre++46::post).count 46=post.count 46+1:=by rw[List.count_append,Ik7.2 h];simp
   have i0:=Mq 46 post pre h;have cu:cut (pre++46::post)=pre::cut post:=by simpa [cut] using Dq1 post pre [] h
   have hl:(pre++46::post).length=pre.length+post.length+1:=by simp;omega
   have sl1:List.drop (0:Int).toNat (List.take ((pre.length:Int)+0).toNat (pre++46::post))=pre:=by simp
   have sl2:List.drop ((pre.length:Int)+1).toNat (List.take (pre++46::post).length (pre++46::post))=post:=by
    have:((pre.length:Int)+1).toNat=pre.length+1:=by omega
    rw[this,Eh,List.drop_append];simp
   have sl3:(done++[]::[]::List.replicate (post.count 46) ([]:List UInt8)).length=done.length+post.count 46+2:=by simp;omega
   refine⟨(done++[pre],post),?_,⟨by simp;omega,by simp only;omega⟩,by simp;omega,by simp[Dg0,cu]⟩;rw[c0];rw[c0] at h1;simp(disch:=omega)only[Ck3,xg,i0,sl1,sl2,Aj,simprocAttr];simp[List.replicate_succ,List.set_append]
def Aq9 (s:List UInt8) (hs:s.length<=1000000):S Ar8 4 [.s s,.s [46],.i .i64 0,.i .i64 (-1)]=some [C8 (cut s)]:=by
 refine Hz0 (N:=s.length+1) rfl ?_;have h1:=Dl5 s;have h2:s.count 46<=s.length:=List.count_le_length;obtain⟨l,x,hx⟩:∃l x,cut s=l++[x]:=⟨(cut s).dropLast,(cut s).getLast (by intro e;simp[e] at h1),(List.dropLast_concat_getLast _).symm⟩;have h3:l.length=s.count 46:=by rw[hx] at h1;simpa using h1
 have h4:((l.length:Int)+1 - 1)=(l.length:Int):=by omega
 have h5:((l++[([]:List UInt8)]).length:Int)=l.length+1:=by simp
 have h6:((l++[x]).length:Int)=l.length+1:=by simp
 have g1:(l++[([]:List UInt8)])[l.length]? =some []:=by simp
 have g2:(l++[x]).getLastD []=x:=by simp[List.getLastD_eq_getLast?]
 have g3:(l++[([]:List UInt8)]).set l.length x=l++[x]:=by simp
 have hk:=Av0 s (s.length+1) (by omega) hs (.i .i64 (-1)) .u;rw[hx] at hk ⊢;simp only[Dg0,Dc,List.dropLast_concat] at hk;simp(disch:=omega)only[Ck3,Ek7,hk,h4,h6,g1,g2,g3,Aj,simprocAttr];have g4:((l.length:Int)+1).toNat=(l++[x]).length:=by simp
 rw[g4,Eh];rfl
def xy (s:List UInt8) (hs:s.length<=1000000):S Dv4 2 [.s s,.s [46]]=some [C8 (cut s)]:=by refine Iz5 (N:=1) rfl ?_;simp(disch:=omega)only[Iq1,Aq9,Aj,simprocAttr]
def T4 (s t:List UInt8) (hs:s.length<=9223372036854775807):S tz 2 [.s s,.s t]=some [.b (t.isSuffixOf s)]:=by
 refine Hz1 (N:=1) rfl ?_;by_cases h:t.length<=s.length
 .have e:((s.length:Int) - (t.length:Int)).toNat=s.length - t.length:=by omega
  simp(disch:=omega)only[Fv2,e,Aj,simprocAttr];simp only[Eh];congr 4;rw[D8,G6,decide_eq_true_eq];refine⟨fun h=>h▸List.drop_suffix _ _,fun h=> ?_⟩;obtain⟨p,rfl⟩:=h;simp
 .have h2:t.isSuffixOf s=false:=by rw[Ef,ne_eq,G6];exact fun h'=>h h'.length_le
  simp(disch:=omega)only[Fv2,h2,Aj,simprocAttr]
def Ps (s t:List UInt8) (hs:s.length<=9223372036854775807):S Dv5 2 [.s s,.s t]=some [.b (t.isSuffixOf s)]:=by refine Iz6 (N:=1) rfl ?_;simp(disch:=omega)only[Iq2,T4,Aj,simprocAttr]
def Ad6 (x y:List UInt8):S Ap4 2 [.s x,.s y]=some [.i .i64 (Lib.compareBytes x y)]:=by refine Hv3 (N:=1) rfl ?_;simp(disch:=omega)only[Gn5,Gd8,Aj,simprocAttr]
def Ad3 (x y:List UInt8):S Yn 2 [.s x,.s y]=some [.i .i64 (Lib.compareBytes x y)]:=by refine Hw6 (N:=1) rfl ?_;simp(disch:=omega)only[Gp3,Ad6,Aj,simprocAttr]
def flat (l:List (List UInt8)):List UInt8:=l.flatMap fun x=>x++[46]
def jn (l:List (List UInt8)):List UInt8:=if l=[] then [46] else flat l
def G9 (first:Bool):List (List UInt8)->Bool
 |[]=>true
 |p::r=>Ox p && (!decide (p=[42])||first) && G9 false r
def Gx2:bw 46=false:=by decide
def Pj {p:List UInt8} (h:Ox p=true):(46:UInt8)∉p:=by
 unfold Ox at h;simp at h;rcases h with rfl|⟨_,h⟩
 .decide
 .intro h2;have:=h 46 h2;rw[Gx2] at this;cases this
def Bj4 {p:List UInt8} (h:Ox p=true):p≠[]:=by rintro rfl;simp[Ox] at h
def Kk {p:List UInt8}:∀{f:Bool} {l:List (List UInt8)},G9 f l=true->p∈l->Ox p=true
 |f,q::r,h,hp=>by
  simp only[G9,Bp] at h;rcases Cj.1 hp with rfl|hp
  .exact h.1.1
  .exact Kk h.2 hp
def Bh5:∀{l:List (List UInt8)},G9 false l=true->G9 true l=true
 |[],_=>rfl
 |p::r,h=>by simp only[G9,Bp] at h ⊢;exact⟨⟨h.1.1,by simp⟩,h.2⟩
def Mc:∀{f:Bool} {a b:List (List UInt8)},G9 f (a++b)=(G9 f a && G9 (f && a.isEmpty) b)
 |f,[],b=>by simp[G9]
 |f,p::r,b=>by simp only[Dl,G9,Mc (a:=r)];simp[Bool.and_assoc]
def Bh6 {f:Bool} {l:List (List UInt8)} (h:G9 f l=true) (k:Nat):G9 f (l.drop k)=true:=by
 rw[<-C7 k l,Mc,Bp] at h;have h2:=h.2;cases f with
 |false=>simpa using h2
 |true=>
  cases he:(l.take k).isEmpty with
  |true=>rw[he] at h2;exact h2
  |false=>rw[he] at h2;exact Bh5 h2
def X5:∀(m:List UInt8) (f:Bool) (cur:List UInt8),spl f cur (m++[46])=if G9 f (pcs cur m)=true then some (pcs cur m) else none
 |[],f,cur=>by simp only[Dc,spl,if_true,pcs,G9,Cc,N2];by_cases h:Ox cur=true<;>by_cases h2:cur=[42]<;>cases f<;>simp[h,h2]
 |c::r,f,cur=>by
  simp only[Dl,spl,pcs];by_cases hc:c=46
  .simp only[if_pos hc];rw[X5 r false []];simp only[G9];by_cases h:Ox cur=true<;>by_cases h2:cur=[42]<;>cases f<;>by_cases h3:G9 false (pcs [] r)=true<;>simp[h,h2,h3]
  .simp only[if_neg hc];exact X5 r f (cur++[c])
def Yz (b:List UInt8):∀(a cur:List UInt8),pcs cur (a++46::b)=pcs cur a++cut b
 |[],cur=>by simp[pcs,cut]
 |c::r,cur=>by
  simp only[Dl,pcs];split
  .rw[Yz b r []];rfl
  .exact Yz b r _
def Xj:∀(m cur:List UInt8),flat (pcs cur m)=cur++m++[46]
 |[],cur=>by simp[pcs,flat]
 |c::r,cur=>by
  simp only[pcs];split
  .rename_i h;have:=Xj r [];simp only[flat,Gj] at this ⊢;rw[this,h];simp
  .rw[Xj r (cur++[c])];simp
def Ng (a b:List (List UInt8)):flat (a++b)=flat a++flat b:=by simp[flat]
def Hf3 (cur m:List UInt8):pcs cur m≠[]:=by
 cases m with
 |nil=>simp[pcs]
 |cons c r=>
  simp only[pcs];split
  .simp
  .intro h;have:=Xj r (cur++[c]);rw[h] at this;simp[flat] at this
def Xv:∀(l:List (List UInt8)),(∀p∈l,(46:UInt8)∉p)->cut (flat l)=l++[[]]
 |[],_=>rfl
 |p::l,h=>by
  have h1:flat (p::l)=p++46::flat l:=by simp[flat]
  rw[h1];show pcs [] _=_;rw[Yz,jy p [] (h p (by simp)),Xv l (fun q hq=>h q (by simp[hq]))];simp
def Md:∀(l:List (List UInt8)),l≠[]->∃m,flat l=m++[46]
 |[p],_=>⟨p,by simp[flat]⟩
 |p::q::r,_=>by obtain⟨m,hm⟩:=Md (q::r) (by simp);exact⟨p++[46]++m,by simp only[flat,Gj] at hm ⊢;rw[hm];simp⟩
def Bk5 {l:List (List UInt8)} (hl:l≠[]) (h:∀p∈l,(46:UInt8)∉p) {m:List UInt8} (hm:flat l=m++[46]):cut m=l:=by
 have h1:=Xv l h;rw[hm] at h1;have h2:cut (m++[46])=cut m++[[]]:=by show pcs [] (m++46::[])=_;rw[Yz];rfl
 rw[h2] at h1;exact T9 h1
def H8 {l:List (List UInt8)} (h:G9 true l=true) (hl:l≠[]):2<=(flat l).length:=by
 cases l with
 |nil=>exact absurd rfl hl
 |cons p r=>
  have h1:=Bj4 (Kk h (Ic ..));have:0<p.length:=C1.2 h1;simp[flat];omega
def Gq9 {l:List (List UInt8)} (h:G9 true l=true) (hl:l≠[]) (hlen:(flat l).length<=254):nm (flat l)=some l:=by obtain⟨m,hm⟩:=Md l hl;have h1:=Bk5 hl (fun p hp=>Pj (Kk h hp)) hm;have h2:=H8 h hl;unfold nm;rw[if_neg (by intro e;rw[e] at h2;simp at h2),if_pos ⟨h2,hlen,by rw[hm];simp⟩,hm,X5];have:pcs [] m=l:=h1;rw[this,if_pos h]
def Gq8 {n:List UInt8} {l:List (List UInt8)} (h:nm n=some l):(n=[46]∧l=[])∨(l≠[]∧G9 true l=true∧n=flat l∧n.length<=254):=by
 unfold nm at h;split at h
 .rename_i e;injection h with h;exact .inl ⟨e,h.symm⟩
 .split at h
  .rename_i h1;right;obtain⟨h2,h3,h4⟩:=h1;obtain⟨m,hm⟩:∃m,n=m++[46]:=by
    refine⟨n.dropLast,?_⟩;have:n≠[]:=by intro e;simp[e] at h2
    have h5:=List.dropLast_concat_getLast this;rw[<-h5];congr 1
    .simp
    .have h6:n[n.length - 1]? =some (n.getLast this):=by rw[Lf];exact B0 _
     rw[h6] at h4;injection h4 with h4;simp[h4]
   rw[hm,X5] at h;split at h
   .rename_i h5;injection h with h;subst h;refine⟨Hf3 _ _,h5,?_,by omega⟩;rw[Xj,hm];simp
   .cases h
  .cases h
def Fg6 {n:List UInt8}:vld n=true↔nm n=some (lbl n):=by unfold vld lbl;cases nm n<;>simp
def vld_cases {n:List UInt8} (h:vld n=true):(n=[46]∧lbl n=[])∨(lbl n≠[]∧G9 true (lbl n)=true∧n=flat (lbl n)∧n.length<=254):=Gq8 (Fg6.1 h)
def M4 {n:List UInt8} (h:vld n=true):G9 true (lbl n)=true:=by
 rcases vld_cases h with⟨_,h⟩|⟨_,h,_⟩
 .rw[h];rfl
 .exact h
def Ol {n:List UInt8} (h:vld n=true):n=jn (lbl n):=by
 unfold jn;rcases vld_cases h with⟨h1,h2⟩|⟨h1,_,h2,_⟩
 .rw[h2,if_pos rfl];exact h1
 .rw[if_neg h1];exact h2
def H4 {n:List UInt8} (h:vld n=true):n.length<=254:=by
 rcases vld_cases h with⟨h1,_⟩|⟨_,_,_,h⟩
 .simp[h1]
 .exact h
def Jz:lbl [46]=[]:=rfl
def vg {l:List (List UInt8)} (h:G9 true l=true) (hl:l≠[]):flat l≠[46]:=by intro e;have:=H8 h hl;rw[e] at this;simp at this
def Y6 {n:List UInt8} (h:vld n=true):lbl n=[]↔n=[46]:=by
 rcases vld_cases h with⟨h1,h2⟩|⟨h1,h2,h3,_⟩
 .simp[h1,Jz]
 .constructor
  .intro e;exact absurd e h1
  .intro e;rw[h3] at e;exact absurd e (vg h2 h1)
def Cq0 {l:List (List UInt8)} (h:G9 true l=true) (hlen:(flat l).length<=254):vld (jn l)=true∧lbl (jn l)=l:=by
 unfold jn;by_cases hl:l=[]
 .subst hl;exact⟨rfl,rfl⟩
 .rw[if_neg hl];have:=Gq9 h hl hlen;exact⟨by simp[vld,this],by simp[lbl,this]⟩
def Nb {a b:List UInt8} (ha:vld a=true) (hb:vld b=true) (h:lbl a=lbl b):a=b:=by rw[Ol ha,Ol hb,h]
def kg (l:List (List UInt8)) (k:Nat):(flat (l.drop k)).length<=(flat l).length:=by
 have:flat l=flat (l.take k)++flat (l.drop k):=by rw[<-Ng,C7]
 rw[this,Bt];omega
def Ll {n:List UInt8} (h:vld n=true) (k:Nat):vld (jn ((lbl n).drop k))=true∧lbl (jn ((lbl n).drop k))=(lbl n).drop k:=by
 refine Cq0 (Bh6 (M4 h) k) ?_;rcases vld_cases h with⟨_,h1⟩|⟨_,_,h1,h2⟩
 .rw[h1];simp[flat]
 .have:=kg (lbl n) k;rw[<-h1] at this;omega
def R8 {n:List UInt8} (h:vld n=true):0<n.length:=by
 rcases vld_cases h with⟨h1,_⟩|⟨h1,h2,h3,_⟩
 .simp[h1]
 .have:=H8 h2 h1;rw[h3];omega
def ord (s:List UInt8):Bool:=decide (1<=s.length) && decide (s.length<=63) && s.all bw
def Y9 (s:List UInt8):Ox s=(decide (s=[42])||ord s):=rfl
def Ed6:ord [42]=false:=by decide
def Aj2 (s:List UInt8) (N:Nat) (hN:s.length<N) (hs:s.length<=9223372036854775807):
  Fy0.ev S N [.s s]=some (if s.all bw=true then .yld 0 [] else .ret [.b false]):=by
 refine Gx s (fun i=>[.i .i64 (i:Int)]) (fun i r=>if r.all bw=true then .yld 0 [] else .ret [.b false]) rfl hN (fun i c r hd hi hc=> ?_) ?_
 .have key:Dt2.ev S N ([.s s]++[.i .i64 (i:Int)])=some (if bw c=true then .yld 1 [.i .i64 ((i:Int)+1)] else .ret [.b false]):=by
   simp(disch:=omega)only[Bt7,hc,Aj,simprocAttr];unfold bw
   grind
  rw[key];rcases Bm (bw c) with h|h<;>simp[h,Out.goes]
 .simp(disch:=omega) [Bt7,xe,EVP,EV,simprocAttr,Out.goes]
def Nk (s:List UInt8) (hs:s.length<=9223372036854775807):S Eg2 1 [.s s]=some [.b (ord s)]:=by
 refine Iz4 (N:=s.length+1) rfl ?_;unfold ord;by_cases h1:s=[]
 .subst h1;simp(disch:=omega) [Bt7,Aj,simprocAttr]
 .have h2:1<=s.length:=C1.2 h1;by_cases h3:s.length<=63
  .simp(disch:=omega)only[Bt7,Aj2,h1,Aj,simprocAttr];cases s.all bw<;>simp[h2,h3]
  .simp(disch:=omega)only[Bt7,h1,Aj,simprocAttr];simp[h3]
def okP (i:Nat) (p:List UInt8):Bool:=ord p||(decide (i=0) && decide (p=[42]))
def Ef6:Nat->List (List UInt8)->Bool
 |_,[]=>true
 |i,p::r=>okP i p && Ef6 (i+1) r
def rq:∀(l:List (List UInt8)) (i:Nat),Ef6 i l=G9 (decide (i=0)) l
 |[],_=>rfl
 |p::r,i=>by
  have h1:=rq r (i+1);simp only[Ef6,G9,h1,okP,Y9];by_cases h2:p=[42]
  .subst h2;by_cases h3:i=0<;>simp[Ed6,h3]
  .simp[h2]
def Ej6 (p q:PV) (l:List (List UInt8)) (hl:l.length<=1000000) (hw:∀x∈l,x.length<=9223372036854775807) (N:Nat) (hN:l.length<N):
  Fz6.ev S N [p,q,C8 l]=some (if Ef6 0 l=true then .yld 0 [] else .ret [.b false]):=by
 refine Gx l (fun i=>[.i .i64 (i:Int)]) (fun i r=>if Ef6 i r=true then .yld 0 [] else .ret [.b false]) rfl hN (fun i c r hd hi hc=> ?_) ?_
 .have hcw:=hw c (Cq hc);have key:Dt4.ev S N ([p,q,C8 l]++[.i .i64 (i:Int)])=some (if okP i c=true then .yld 1 [.i .i64 ((i:Int)+1)] else .ret [.b false]):=by
   rcases Bm (ord c) with h1|h1
   .simp(disch:=omega)only[ij,Nk,hc,h1,Aj,simprocAttr];simp[okP,h1]
   .by_cases h2:i=0
    .subst h2;by_cases h3:c=[42]
     .subst h3;simp(disch:=omega)only[ij,Nk,hc,h1,Aj,simprocAttr];simp[okP]
     .simp(disch:=omega)only[ij,Nk,hc,h1,h3,Aj,simprocAttr];simp[okP,h1,h3]
    .simp(disch:=omega)only[ij,Nk,hc,h1,Aj,simprocAttr];simp[okP,h1,h2]
  rw[key];rcases Bm (okP i c) with h|h<;>simp[h,Ef6,Out.goes]
 .simp(disch:=omega)only[ij,Aj,simprocAttr];simp[Out.goes,Ef6]
def jz:∀(m cur:List UInt8) (x:List UInt8),x∈pcs cur m->x.length<=cur.length+m.length
 |[],cur,x,h=>by simp[pcs] at h;subst h;simp
 |c::r,cur,x,h=>by
  simp only[pcs] at h;split at h
  .rcases Cj.1 h with rfl|h
   .omega
   .have:=jz r [] x h;simp at this ⊢;omega
  .have:=jz r _ x h;simp at this ⊢;omega
def Et3 (m x:List UInt8) (h:x∈cut m):x.length<=m.length:=by simpa using jz m [] x h
def Hr4 (m:List UInt8):(cut m).length<=m.length+1:=by have:=Dl5 m;have:m.count 46<=m.length:=List.count_le_length;omega
def Cd3 (n:List UInt8):([46]:List UInt8).isSuffixOf n=true↔∃m,n=m++[46]:=by rw[G6];exact⟨fun⟨m,h⟩=>⟨m,h.symm⟩,fun⟨m,h⟩=>⟨m,h.symm⟩⟩
def Ew8 (m:List UInt8) (hm:m≠[]) (hl:m.length<=253):vld (m++[46])=Ef6 0 (cut m):=by have h1:m++[46]≠[46]:=fun e=>hm (T9 (bs:=[46]) (by simpa using e));have h2:0<m.length:=C1.2 hm;unfold vld nm;rw[if_neg h1,if_pos ⟨by simp;omega,by simp;omega,by simp⟩,X5,rq];have e:pcs [] m=cut m:=rfl;have e2:G9 (decide ((0:Nat)=0)) (cut m)=G9 true (cut m):=rfl;rw[e,e2];cases G9 true (cut m)<;>rfl
def En2 (m:List UInt8) (h:vld (m++[46])=true) (hm:m≠[]):lbl (m++[46])=cut m:=by
 rcases vld_cases h with⟨h1,_⟩|⟨h1,h2,h3,_⟩
 .exact absurd (T9 (bs:=[46]) (by simpa using h1)) hm
 .exact(Bk5 h1 (fun p hp=>Pj (Kk h2 hp)) h3.symm).symm
def Dx (n:List UInt8) (hn:n.length<=9223372036854775807):S Mj 1 [.s n]=some [.b (vld n)]:=by
 refine If2 (N:=300) rfl ?_;by_cases h0:n=[46]
 .subst h0;simp(disch:=omega)only[ij,Aj,simprocAttr];rfl
 .by_cases h1:255<=n.length
  .have hv:vld n=false:=by rw[Ef];intro h;have:=H4 h;omega
   simp(disch:=omega)only[ij,h0,hv,Aj,simprocAttr]
  .rcases Bm (([46]:List UInt8).isSuffixOf n) with h2|h2
   .obtain⟨m,rfl⟩:=(Cd3 n).1 h2;have hm:m≠[]:=fun e=>h0 (by simp[e]);have hl:(m++[46]).length=m.length+1:=by simp
    have hml:m.length<=1000000:=by omega
    have e:List.drop 0 (List.take (((m++[46]).length:Int) - 1).toNat (m++[46]))=m:=by
     have:(((m++[46]).length:Int) - 1).toNat=m.length:=by omega
     rw[this];simp
    have hc:=Hr4 m;have hv:=Ew8 m hm (by omega);have hk:=Ej6 (.s (m++[46])) (.b true) (cut m) (by omega) (fun x hx=>by have:=Et3 m x hx;omega) 300 (by omega);simp(disch:=omega)only[ij,Ps,xy,e,hk,h0,h2,Aj,simprocAttr];rw[hv];cases Ef6 0 (cut m)<;>simp
   .have hv:vld n=false:=by
     rw[Ef];intro h;rcases vld_cases h with⟨h3,_⟩|⟨h3,_,h5,_⟩
     .exact h0 h3
     .obtain⟨m,hm⟩:=Md _ h3;have:=(Cd3 n).2 ⟨m,h5.trans hm⟩;rw[h2] at this;cases this
    simp(disch:=omega)only[ij,Ps,h0,h2,hv,Aj,simprocAttr]
def Vb (n:List UInt8) (hn:n.length<=9223372036854775807):S dt 1 [.s n]=some [C8 (lbl n)]:=by
 refine Hw5 (N:=1) rfl ?_;by_cases h0:n=[46]
 .subst h0;simp(disch:=omega)only[Cj6,Jz,Aj,simprocAttr]
 .rcases Bm (vld n) with h1|h1
  .obtain⟨m,hm,rfl⟩:∃m,m≠[]∧n=m++[46]:=by
    rcases vld_cases h1 with⟨h3,_⟩|⟨h3,_,h5,_⟩
    .exact absurd h3 h0
    .obtain⟨m,hm⟩:=Md _ h3;exact⟨m,fun e=>h0 (by rw[h5,hm,e];rfl),h5.trans hm⟩
   have hl:(m++[46]).length=m.length+1:=by simp
   have e:List.drop 0 (List.take (((m++[46]).length:Int) - 1).toNat (m++[46]))=m:=by
    have:(((m++[46]).length:Int) - 1).toNat=m.length:=by omega
    rw[this];simp
   have hl2:=H4 h1;have e2:=En2 m h1 hm;simp(disch:=omega)only[Cj6,Dx,xy,e,e2,h0,h1,Aj,simprocAttr]
  .have e:lbl n=[]:=by
    unfold lbl;unfold vld at h1;cases h:nm n with
    |none=>rfl
    |some l=>rw[h] at h1;cases h1
   simp(disch:=omega)only[Cj6,Dx,h0,h1,e,Aj,simprocAttr]
def Lk (p:List UInt8) (l:List (List UInt8)):flat (p::l)=p++46::flat l:=by simp[flat]
def Ur (n:List UInt8):List UInt8:=if vld n=true∧n≠[46] then jn ((lbl n).drop 1) else []
def Bj7 (n:List UInt8):Bool:=vld n && !decide (n=[46])
def Qm (n:List UInt8) (hn:n.length<=9223372036854775807):S Yr 1 [.s n]=some [.s (Ur n),.b (Bj7 n)]:=by
 refine Hb5 (N:=1) rfl ?_;unfold Ur Bj7;by_cases h0:n=[46]
 .subst h0;simp(disch:=omega)only[Ag3,Aj,simprocAttr];simp
 .rcases Bm (vld n) with h1|h1
  .rcases vld_cases h1 with⟨h3,_⟩|⟨h3,h4,h5,h6⟩
   .exact absurd h3 h0
   .cases hl:lbl n with
    |nil=>exact absurd hl h3
    |cons p r=>
     rw[hl] at h4 h5;have hp:=Pj (Kk h4 (Ic ..));have hi:=xh n 46;have hc:(((46:UInt8).toNat:Nat):Int)=46:=rfl;have hx:Lib.indexByte n 46=(p.length:Int):=by rw[h5,Lk];exact Mq 46 _ p hp
     rw[hc,hx] at hi;have hlen:n.length=p.length+1+(flat r).length:=by rw[h5,Lk];simp;omega
     have e:List.drop ((p.length:Int)+1).toNat (List.take n.length n)=flat r:=by
      have:((p.length:Int)+1).toNat=p.length+1:=by omega
      rw[this,Eh,h5,Lk];simp
     by_cases h7:r=[]
     .subst h7;have e2:flat []=[]:=rfl;simp(disch:=omega)only[Ag3,Dx,hi,e,e2,h0,h1,Aj,simprocAttr];simp[jn]
     .have e2:¬flat r=[]:=by obtain⟨m,hm⟩:=Md r h7;rw[hm];simp
      simp(disch:=omega)only[Ag3,Dx,hi,e,e2,h0,h1,Aj,simprocAttr];simp[jn,h7]
  .simp(disch:=omega)only[Ag3,Dx,h0,h1,Aj,simprocAttr];simp
def Av7 (n top:List UInt8):Bool:=(decide (top=[46])||decide (n=top))||(46::top).isSuffixOf n
def lj (n top:List UInt8) (hn:n.length<=9223372036854775807) (ht:top.length<=1000000):S d8 2 [.s n,.s top]=some [.b (Av7 n top)]:=by
 refine Hc3 (N:=1) rfl ?_;unfold Av7;have h0:([46]:List UInt8).length=1:=rfl;by_cases h1:top=[46]<;>by_cases h2:n=top<;>simp(disch:=omega)only[Gr7,Ps,h1,h2,Aj,simprocAttr]
 all_goals simp
def Av3 {a b:List (List UInt8)} (ha:G9 true a=true) (hb:G9 true b=true) (h:(46::flat b)<:+flat a):b<:+a:=by obtain⟨p,hp⟩:=h;have h1:=Xv a (fun x hx=>Pj (Kk ha hx));have h2:=Xv b (fun x hx=>Pj (Kk hb hx));rw[<-hp] at h1;have h3:cut (p++46::flat b)=cut p++cut (flat b):=Yz (flat b) p [];rw[h3,h2,<-Cv] at h1;exact⟨cut p,T9 h1⟩
def Bk4 {n top:List UInt8} (hn:vld n=true) (ht:vld top=true):Av7 n top=true↔lbl top<:+lbl n:=by
 unfold Av7;simp only[Ck,decide_eq_true_eq,G6];constructor
 .rintro ((rfl|rfl)|h)
  .rw[Jz];exact List.nil_suffix
  .exact List.suffix_refl _
  .rcases vld_cases ht with⟨h1,h2⟩|⟨h1,h2,h3,_⟩
   .rw[h2];exact List.nil_suffix
   .rcases vld_cases hn with⟨h5,_⟩|⟨h5,h6,h7,_⟩
    .rw[h5] at h;have h9:=h.length_le;have h8:=H8 h2 h1;rw[<-h3] at h8;simp only[Cy,C3] at h9;omega
    .rw[h3,h7] at h;exact Av3 h6 h2 h
 .intro h;obtain⟨p,hp⟩:=h;rcases vld_cases ht with⟨h1,h2⟩|⟨h1,h2,h3,_⟩
  .exact .inl (.inl h1)
  .by_cases hp0:p=[]
   .left;right;subst hp0;exact Nb hn ht hp.symm
   .right;rcases vld_cases hn with⟨_,h5⟩|⟨h5,h6,h7,_⟩
    .rw[h5] at hp;exact absurd (List.append_eq_nil_iff.1 hp).1 hp0
    .obtain⟨m,hm⟩:=Md p hp0;rw[h7,<-hp,Ng,hm];exact⟨m,by rw[Cv,<-h3];simp⟩
def Z1 {α:Type} [DecidableEq α]:∀(a b:List α),Z2 a b=b.length↔b<+:a
 |[],[]=>by simp[Z2]
 |[],y::ys=>by simp[Z2]
 |x::xs,[]=>by simp[Z2]
 |x::xs,y::ys=>by
  have:=Z1 xs ys;simp only[Z2];split
  .rename_i h;subst h;simp[this,J5]
  .rename_i h;simp[J5,Ne.symm h]
def qk (a b:List (List UInt8)):My a b=b.length↔b<:+a:=by unfold My;have:=Z1 a.reverse b.reverse;rw[List.length_reverse] at this;rw[this,Ff4]
def Ct {n top:List UInt8}:under n top=true↔vld n=true∧vld top=true∧lbl top<:+lbl n:=by unfold under;simp[qk,and_assoc]
def c9 {n top:List UInt8} (hn:vld n=true) (ht:vld top=true):Av7 n top=under n top:=by rw[D8,Bk4 hn ht,Ct];simp[hn,ht]
def Fl (n top:List UInt8) (hn:n.length<=9223372036854775807) (ht:top.length<=9223372036854775807):S Ow 2 [.s n,.s top]=some [.b (under n top)]:=by
 refine Id4 (N:=1) rfl ?_;rcases Bm (vld n) with h1|h1
 .rcases Bm (vld top) with h2|h2
  .have h3:=H4 h2;simp(disch:=omega)only[Fg1,Dx,lj,h1,h2,Aj,simprocAttr];rw[c9 h1 h2]
  .have h3:under n top=false:=by simp[under,h2]
   simp(disch:=omega)only[Fg1,Dx,h1,h2,h3,Aj,simprocAttr]
 .have h3:under n top=false:=by simp[under,h1]
  simp(disch:=omega)only[Fg1,Dx,h1,h3,Aj,simprocAttr]
def V9:∀(a:List UInt8),Op.bytesLess a a=false
 |[]=>rfl
 |a::x=>by simp[Op.bytesLess,V9 x]
def Pf:∀(a b:List UInt8),Lib.compareBytes a b=cmpS a b
 |[],[]=>rfl
 |[],_::_=>rfl
 |_::_,[]=>rfl
 |a::x,b::y=>by
  have ih:=Pf x y;unfold cmpS at ih ⊢;simp only[Lib.compareBytes,Op.bytesLess,ih];by_cases h1:a<b
  .simp[h1]
  .by_cases h2:b<a
   .have h3:a≠b:=fun e=>by subst e;exact h1 h2
    simp[h1,h2,h3]
   .have h3:a=b:=UInt8.le_antisymm (UInt8.not_lt.1 h2) (UInt8.not_lt.1 h1);subst h3;simp[h1]
def Lv {a b:List UInt8}:cmpS a b=0↔a=b:=by
 unfold cmpS;by_cases h:a=b
 .subst h;simp[V9]
 .cases h2:Op.bytesLess a b<;>simp[h]
def Nr (x y:List UInt8):S Yn 2 [.s x,.s y]=some [.i .i64 (cmpS x y)]:=by rw[Ad3,Pf]
def ab:List (List UInt8)->List (List UInt8)->Option Int
 |x::xs,y::ys=>if x=y then ab xs ys else some (cmpS x y)
 |_,_=>none
def Dm0:∀(a b:List (List UInt8)),ab a b=if Z2 a b<a.length∧Z2 a b<b.length then some (cmpS (a.getD (Z2 a b) []) (b.getD (Z2 a b) [])) else none
 |[],b=>by simp[ab,Z2]
 |x::xs,[]=>by simp[ab,Z2]
 |x::xs,y::ys=>by
  have ih:=Dm0 xs ys;simp only[ab,Z2];by_cases h:x=y
  .simp only[if_pos h,ih];simp
  .simp[h]
def Bn3 (a b:List (List UInt8)):Int:=match ab a.reverse b.reverse with
 |some c=>c
 |none=>if a.length<b.length then -1 else if b.length<a.length then 1 else 0
def Bj9 (a:List (List UInt8)) (k:Nat) (h:k<a.length):a.reverse.getD k []=a.getD (a.length - 1 - k) []:=by simp[Dv,List.getElem?_reverse h]
def lp {a b:List UInt8} (ha:vld a=true) (hb:vld b=true):Ky a b=Bn3 (lbl a) (lbl b):=by
 unfold Ky Bn3;rw[Dm0];have e:Z2 (lbl a).reverse (lbl b).reverse=My (lbl a) (lbl b):=rfl;rw[e,ha,hb];simp only[List.length_reverse,Bool.and_self,if_true];by_cases h:My (lbl a) (lbl b)<(lbl a).length∧My (lbl a) (lbl b)<(lbl b).length
 .rw[if_pos h,if_pos h,Bj9 _ _ h.1,Bj9 _ _ h.2]
 .rw[if_neg h,if_neg h]
def Ad5 (a b:List (List UInt8)) (p1 p2 p3 p4:PV) (ha:a.length<=1000) (hb:b.length<=1000) (N:Nat) (hN:1001<N):
  Aq3.ev S N [p1,p2,p3,p4,C8 a,C8 b]=some (match ab a.reverse b.reverse with|some c=> .ret [.i .i64 c]|none=> .yld 0 []):=by
 have key:=Lj (fn:=S) (N:=N) (J:=[p1,p2,p3,p4,C8 a,C8 b]) (id:=1) (init:=[(.c (.i .i64 (1)))]) (body:=Ac5) (α:=Nat) (fun k=>[.i .i64 ((k:Int)+1)])
  (fun k=>match ab (a.reverse.drop k) (b.reverse.drop k) with|some c=> .ret [.i .i64 c]|none=> .yld 0 []) (fun k=>k<=a.length∧k<=b.length) (fun k=>a.length - k) 0 rfl ⟨Df _,Df _⟩ (by omega) ?_
 .simpa [Aq3] using key
 .rintro k ⟨h1,h2⟩;by_cases h3:k<a.length
  .by_cases h4:k<b.length
   .have e1:((a.length:Int) - ((k:Int)+1)).toNat=a.length - 1 - k:=by omega
    have e2:((b.length:Int) - ((k:Int)+1)).toNat=b.length - 1 - k:=by omega
    have g1:a[a.length - 1 - k]? =some (a[a.length - 1 - k]'(by omega)):=B0 (by omega);have g2:b[b.length - 1 - k]? =some (b[b.length - 1 - k]'(by omega)):=B0 (by omega);have d1:a.reverse.drop k=(a[a.length - 1 - k]'(by omega))::a.reverse.drop (k+1):=by rw[D9 (by simpa using h3)];simp
    have d2:b.reverse.drop k=(b[b.length - 1 - k]'(by omega))::b.reverse.drop (k+1):=by rw[D9 (by simpa using h4)];simp
    rw[d1,d2];generalize (a[a.length - 1 - k]'(by omega))=x at g1;generalize (b[b.length - 1 - k]'(by omega))=y at g2;simp only[ab];by_cases h:x=y
    .left;have h5:cmpS x y=0:=Lv.2 h;refine⟨k+1,?_,⟨by omega,by omega⟩,by omega,by rw[if_pos h]⟩;simp(disch:=omega)only[Xl,Nr,e1,e2,g1,g2,h5,Aj,simprocAttr]
    .right;have h5:¬cmpS x y=0:=fun e=>h (Lv.1 e);rw[if_neg h];simp(disch:=omega)only[Xl,Nr,e1,e2,g1,g2,h5,Aj,simprocAttr];simp[Out.goes]
   .right;have d2:b.reverse.drop k=[]:=gf (by simp;omega);have z:ab (a.reverse.drop k) []=none:=by cases a.reverse.drop k<;>rfl
    rw[d2,z];simp(disch:=omega) [Xl,xe,EVP,EV,simprocAttr,Out.goes]
  .right;have d1:a.reverse.drop k=[]:=gf (by simp;omega);have z:ab [] (b.reverse.drop k)=none:=rfl;rw[d1,z];simp(disch:=omega) [Xl,xe,EVP,EV,simprocAttr,Out.goes]
def J0 (a b:List UInt8) (hn:a.length<=9223372036854775807) (ht:b.length<=9223372036854775807):S Ls 2 [.s a,.s b]=some [.i .i64 (Ky a b)]:=by
 refine Hz7 (N:=1002) rfl ?_;have h1:=Nz a;have h2:=Nz b;rcases Bm (vld a) with h3|h3<;>rcases Bm (vld b) with h4|h4
 .rw[lp h3 h4];unfold Bn3;have hk:=Ad5 (lbl a) (lbl b) (.s a) (.s b) (.b true) (.b true) (by omega) (by omega) 1002 (by omega);cases h5:ab (lbl a).reverse (lbl b).reverse with
  |some c=>
   rw[h5] at hk;simp(disch:=omega)only[Xl,Dx,Vb,hk,h3,h4,Aj,simprocAttr]
  |none=>
   rw[h5] at hk;simp(disch:=omega)only[Xl,Dx,Vb,hk,h3,h4,Aj,simprocAttr]
   grind
 all_goals unfold Ky
 all_goals simp(disch:=omega)only[Xl,Dx,Nr,h3,h4,Aj,simprocAttr]
 all_goals simp
def F9 (a b:List UInt8):List UInt8:=if vld a=true∧vld b=true then jn ((lbl a).drop ((lbl a).length - My (lbl a) (lbl b))) else []
def o5 {α:Type} [DecidableEq α]:∀(a b:List α) (j:Nat),j<=a.length->(a.take j<+:b↔j<=Z2 a b)
 |_,_,0,_=>by simp
 |[],_,j+1,h=>by simp at h
 |x::xs,[],j+1,h=>by simp[Z2]
 |x::xs,y::ys,j+1,h=>by
  have:=o5 xs ys j (by simpa using h);simp only[Ff3,Z2,J5];by_cases hxy:x=y
  .simp[hxy,this]
  .simp[hxy]
def Zs (a b:List (List UInt8)) (k:Nat) (h:k<=a.length):a.drop k<:+b↔a.length - k<=My a b:=by unfold My;rw[<-o5 _ _ _ (by simp),<-Ff4,List.reverse_drop]
def ez {n:List UInt8} (h:vld n=true) (k:Nat):(jn ((lbl n).drop k)).length<=254:=H4 (Ll h k).1
def Ek8 (a b:List UInt8) (p1 p2 p3 p4:PV) (ha:vld a=true) (hb:vld b=true) (N:Nat) (hN:300<N) (hp1:p1= .s a) (hp2:p2= .s b):
  Aq0.ev S N [p1,p2,p3,p4]=some (.yld 0 [.s (F9 a b)]):=by
 subst hp1;subst hp2;have hl:=Nz a;have hs:=Ez8 (lbl a) (lbl b);have hla:=H4 ha;have hlb:=H4 hb;have ec:F9 a b=jn ((lbl a).drop ((lbl a).length - My (lbl a) (lbl b))):=by unfold F9;rw[if_pos ⟨ha,hb⟩]
 have key:=Lj (fn:=S) (N:=N) (J:=[.s a,.s b,p3,p4]) (id:=1) (init:=[(.v 0)]) (body:=Ac1) (α:=Nat) (fun k=>[.s (jn ((lbl a).drop k))])
  (fun k=> .yld 0 [.s (F9 a b)]) (fun k=>k+My (lbl a) (lbl b)<=(lbl a).length) (fun k=>(lbl a).length - k) 0 (by
   have:jn ((lbl a).drop 0)=a:=by rw[F6];exact(Ol ha).symm
   rw[this];rfl) (by omega) (by omega) ?_
 .simpa [Aq0] using key
 .intro k hk;obtain⟨hv,hlk⟩:=Ll ha k;have hlen:=ez ha k;have he:Av7 b (jn ((lbl a).drop k))=true↔(lbl a).length - k<=My (lbl a) (lbl b):=by rw[Bk4 hb hv,hlk,Zs _ _ _ (by omega)]
  by_cases h:(lbl a).length - k<=My (lbl a) (lbl b)
  .right;have h1:=he.2 h;have h2:(lbl a).length - My (lbl a) (lbl b)=k:=by omega
   simp(disch:=omega)only[ov,lj,h1,Aj,simprocAttr];rw[ec,h2];simp[Out.goes]
  .left;have h1:Av7 b (jn ((lbl a).drop k))=false:=by rw[Ef];intro h2;exact h (he.1 h2)
   have h2:Ur (jn ((lbl a).drop k))=jn ((lbl a).drop (k+1)):=by
    unfold Ur;have h3:jn ((lbl a).drop k)≠[46]:=by intro e;have:=(Y6 hv).2 e;rw[hlk] at this;have:=congrArg List.length this;simp at this;omega
    rw[if_pos ⟨hv,h3⟩,hlk,D6]
   refine⟨k+1,?_,by omega,by omega,rfl⟩;simp(disch:=omega)only[ov,lj,Qm,h1,h2,Aj,simprocAttr]
def Br2 (a b:List UInt8) (ha:a.length<=9223372036854775807) (hb:b.length<=9223372036854775807):S s7 2 [.s a,.s b]=some [.s (F9 a b)]:=by
 refine Hw8 (N:=301) rfl ?_;rcases Bm (vld a) with h3|h3
 .rcases Bm (vld b) with h4|h4
  .have hk:=Ek8 a b (.s a) (.s b) (.b true) (.b true) h3 h4 301 (by omega) rfl rfl;simp(disch:=omega)only[ov,Dx,hk,h3,h4,Aj,simprocAttr]
  .simp(disch:=omega)only[ov,Dx,h3,h4,Aj,simprocAttr];simp[F9,h4]
 .simp(disch:=omega)only[ov,Dx,h3,Aj,simprocAttr];simp[F9,h3]
def Dy7 (n:List UInt8):Int:=if n=[46] then 1 else if vld n=true then(n.length:Int)+1 else 0
def Ek0 (n:List UInt8) (hn:n.length<=9223372036854775807):S s5 1 [.s n]=some [.i .i64 (Dy7 n)]:=by
 refine Hw7 (N:=1) rfl ?_;unfold Dy7;by_cases h:n=[46]
 .simp(disch:=omega)only[Cj7,h,Aj,simprocAttr]
 .rcases Bm (vld n) with h3|h3
  .have:=H4 h3;simp(disch:=omega)only[Cj7,Dx,h,h3,Aj,simprocAttr]
  .simp(disch:=omega)only[Cj7,Dx,h,h3,Aj,simprocAttr]
def Q7 (n:List UInt8):List UInt8:=if n=[46] then [42,46] else [42,46]++n
def starOk (n:List UInt8):Bool:=vld n && !decide ((lbl n)[0]? =some [42]) && vld (Q7 n)
def starN (n:List UInt8):List UInt8:=if starOk n=true then Q7 n else []
def Uc {n:List UInt8} (h:vld n=true):(n[0]? =some 42↔(lbl n)[0]? =some [42]):=by
 rcases vld_cases h with⟨h1,h2⟩|⟨h1,h2,h3,_⟩
 .subst h1;simp[Jz]
 .cases hl:lbl n with
  |nil=>exact absurd hl h1
  |cons p r=>
   rw[hl] at h2 h3;have hp:=Kk h2 (Ic ..);have hne:=Bj4 hp;cases p with
   |nil=>exact absurd rfl hne
   |cons c q=>
    rw[h3,Lk];simp only[Dl,Db,Bn];constructor
    .rintro rfl;unfold Ox at hp;simp at hp;rcases hp with h|h
     .rw[h]
     .exfalso;have:bw 42=false:=by decide
      rw[this] at h;simp at h
    .intro h;injection h
def Tt (n:List UInt8) (hn:n.length<=1000000):S Yp 1 [.s n]=some [.s (starN n),.b (starOk n)]:=by
 refine Hb0 (N:=1) rfl ?_;have h0:([42,46]:List UInt8).length=2:=rfl;have hl:(Q7 n).length<=9223372036854775807:=by
  unfold Q7;split
  .simp
  .rw[Bt,h0];omega
 unfold starN starOk;have tail:T.ev S 1 Ax5 [.s n,.s (Q7 n)]=some (.ret [.s (starN n),.b (starOk n)]):=by
  unfold starN starOk;rcases Bm (vld n) with h3|h3
  .have h4:=Uc h3;have h5:=B0 (R8 h3);have h6:=Ix0 (n[0]'(R8 h3)) 42 (by omega);by_cases h7:(lbl n)[0]? =some [42]
   .have h8:=h4.2 h7;rw[h5] at h8;injection h8 with h8;have h9:((n[0]'(R8 h3)).toNat:Int)=42:=h6.2 h8;simp(disch:=omega)only[Ag2,Dx,h3,h5,Aj,simprocAttr];simp[h7]
   .have h8:¬n[0]? =some 42:=fun e=>h7 (h4.1 e);rw[h5] at h8;have h9:¬((n[0]'(R8 h3)).toNat:Int)=42:=fun e=>h8 (by rw[h6.1 e];rfl);rcases Bm (vld (Q7 n)) with ha|ha<;>simp(disch:=omega)only[Ag2,Dx,h3,h5,ha,Aj,simprocAttr]<;>simp[h7]
  .simp(disch:=omega)only[Ag2,Dx,h3,Aj,simprocAttr];simp
 unfold starN starOk at tail;obtain⟨y0,y1,y2,y3,y4,y5,y6,y7,yt⟩:=Ag2;by_cases h4:n=[46]
 .have e:Q7 n=[42,46]:=by simp[Q7,h4]
  rw[e] at tail ⊢;subst h4;simp(disch:=omega)only[y0,y1,y2,yt,Aj,simprocAttr];rw[tail];simp
 .have e:Q7 n=42::46::n:=by simp[Q7,h4]
  rw[e] at tail ⊢;simp(disch:=omega)only[y0,y1,y2,yt,h4,Aj,simprocAttr];rw[tail];simp
def t15 (t:Int):t=1∨t=2∨t=5∨t=6∨t=12∨t=15∨t=16∨t=28∨t=33∨t=39∨t=43∨t=46∨t=47∨t=48∨(t≠1∧t≠2∧t≠5∧t≠6∧t≠12∧t≠15∧t≠16∧t≠28∧t≠33∧t≠39∧t≠43∧t≠46∧t≠47∧t≠48):=by omega
def knw (t:Int):Bool:=decide (t=1)||decide (t=2)||decide (t=5)||decide (t=6)||decide (t=12)||decide (t=15)||decide (t=16)||decide (t=28)||decide (t=33)||decide (t=39)||decide (t=43)||decide (t=46)||decide (t=47)||decide (t=48)
def Gv (d:Dat):Bool:=d.v6||(decide (d.hi=0) && decide (d.lo<4294967296))
def inB (n most:Int):Bool:=decide (0<=n) && decide (n<=most)
def Ly (s:List UInt8):Bool:=decide (1<=s.length) && decide (s.length<=255)
def Kj (n:List UInt8):Bool:=vld n && decide (n[0]? ≠some 42)
def bit (set:Int) (t:Nat):Int:=set / 2 ^ t % 2
def Ip5 (x:Int):IntKind.u64.wrap ((BitVec.ofInt IntKind.u64.bits x &&& BitVec.ofInt IntKind.u64.bits 1).toNat:Int)=x % 2:=by
 have h2:(BitVec.ofInt 64 x &&& BitVec.ofInt 64 1).toNat=(BitVec.ofInt 64 x).toNat % 2:=by rw[BitVec.toNat_and];show (BitVec.ofInt 64 x).toNat &&& 1=_;exact Nat.and_one_is_mod _
 show IntKind.u64.wrap (((BitVec.ofInt 64 x &&& BitVec.ofInt 64 1).toNat:Nat):Int)=_;rw[h2,BitVec.toNat_ofInt];rw[Gl6]<;>omega
def Rm (r:Rec) (t:Int):Bool:=decide (0<=t) && decide (t<=63) && decide (bit r.data.bits t.toNat=1)
def Mz (r:Rec) (t:Int):S O4 2 [r.pv,.i .i64 t]=some [.b (Rm r t)]:=by
 refine Hz5 (N:=1) rfl ?_;unfold Rm;by_cases h1:0<=t
 .by_cases h2:t<=63
  .obtain⟨n,rfl⟩:∃n:Nat,t=(n:Int):=⟨t.toNat,by omega⟩;have hb:IntKind.u64.bits=64:=rfl;have h3:X.bin .shr (.i .u64 r.data.bits) (.i .i64 (n:Int))=some (.i .u64 (r.data.bits / 2 ^ n)):=Cf6 _ _ _ _ (by rw[hb];omega);have h4:r.data.bits / 2 ^ n % 2=bit r.data.bits n:=rfl;simp(disch:=omega)only[Ck4,mw,Ip5,h3,h4,Aj,simprocAttr]
   try simp
   try omega
  .simp(disch:=omega)only[Ck4,Aj,simprocAttr]
   try simp[h2]
 .simp(disch:=omega)only[Ck4,Aj,simprocAttr]
  try simp[h1]
def I7 (n top:List UInt8):Bool:=decide (n≠top) && under n top
def I3 (n top:List UInt8) (hn:n.length<=9223372036854775807) (ht:top.length<=9223372036854775807):S Bg5 2 [.s n,.s top]=some [.b (I7 n top)]:=by
 refine Ib3 (N:=1) rfl ?_;unfold I7;by_cases h:n=top
 .simp(disch:=omega)only[Gm9,h,Aj,simprocAttr]
  try simp
 .simp(disch:=omega)only[Gm9,Fl,h,Aj,simprocAttr]
  try simp
def Ph (r:Rec):Bool:=Rm r 39||(Rm r 2 && !Rm r 6)
def Bq6 (r:Rec):S As0 1 [r.pv]=some [.b (Ph r)]:=by refine Hz6 (N:=1) rfl ?_;unfold Ph;rcases Bm (Rm r 39) with h1|h1<;>rcases Bm (Rm r 2) with h2|h2<;>rcases Bm (Rm r 6) with h3|h3<;>simp(disch:=omega)only[Gr2,Mz,h1,h2,h3,Aj,simprocAttr]<;>rfl
def Hd (r:Rec) (zone name:List UInt8):Bool:=
 decide (r.typ=47) && under name zone && decide (0<Ky name r.name) && !(decide (r.data.host≠zone) && decide (0<=Ky name r.data.host)) && (!I7 name r.name|| !Ph r)
def Pt (r:Rec) (zone name:List UInt8) (hr:r.wf) (hz:zone.length<=9223372036854775807) (hn:name.length<=9223372036854775807):S rh 3 [r.pv,.s zone,.s name]=some [.b (Hd r zone name)]:=by
 refine Ib5 (N:=1) rfl ?_;have g1:=hr.name;have g2:=hr.data.host;unfold T6 at g1 g2;unfold Hd;by_cases h1:r.typ=47
 .rcases Bm (under name zone) with h2|h2
  .by_cases h3:0<Ky name r.name
   .by_cases h4:r.data.host=zone
    .rcases Bm (I7 name r.name) with h6|h6<;>rcases Bm (Ph r) with h7|h7<;>simp(disch:=omega)only[Bx5,Fl,J0,I3,Bq6,h1,h2,h4,h6,h7,Aj,simprocAttr]<;>simp[h3]
    .by_cases h5:0<=Ky name r.data.host
     .simp(disch:=omega)only[Bx5,Fl,J0,h1,h2,h4,Aj,simprocAttr]
      try simp[h4,h5]
     .rcases Bm (I7 name r.name) with h6|h6<;>rcases Bm (Ph r) with h7|h7<;>simp(disch:=omega)only[Bx5,Fl,J0,I3,Bq6,h1,h2,h4,h6,h7,Aj,simprocAttr]<;>simp[h3,h5]
   .simp(disch:=omega)only[Bx5,Fl,J0,h1,h2,Aj,simprocAttr]
    try simp[h3]
  .simp(disch:=omega)only[Bx5,Fl,h1,h2,Aj,simprocAttr]
   try simp
 .simp(disch:=omega)only[Bx5,h1,Aj,simprocAttr]
  try simp
def lq (r:Rec) (name:List UInt8):List UInt8:=if Dy7 (F9 name r.name)<Dy7 (F9 name r.data.host) then F9 name r.data.host else F9 name r.name
def Np (a b:List UInt8):(F9 a b).length<=254:=by
 unfold F9;split
 .rename_i h;exact ez h.1 _
 .simp
def Yf (r:Rec) (name:List UInt8) (hr:r.wf) (hn:name.length<=9223372036854775807):S As1 2 [r.pv,.s name]=some [.s (lq r name)]:=by refine Hz8 (N:=1) rfl ?_;have g1:=hr.name;have g2:=hr.data.host;unfold T6 at g1 g2;have h1:=Np name r.name;have h2:=Np name r.data.host;unfold lq;by_cases h:Dy7 (F9 name r.name)<Dy7 (F9 name r.data.host)<;>simp(disch:=omega)only[Gr3,Br2,Ek0,h,Aj,simprocAttr]
def Dh3 (r:Rec) (name:List UInt8):(lq r name).length<=254:=by
 unfold lq;split
 .exact Np _ _
 .exact Np _ _
def dw (zone name:List UInt8) (r:Rec):Option (List UInt8):=
 if Hd r zone name && !I7 r.data.host name && starOk (lq r name) then some (starN (lq r name)) else none
def starsN (l:List Rec) (zone name:List UInt8):List (List UInt8):=l.filterMap (dw zone name)
def Ah4 (l:List Rec) (zone name:List UInt8) (hw:∀r∈l,r.wf) (hl:l.length<=1000000) (hz:zone.length<=9223372036854775807) (hn:name.length<=9223372036854775807):
  S Dw0 3 [B6 l,.s zone,.s name]=some [C8 (starsN l zone name)]:=by
 refine Ib8 (N:=l.length+1) rfl ?_;have key:Fy4.ev S (l.length+1) [B6 l,.s zone,.s name]=some (.yld 0 [C8 ([]++starsN l zone name)]):=by
  refine E7 l (fun i (g:List (List UInt8))=>[C8 g,.i .i64 (i:Int)]) (fun i g r=> .yld 0 [C8 (g++starsN r zone name)]) (fun i g=>g.length<=i) [] rfl (B7 _) (by omega) (fun i g c r hd hi hc hI=> ?_) (fun g hI=> ?_)
  .left;have hcw:=hw c (Cq hc);have g2:=hcw.data.host;unfold T6 at g2;have h1:=Pt c zone name hcw hz hn;have h2:=Yf c name hcw hn;have h3:=Dh3 c name;cases h:dw zone name c with
   |some s=>
    refine⟨g++[s],?_,by simp;omega,by simp[starsN,h]⟩;unfold dw at h;split at h
    .rename_i hc2;injection h with h;subst h;simp only[Bp,Cf] at hc2;obtain⟨⟨k1,k2⟩,k3⟩:=hc2;simp(disch:=omega)only[Bx6,hc,h1,h2,I3,Tt,k1,k2,k3,Aj,simprocAttr]
    .cases h
   |none=>
    refine⟨g,?_,by omega,by simp[starsN,h]⟩;unfold dw at h;split at h
    .cases h
    .rename_i hc2;rcases ch3 (Hd c zone name) (!I7 c.data.host name) (starOk (lq c name)) with e0|⟨e0,e1⟩|⟨e0,e1,e2⟩|⟨e0,e1,e2⟩
     .simp(disch:=omega)only[Bx6,hc,h1,e0,Aj,simprocAttr]
     .simp only[Bool.not_eq_false'] at e1;simp(disch:=omega)only[Bx6,hc,h1,I3,e0,e1,Aj,simprocAttr]
     .simp only[Cf] at e1;simp(disch:=omega)only[Bx6,hc,h1,h2,I3,Tt,e0,e1,e2,Aj,simprocAttr]
     .exact absurd (by simp[e0,e1,e2]) hc2
  .simp(disch:=omega)only[Bx6,Aj,simprocAttr]
   try simp[starsN,Out.goes]
 simp(disch:=omega)only[Bx6,key,Aj,simprocAttr]
def Mb (v:List UInt8):List (List UInt8)->Nat->Int
 |[],_=> -1
 |x::r,i=>if v=x then(i:Int) else Mb v r (i+1)
def vj (v:List UInt8):∀(l:List (List UInt8)) (i:Nat),decide (0<=Mb v l i)=decide (v∈l)
 |[],i=>by simp[Mb]
 |x::r,i=>by
  simp only[Mb];by_cases h:v=x
  .simp[h]
  .simp only[if_neg h,vj v r (i+1)];simp[h]
def Ch0 (l:List (List UInt8)) (v:List UInt8) (hl:l.length<=1000000):S tg 2 [C8 l,.s v]=some [.i .i64 (Mb v l 0)]:=by
 refine Fw3 (N:=l.length+1) rfl ?_;have key:Aq2.ev S (l.length+1) [C8 l,.s v]=some (if Mb v l 0= -1 then .yld 0 [] else .ret [.i .i64 (Mb v l 0)]):=by
  refine Gx l (fun i=>[.i .i64 (i:Int)]) (fun i r=>if Mb v r i= -1 then .yld 0 [] else .ret [.i .i64 (Mb v r i)]) rfl (by omega) (fun i c r hd hi hc=> ?_) ?_
  .by_cases h:v=c
   .right;simp(disch:=omega)only[Qr,hc,h,Aj,simprocAttr];have:¬((i:Int)= -1):=by omega
    simp[Mb,this,Out.goes]
   .left;simp(disch:=omega)only[Qr,hc,h,Aj,simprocAttr]
    try simp[Mb,h]
  .simp(disch:=omega)only[Qr,Aj,simprocAttr]
   try simp[Mb,Out.goes]
 by_cases h:Mb v l 0= -1
 .rw[if_pos h] at key;simp(disch:=omega)only[Qr,key,h,Aj,simprocAttr]
 .rw[if_neg h] at key;simp(disch:=omega)only[Qr,key,Aj,simprocAttr]
def Vn (l:List (List UInt8)) (v:List UInt8) (hl:l.length<=1000000):S Yh 2 [C8 l,.s v]=some [.b (decide (v∈l))]:=by refine Hk7 (N:=1) rfl ?_;rw[<-vj v l 0];simp(disch:=omega)only[Gn1,Ch0,Aj,simprocAttr]
def H9 (l:List Rec) (zone name star:List UInt8):Bool:=decide (star∈starsN l zone name)
def dv (l:List Rec) (zone name:List UInt8):(starsN l zone name).length<=l.length:=List.length_filterMap_le _ _
def aw (l:List Rec) (zone name star:List UInt8) (hw:∀r∈l,r.wf) (hl:l.length<=1000000) (hz:zone.length<=9223372036854775807) (hn:name.length<=9223372036854775807):
  S Dx1 4 [B6 l,.s zone,.s name,.s star]=some [.b (H9 l zone name star)]:=by
 refine If9 (N:=1) rfl ?_;have h1:=dv l zone name;simp(disch:=omega)only[Iv5,Ah4 l zone name hw hl hz hn,Vn,H9,Aj,simprocAttr]
end Go.X.G
