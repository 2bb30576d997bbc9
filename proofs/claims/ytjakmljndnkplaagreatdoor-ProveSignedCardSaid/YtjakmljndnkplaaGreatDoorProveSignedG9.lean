/- Names: what the reference's functions give. -/
import Derived.Test.YtjakmljndnkplaaGreatDoorProveSignedG7
import Derived.Test.YtjakmljndnkplaaGreatDoorProveSignedG8
open Bool renaming eq_false_or_eq_true->Bn,and_eq_true->Br,or_eq_true->Ck,eq_iff_iff->D6,and_true->Mr
open List renaming length_append->Bt,getElem?_eq_getElem->B3,mem_cons->Cj,length_cons->Cv,append_assoc->Cw,mem_of_getElem?->Cz,length_pos_iff->Cs,length_nil->C1,getD_eq_getElem?_getD->C9,take_append_drop->Dk,nil_append->Dc,cons_append->Df,getElem?_cons_zero->Dr,drop_eq_getElem_cons->D7,take_length->Eh,flatMap_cons->Ft,isSuffixOf_iff_suffix->Gs,mem_cons_self->H7,getLast_eq_getElem->K6,dropLast_concat_getLast->Ld,cons_prefix_cons->Oz,append_cancel_right->R7,drop_eq_nil_of_le->ab,count_eq_zero->Hw3
open Nat renaming le_refl->B7,zero_le->Db
open Option renaming map_eq_some_iff->Bs,map_some->Cc
open Option.some renaming injEq->Bm
set_option maxHeartbeats 1000000
set_option linter.defProp false
set_option linter.unusedVariables false
set_option linter.unusedSimpArgs false
namespace Go.X.G
open Go Go.X
def Aj:=And.intro xe<|And.intro EVP EV
def Yw (c:UInt8):Bool:=decide (97<=(c.toNat:Int)) && decide ((c.toNat:Int)<=122)||decide (48<=(c.toNat:Int)) && decide ((c.toNat:Int)<=57)||decide ((c.toNat:Int)=45)||decide ((c.toNat:Int)=95)
def Px (s:List UInt8):Bool:=decide (s=[42])||(decide (1<=s.length) && decide (s.length<=63) && s.all Yw)
def spl (first:Bool) (cur:List UInt8):List UInt8->Option (List (List UInt8))
 |[]=>some []
 |c::r=>if c=46 then(if Px cur=true∧(cur=[42]->first=true) then(spl false [] r).map (cur::·) else none) else spl first (cur++[c]) r
def nm (n:List UInt8):Option (List (List UInt8)):=
 if n=[46] then some [] else if 2<=n.length∧n.length<=254∧n[n.length - 1]? =some 46 then spl true [] n else none
def lbl (n:List UInt8):List (List UInt8):=(nm n).getD []
def vld (n:List UInt8):Bool:=(nm n).isSome
def tg:∀(r:List UInt8) (f:Bool) (cur:List UInt8) (l:List (List UInt8)),spl f cur r=some l->l.length<=r.length
 |[],f,cur,l,h=>by simp[spl] at h;simp[<-h]
 |c::r,f,cur,l,h=>by
  simp only[spl] at h;split at h
  .split at h
   .obtain⟨m,hm,rfl⟩:=Bs.1 h;have:=tg r _ _ _ hm;simp;omega
   .cases h
  .have:=tg r _ _ _ h;simp;omega
def Gn1 {n:List UInt8} {l:List (List UInt8)} (h:nm n=some l):l.length<=254:=by
 unfold nm at h;split at h
 .injection h with h;subst h;simp
 .split at h
  .rename_i h2;have:=tg _ _ _ _ h;omega
  .cases h
def Np (n:List UInt8):(lbl n).length<=254:=by
 unfold lbl;cases h:nm n with
 |none=>simp
 |some l=>exact Gn1 h
def xg {α:Type} [DecidableEq α]:List α->List α->Nat
 |x::xs,y::ys=>if x=y then xg xs ys+1 else 0
 |_,_=>0
def uk (a b:List (List UInt8)):Nat:=xg a.reverse b.reverse
def under (n top:List UInt8):Bool:=vld n && vld top && decide (uk (lbl n) (lbl top)=(lbl top).length)
def cmpS (a b:List UInt8):Int:=if Op.bytesLess a b then -1 else if a=b then 0 else 1
def Ky (a b:List UInt8):Int:=
 if vld a && vld b then
  let k:=uk (lbl a) (lbl b)
  if k<(lbl a).length∧k<(lbl b).length then cmpS ((lbl a).getD ((lbl a).length - 1 - k) []) ((lbl b).getD ((lbl b).length - 1 - k) [])
  else if(lbl a).length<(lbl b).length then -1 else if(lbl b).length<(lbl a).length then 1 else 0
 else if vld a then -1 else if vld b then 1 else cmpS a b
def Fl4 (x:List UInt8) (c:UInt8):S Az0 2 [.s x,.i .u8 (c.toNat:Int)]=some [.i .i64 (x.count c:Int)]:=
 Gy6 (args:=[.s x,.i .u8 (c.toNat:Int)]) (by simp[XK.run,Ap2,Lib.countByte])
def Fc9 (x:List UInt8) (c:UInt8):S Ay4 2 [.s x,.i .u8 (c.toNat:Int)]=some [.i .i64 (Lib.indexByte x c)]:=
 Gx8 (args:=[.s x,.i .u8 (c.toNat:Int)]) (by simp[XK.run,Ap2])
def Fl5 (x y:List UInt8):S Ay3 2 [.s x,.s y]=some [.i .i64 (Lib.compareBytes x y)]:=
 Gx7 (args:=[.s x,.s y]) (by simp[XK.run,Dm5])
def R3 (x:List UInt8) (c:UInt8):S l9 2 [.s x,.i .u8 (c.toNat:Int)]=some [.i .i64 (Lib.indexByte x c)]:=by refine Gy9 (N:=1) rfl ?_;simp(disch:=omega)only[Ft0,Fc9,Aj,simprocAttr]
def rj (x:List UInt8) (c:UInt8):S Az7 2 [.s x,.i .u8 (c.toNat:Int)]=some [.i .i64 (Lib.indexByte x c)]:=by refine Gb3 (N:=1) rfl ?_;simp(disch:=omega)only[Ft9,R3,Aj,simprocAttr]
def Pg (c:UInt8):∀(x:List UInt8),c∉x->Lib.indexByte x c= -1
 |[],_=>rfl
 |b::l,h=>by have h1:b≠c:=fun e=>h (by simp[e]);have h2:=Pg c l (fun e=>h (by simp[e]));simp[Lib.indexByte,h1,h2]
def Lh (c:UInt8) (post:List UInt8):∀(pre:List UInt8),c∉pre->Lib.indexByte (pre++c::post) c=(pre.length:Int)
 |[],_=>by simp[Lib.indexByte]
 |b::l,h=>by
  have h1:b≠c:=fun e=>h (by simp[e]);have h2:=Lh c post l (fun e=>h (by simp[e]));simp only[Df,Lib.indexByte,h2];simp[h1]
  try omega
def dot_split (c:UInt8):∀(s:List UInt8),c∉s∨∃pre post,s=pre++c::post∧c∉pre
 |[]=> .inl (by simp)
 |b::l=>by
  by_cases h:b=c
  .exact .inr ⟨[],l,by simp[h],by simp⟩
  .rcases dot_split c l with h1|⟨pre,post,rfl,h2⟩
   .exact .inl (by simp[h1,Ne.symm h])
   .exact .inr ⟨b::pre,post,by simp,by simp[h2,Ne.symm h]⟩
def pcs (cur:List UInt8):List UInt8->List (List UInt8)
 |[]=>[cur]
 |c::r=>if c=46 then cur::pcs [] r else pcs (cur++[c]) r
def cut (s:List UInt8):List (List UInt8):=pcs [] s
def Cd9 (post:List UInt8):∀(pre cur:List UInt8),(46:UInt8)∉pre->pcs cur (pre++46::post)=(cur++pre)::pcs [] post
 |[],cur,_=>by simp[pcs]
 |b::l,cur,h=>by have h1:b≠46:=fun e=>h (by simp[e]);have h2:=Cd9 post l (cur++[b]) (fun e=>h (by simp[e]));simp[pcs,h1,h2]
def c9:∀(s cur:List UInt8),(46:UInt8)∉s->pcs cur s=[cur++s]
 |[],cur,_=>by simp[pcs]
 |b::l,cur,h=>by have h1:b≠46:=fun e=>h (by simp[e]);have h2:=c9 l (cur++[b]) (fun e=>h (by simp[e]));simp[pcs,h1,h2]
def Dq1 (s:List UInt8):(cut s).length=s.count 46+1:=by
 have:∀(s cur:List UInt8),(pcs cur s).length=s.count 46+1:=by
  intro s
  induction s with
  |nil=>intro cur;rfl
  |cons c r ih=>
   intro cur;by_cases h:c=46<;>simp[pcs,h,ih]
 exact this s []
def By7 (s:List UInt8) (hs:s.length<=9223372036854775807):S Ay9 2 [.s s,.s [46]]=some [.i .i64 (Lib.indexByte s 46)]:=by
 refine Gy5 (N:=1) rfl ?_;have h1:=R3 s 46;have e:(((46:UInt8).toNat:Nat):Int)=46:=rfl;rw[e] at h1;by_cases h:[46]=s
 .subst h;simp(disch:=omega)only[Ec2,Aj,simprocAttr];rfl
 .simp(disch:=omega)only[Ec2,h,h1,e,Aj,simprocAttr]
def qt (s:List UInt8) (hs:s.length<=9223372036854775807):S mz 2 [.s s,.s [46]]=some [.i .i64 (Lib.indexByte s 46)]:=by refine Gz6 (N:=1) rfl ?_;simp(disch:=omega)only[Ft3,By7,Aj,simprocAttr]
def Dc7 (s:List UInt8):S Az5 2 [.s s,.s [46]]=some [.i .i64 (s.count 46:Int)]:=by refine Gz7 (N:=1) rfl ?_;have h1:=Fl4 s 46;have e:(((46:UInt8).toNat:Nat):Int)=46:=rfl;rw[e] at h1;simp(disch:=omega)only[Ft4,h1,e,Aj,simprocAttr]
def Ct1 (done rest:List (List UInt8)):Out:=
 .yld 0 [.s ((done++rest).getLastD []),C6 ((done++rest).dropLast++[[]]),.i .i64 (((done++rest).length:Int) - 1)]
def wb (s:List UInt8) (N:Nat) (hN:s.length<N) (hs:s.length<=1000000) (p q:PV):
  vm.ev S N [.s s,.s [46],.i .i64 0,p,.i .i64 ((s.count 46:Int)+1)]=some (Ct1 [] (cut s)):=by
 have hc0:s.count 46<=s.length:=List.count_le_length;have key:=Ll (fn:=S) (N:=N) (J:=[.s s,.s [46],.i .i64 0,p,.i .i64 ((s.count 46:Int)+1)]) (id:=1) (init:=[(.v 0),(.rep 1 (.mn (.v 4) (.bin .add (.slen (.v 0)) (.c (.i .i64 (1))))) (.c (.s []))),(.c (.i .i64 (0)))]) (body:=z6) (α:=List (List UInt8)×List UInt8)
  (fun a=>[.s a.2,C6 (a.1++List.replicate (a.2.count 46+1) []),.i .i64 (a.1.length:Int)]) (fun a=>Ct1 a.1 (cut a.2)) (fun a=>a.1.length+a.2.count 46=s.count 46∧a.2.length<=s.length) (fun a=>a.2.length) ([],s) ?_ ⟨by simp,B7 _⟩ hN ?_
 .simpa [vm] using key
 .have e:((s.count 46:Int)+1).toNat=s.count 46+1:=by omega
  simp(disch:=omega)only[e,Aj,simprocAttr]
 .rintro⟨done,rest⟩ ⟨h1,h2⟩;simp only at h1 h2 ⊢;rcases dot_split 46 rest with h|⟨pre,post,rfl,h⟩
  .right;have c0:rest.count 46=0:=Hw3.2 h;have i0:=Pg 46 rest h;have cu:cut rest=[rest]:=by simpa [cut] using c9 rest [] h
   refine⟨?_,rfl⟩;rw[c0];rw[c0] at h1;simp(disch:=omega)only[Bd4,qt,i0,Aj,simprocAttr];simp[Ct1,cu,List.getLastD_eq_getLast?]
  .left;have c0:(pre++46::post).count 46=post.count 46+1:=by rw[List.count_append,Hw3.2 h];simp
   have i0:=Lh 46 post pre h;have cu:cut (pre++46::post)=pre::cut post:=by simpa [cut] using Cd9 post pre [] h
   have hl:(pre++46::post).length=pre.length+post.length+1:=by simp;omega
   have sl1:List.drop (0:Int).toNat (List.take ((pre.length:Int)+0).toNat (pre++46::post))=pre:=by simp
   have sl2:List.drop ((pre.length:Int)+1).toNat (List.take (pre++46::post).length (pre++46::post))=post:=by
    have:((pre.length:Int)+1).toNat=pre.length+1:=by omega
    rw[this,Eh,List.drop_append];simp
   have sl3:(done++[]::[]::List.replicate (post.count 46) ([]:List UInt8)).length=done.length+post.count 46+2:=by simp;omega
   refine⟨(done++[pre],post),?_,⟨by simp;omega,by simp only;omega⟩,by simp;omega,by simp[Ct1,cu]⟩;rw[c0];rw[c0] at h1;simp(disch:=omega)only[Bd4,qt,i0,sl1,sl2,Aj,simprocAttr];simp[List.replicate_succ,List.set_append]
def wz (s:List UInt8) (hs:s.length<=1000000):S Ab5 4 [.s s,.s [46],.i .i64 0,.i .i64 (-1)]=some [C6 (cut s)]:=by
 refine Gd1 (N:=s.length+1) rfl ?_;have h1:=Dq1 s;have h2:s.count 46<=s.length:=List.count_le_length;obtain⟨l,x,hx⟩:∃l x,cut s=l++[x]:=⟨(cut s).dropLast,(cut s).getLast (by intro e;simp[e] at h1),(Ld _).symm⟩;have h3:l.length=s.count 46:=by rw[hx] at h1;simpa using h1
 have h4:((l.length:Int)+1 - 1)=(l.length:Int):=by omega
 have h5:((l++[([]:List UInt8)]).length:Int)=l.length+1:=by simp
 have h6:((l++[x]).length:Int)=l.length+1:=by simp
 have g1:(l++[([]:List UInt8)])[l.length]? =some []:=by simp
 have g2:(l++[x]).getLastD []=x:=by simp[List.getLastD_eq_getLast?]
 have g3:(l++[([]:List UInt8)]).set l.length x=l++[x]:=by simp
 have hk:=wb s (s.length+1) (by omega) hs (.i .i64 (-1)) .u;rw[hx] at hk ⊢;simp only[Ct1,Dc,List.dropLast_concat] at hk;simp(disch:=omega)only[Bd4,Dc7,hk,h4,h6,g1,g2,g3,Aj,simprocAttr];have g4:((l.length:Int)+1).toNat=(l++[x]).length:=by simp
 rw[g4,Eh];rfl
def ql (s:List UInt8) (hs:s.length<=1000000):S Cg0 2 [.s s,.s [46]]=some [C6 (cut s)]:=by refine Hc5 (N:=1) rfl ?_;simp(disch:=omega)only[Hw5,wz,Aj,simprocAttr]
def R4 (s t:List UInt8) (hs:s.length<=9223372036854775807):S m7 2 [.s s,.s t]=some [.b (t.isSuffixOf s)]:=by
 refine Gd2 (N:=1) rfl ?_;by_cases h:t.length<=s.length
 .have e:((s.length:Int) - (t.length:Int)).toNat=s.length - t.length:=by omega
  simp(disch:=omega)only[Ec8,e,Aj,simprocAttr];simp only[Eh];congr 4;rw[D6,Gs,decide_eq_true_eq];refine⟨fun h=>h▸List.drop_suffix _ _,fun h=> ?_⟩;obtain⟨p,rfl⟩:=h;simp
 .have h2:t.isSuffixOf s=false:=by rw[Bool.eq_false_iff,ne_eq,Gs];exact fun h'=>h h'.length_le
  simp(disch:=omega)only[Ec8,h2,Aj,simprocAttr]
def Ow (s t:List UInt8) (hs:s.length<=9223372036854775807):S Cg1 2 [.s s,.s t]=some [.b (t.isSuffixOf s)]:=by refine Hc6 (N:=1) rfl ?_;simp(disch:=omega)only[Hw6,R4,Aj,simprocAttr]
def Aj8 (x y:List UInt8):S Az1 2 [.s x,.s y]=some [.i .i64 (Lib.compareBytes x y)]:=by refine Gy7 (N:=1) rfl ?_;simp(disch:=omega)only[Fs8,Fl5,Aj,simprocAttr]
def Aj5 (x y:List UInt8):S Wp 2 [.s x,.s y]=some [.i .i64 (Lib.compareBytes x y)]:=by refine Gb0 (N:=1) rfl ?_;simp(disch:=omega)only[Ft6,Aj8,Aj,simprocAttr]
def flat (l:List (List UInt8)):List UInt8:=l.flatMap fun x=>x++[46]
def jn (l:List (List UInt8)):List UInt8:=if l=[] then [46] else flat l
def Hc (first:Bool):List (List UInt8)->Bool
 |[]=>true
 |p::r=>Px p && (!decide (p=[42])||first) && Hc false r
def Fc6:Yw 46=false:=by decide
def Nt {p:List UInt8} (h:Px p=true):(46:UInt8)∉p:=by
 unfold Px at h;simp at h;rcases h with rfl|⟨_,h⟩
 .decide
 .intro h2;have:=h 46 h2;rw[Fc6] at this;cases this
def Af1 {p:List UInt8} (h:Px p=true):p≠[]:=by rintro rfl;simp[Px] at h
def Jh {p:List UInt8}:∀{f:Bool} {l:List (List UInt8)},Hc f l=true->p∈l->Px p=true
 |f,q::r,h,hp=>by
  simp only[Hc,Br] at h;rcases Cj.1 hp with rfl|hp
  .exact h.1.1
  .exact Jh h.2 hp
def Bq2:∀{l:List (List UInt8)},Hc false l=true->Hc true l=true
 |[],_=>rfl
 |p::r,h=>by simp only[Hc,Br] at h ⊢;exact⟨⟨h.1.1,by simp⟩,h.2⟩
def Rv:∀{f:Bool} {a b:List (List UInt8)},Hc f (a++b)=(Hc f a && Hc (f && a.isEmpty) b)
 |f,[],b=>by simp[Hc]
 |f,p::r,b=>by simp only[Df,Hc,Rv (a:=r)];simp[Bool.and_assoc]
def Bq3 {f:Bool} {l:List (List UInt8)} (h:Hc f l=true) (k:Nat):Hc f (l.drop k)=true:=by
 rw[<-Dk k l,Rv,Br] at h;have h2:=h.2;cases f with
 |false=>simpa using h2
 |true=>
  cases he:(l.take k).isEmpty with
  |true=>rw[he] at h2;exact h2
  |false=>rw[he] at h2;exact Bq2 h2
def V6:∀(m:List UInt8) (f:Bool) (cur:List UInt8),spl f cur (m++[46])=if Hc f (pcs cur m)=true then some (pcs cur m) else none
 |[],f,cur=>by simp only[Dc,spl,if_true,pcs,Hc,Cc,Mr];by_cases h:Px cur=true<;>by_cases h2:cur=[42]<;>cases f<;>simp[h,h2]
 |c::r,f,cur=>by
  simp only[Df,spl,pcs];by_cases hc:c=46
  .simp only[if_pos hc];rw[V6 r false []];simp only[Hc];by_cases h:Px cur=true<;>by_cases h2:cur=[42]<;>cases f<;>by_cases h3:Hc false (pcs [] r)=true<;>simp[h,h2,h3]
  .simp only[if_neg hc];exact V6 r f (cur++[c])
def Wd (b:List UInt8):∀(a cur:List UInt8),pcs cur (a++46::b)=pcs cur a++cut b
 |[],cur=>by simp[pcs,cut]
 |c::r,cur=>by
  simp only[Df,pcs];split
  .rw[Wd b r []];rfl
  .exact Wd b r _
def U8:∀(m cur:List UInt8),flat (pcs cur m)=cur++m++[46]
 |[],cur=>by simp[pcs,flat]
 |c::r,cur=>by
  simp only[pcs];split
  .rename_i h;have:=U8 r [];simp only[flat,Ft] at this ⊢;rw[this,h];simp
  .rw[U8 r (cur++[c])];simp
def O7 (a b:List (List UInt8)):flat (a++b)=flat a++flat b:=by simp[flat]
def Gl3 (cur m:List UInt8):pcs cur m≠[]:=by
 cases m with
 |nil=>simp[pcs]
 |cons c r=>
  simp only[pcs];split
  .simp
  .intro h;have:=U8 r (cur++[c]);rw[h] at this;simp[flat] at this
def Vk:∀(l:List (List UInt8)),(∀p∈l,(46:UInt8)∉p)->cut (flat l)=l++[[]]
 |[],_=>rfl
 |p::l,h=>by
  have h1:flat (p::l)=p++46::flat l:=by simp[flat]
  rw[h1];show pcs [] _=_;rw[Wd,c9 p [] (h p (by simp)),Vk l (fun q hq=>h q (by simp[hq]))];simp
def Ln:∀(l:List (List UInt8)),l≠[]->∃m,flat l=m++[46]
 |[p],_=>⟨p,by simp[flat]⟩
 |p::q::r,_=>by obtain⟨m,hm⟩:=Ln (q::r) (by simp);exact⟨p++[46]++m,by simp only[flat,Ft] at hm ⊢;rw[hm];simp⟩
def Ag0 {l:List (List UInt8)} (hl:l≠[]) (h:∀p∈l,(46:UInt8)∉p) {m:List UInt8} (hm:flat l=m++[46]):cut m=l:=by
 have h1:=Vk l h;rw[hm] at h1;have h2:cut (m++[46])=cut m++[[]]:=by show pcs [] (m++46::[])=_;rw[Wd];rfl
 rw[h2] at h1;exact R7 h1
def Jm {l:List (List UInt8)} (h:Hc true l=true) (hl:l≠[]):2<=(flat l).length:=by
 cases l with
 |nil=>exact absurd rfl hl
 |cons p r=>
  have h1:=Af1 (Jh h (H7 ..));have:0<p.length:=Cs.2 h1;simp[flat];omega
def Fz4 {l:List (List UInt8)} (h:Hc true l=true) (hl:l≠[]) (hlen:(flat l).length<=254):nm (flat l)=some l:=by obtain⟨m,hm⟩:=Ln l hl;have h1:=Ag0 hl (fun p hp=>Nt (Jh h hp)) hm;have h2:=Jm h hl;unfold nm;rw[if_neg (by intro e;rw[e] at h2;simp at h2),if_pos ⟨h2,hlen,by rw[hm];simp⟩,hm,V6];have:pcs [] m=l:=h1;rw[this,if_pos h]
def Fz3 {n:List UInt8} {l:List (List UInt8)} (h:nm n=some l):(n=[46]∧l=[])∨(l≠[]∧Hc true l=true∧n=flat l∧n.length<=254):=by
 unfold nm at h;split at h
 .rename_i e;injection h with h;exact .inl ⟨e,h.symm⟩
 .split at h
  .rename_i h1;right;obtain⟨h2,h3,h4⟩:=h1;obtain⟨m,hm⟩:∃m,n=m++[46]:=by
    refine⟨n.dropLast,?_⟩;have:n≠[]:=by intro e;simp[e] at h2
    have h5:=Ld this;rw[<-h5];congr 1
    .simp
    .have h6:n[n.length - 1]? =some (n.getLast this):=by rw[K6];exact B3 _
     rw[h6] at h4;injection h4 with h4;simp[h4]
   rw[hm,V6] at h;split at h
   .rename_i h5;injection h with h;subst h;refine⟨Gl3 _ _,h5,?_,by omega⟩;rw[U8,hm];simp
   .cases h
  .cases h
def Er1 {n:List UInt8}:vld n=true↔nm n=some (lbl n):=by unfold vld lbl;cases nm n<;>simp
def vld_cases {n:List UInt8} (h:vld n=true):(n=[46]∧lbl n=[])∨(lbl n≠[]∧Hc true (lbl n)=true∧n=flat (lbl n)∧n.length<=254):=Fz3 (Er1.1 h)
def U1 {n:List UInt8} (h:vld n=true):Hc true (lbl n)=true:=by
 rcases vld_cases h with⟨_,h⟩|⟨_,h,_⟩
 .rw[h];rfl
 .exact h
def Pz {n:List UInt8} (h:vld n=true):n=jn (lbl n):=by
 unfold jn;rcases vld_cases h with⟨h1,h2⟩|⟨h1,_,h2,_⟩
 .rw[h2,if_pos rfl];exact h1
 .rw[if_neg h1];exact h2
def J0 {n:List UInt8} (h:vld n=true):n.length<=254:=by
 rcases vld_cases h with⟨h1,_⟩|⟨_,_,_,h⟩
 .simp[h1]
 .exact h
def Kj:lbl [46]=[]:=rfl
def o6 {l:List (List UInt8)} (h:Hc true l=true) (hl:l≠[]):flat l≠[46]:=by intro e;have:=Jm h hl;rw[e] at this;simp at this
def dt {n:List UInt8} (h:vld n=true):lbl n=[]↔n=[46]:=by
 rcases vld_cases h with⟨h1,h2⟩|⟨h1,h2,h3,_⟩
 .simp[h1,Kj]
 .constructor
  .intro e;exact absurd e h1
  .intro e;rw[h3] at e;exact absurd e (o6 h2 h1)
def Gq5 {l:List (List UInt8)} (h:Hc true l=true) (hlen:(flat l).length<=254):vld (jn l)=true∧lbl (jn l)=l:=by
 unfold jn;by_cases hl:l=[]
 .subst hl;exact⟨rfl,rfl⟩
 .rw[if_neg hl];have:=Fz4 h hl hlen;exact⟨by simp[vld,this],by simp[lbl,this]⟩
def Nr {a b:List UInt8} (ha:vld a=true) (hb:vld b=true) (h:lbl a=lbl b):a=b:=by rw[Pz ha,Pz hb,h]
def ed (l:List (List UInt8)) (k:Nat):(flat (l.drop k)).length<=(flat l).length:=by
 have:flat l=flat (l.take k)++flat (l.drop k):=by rw[<-O7,Dk]
 rw[this,Bt];omega
def Ob {n:List UInt8} (h:vld n=true) (k:Nat):vld (jn ((lbl n).drop k))=true∧lbl (jn ((lbl n).drop k))=(lbl n).drop k:=by
 refine Gq5 (Bq3 (U1 h) k) ?_;rcases vld_cases h with⟨_,h1⟩|⟨_,_,h1,h2⟩
 .rw[h1];simp[flat]
 .have:=ed (lbl n) k;rw[<-h1] at this;omega
def Qc {n:List UInt8} (h:vld n=true):0<n.length:=by
 rcases vld_cases h with⟨h1,_⟩|⟨h1,h2,h3,_⟩
 .simp[h1]
 .have:=Jm h2 h1;rw[h3];omega
def ord (s:List UInt8):Bool:=decide (1<=s.length) && decide (s.length<=63) && s.all Yw
def Cs4 (s:List UInt8):Px s=(decide (s=[42])||ord s):=rfl
def Dr2:ord [42]=false:=by decide
def uh (s:List UInt8) (N:Nat) (hN:s.length<N) (hs:s.length<=9223372036854775807):
  Eg5.ev S N [.s s]=some (if s.all Yw=true then .yld 0 [] else .ret [.b false]):=by
 refine F4 s (fun i=>[.i .i64 (i:Int)]) (fun i r=>if r.all Yw=true then .yld 0 [] else .ret [.b false]) rfl hN (fun i c r hd hi hc=> ?_) ?_
 .have key:Dz6.ev S N ([.s s]++[.i .i64 (i:Int)])=some (if Yw c=true then .yld 1 [.i .i64 ((i:Int)+1)] else .ret [.b false]):=by
   simp(disch:=omega)only[Bb9,hc,Aj,simprocAttr];unfold Yw
   grind
  rw[key];rcases Bn (Yw c) with h|h<;>simp[h,Out.goes]
 .simp(disch:=omega) [Bb9,xe,EVP,EV,simprocAttr,Out.goes]
def Mx (s:List UInt8) (hs:s.length<=9223372036854775807):S Ds6 1 [.s s]=some [.b (ord s)]:=by
 refine Hc4 (N:=s.length+1) rfl ?_;unfold ord;by_cases h1:s=[]
 .subst h1;simp(disch:=omega) [Bb9,Aj,simprocAttr]
 .have h2:1<=s.length:=Cs.2 h1;by_cases h3:s.length<=63
  .simp(disch:=omega)only[Bb9,uh,h1,Aj,simprocAttr];cases s.all Yw<;>simp[h2,h3]
  .simp(disch:=omega)only[Bb9,h1,Aj,simprocAttr];simp[h3]
def okP (i:Nat) (p:List UInt8):Bool:=ord p||(decide (i=0) && decide (p=[42]))
def Ds1:Nat->List (List UInt8)->Bool
 |_,[]=>true
 |i,p::r=>okP i p && Ds1 (i+1) r
def ln:∀(l:List (List UInt8)) (i:Nat),Ds1 i l=Hc (decide (i=0)) l
 |[],_=>rfl
 |p::r,i=>by
  have h1:=ln r (i+1);simp only[Ds1,Hc,h1,okP,Cs4];by_cases h2:p=[42]
  .subst h2;by_cases h3:i=0<;>simp[Dr2,h3]
  .simp[h2]
def Db9 (p q:PV) (l:List (List UInt8)) (hl:l.length<=1000000) (hw:∀x∈l,x.length<=9223372036854775807) (N:Nat) (hN:l.length<N):
  El0.ev S N [p,q,C6 l]=some (if Ds1 0 l=true then .yld 0 [] else .ret [.b false]):=by
 refine F4 l (fun i=>[.i .i64 (i:Int)]) (fun i r=>if Ds1 i r=true then .yld 0 [] else .ret [.b false]) rfl hN (fun i c r hd hi hc=> ?_) ?_
 .have hcw:=hw c (Cz hc);have key:Dz8.ev S N ([p,q,C6 l]++[.i .i64 (i:Int)])=some (if okP i c=true then .yld 1 [.i .i64 ((i:Int)+1)] else .ret [.b false]):=by
   rcases Bn (ord c) with h1|h1
   .simp(disch:=omega)only[bw,Mx,hc,h1,Aj,simprocAttr];simp[okP,h1]
   .by_cases h2:i=0
    .subst h2;by_cases h3:c=[42]
     .subst h3;simp(disch:=omega)only[bw,Mx,hc,h1,Aj,simprocAttr];simp[okP]
     .simp(disch:=omega)only[bw,Mx,hc,h1,h3,Aj,simprocAttr];simp[okP,h1,h3]
    .simp(disch:=omega)only[bw,Mx,hc,h1,Aj,simprocAttr];simp[okP,h1,h2]
  rw[key];rcases Bn (okP i c) with h|h<;>simp[h,Ds1,Out.goes]
 .simp(disch:=omega)only[bw,Aj,simprocAttr];simp[Out.goes,Ds1]
def dj:∀(m cur:List UInt8) (x:List UInt8),x∈pcs cur m->x.length<=cur.length+m.length
 |[],cur,x,h=>by simp[pcs] at h;subst h;simp
 |c::r,cur,x,h=>by
  simp only[pcs] at h;split at h
  .rcases Cj.1 h with rfl|h
   .omega
   .have:=dj r [] x h;simp at this ⊢;omega
  .have:=dj r _ x h;simp at this ⊢;omega
def Ey3 (m x:List UInt8) (h:x∈cut m):x.length<=m.length:=by simpa using dj m [] x h
def Hj7 (m:List UInt8):(cut m).length<=m.length+1:=by have:=Dq1 m;have:m.count 46<=m.length:=List.count_le_length;omega
def Br8 (n:List UInt8):([46]:List UInt8).isSuffixOf n=true↔∃m,n=m++[46]:=by rw[Gs];exact⟨fun⟨m,h⟩=>⟨m,h.symm⟩,fun⟨m,h⟩=>⟨m,h.symm⟩⟩
def Dg3 (m:List UInt8) (hm:m≠[]) (hl:m.length<=253):vld (m++[46])=Ds1 0 (cut m):=by have h1:m++[46]≠[46]:=fun e=>hm (R7 (bs:=[46]) (by simpa using e));have h2:0<m.length:=Cs.2 hm;unfold vld nm;rw[if_neg h1,if_pos ⟨by simp;omega,by simp;omega,by simp⟩,V6,ln];have e:pcs [] m=cut m:=rfl;have e2:Hc (decide ((0:Nat)=0)) (cut m)=Hc true (cut m):=rfl;rw[e,e2];cases Hc true (cut m)<;>rfl
def Eq4 (m:List UInt8) (h:vld (m++[46])=true) (hm:m≠[]):lbl (m++[46])=cut m:=by
 rcases vld_cases h with⟨h1,_⟩|⟨h1,h2,h3,_⟩
 .exact absurd (R7 (bs:=[46]) (by simpa using h1)) hm
 .exact(Ag0 h1 (fun p hp=>Nt (Jh h2 hp)) h3.symm).symm
def Dx (n:List UInt8) (hn:n.length<=9223372036854775807):S M8 1 [.s n]=some [.b (vld n)]:=by
 refine Hg7 (N:=300) rfl ?_;by_cases h0:n=[46]
 .subst h0;simp(disch:=omega)only[bw,Aj,simprocAttr];rfl
 .by_cases h1:255<=n.length
  .have hv:vld n=false:=by rw[Bool.eq_false_iff];intro h;have:=J0 h;omega
   simp(disch:=omega)only[bw,h0,hv,Aj,simprocAttr]
  .rcases Bn (([46]:List UInt8).isSuffixOf n) with h2|h2
   .obtain⟨m,rfl⟩:=(Br8 n).1 h2;have hm:m≠[]:=fun e=>h0 (by simp[e]);have hl:(m++[46]).length=m.length+1:=by simp
    have hml:m.length<=1000000:=by omega
    have e:List.drop 0 (List.take (((m++[46]).length:Int) - 1).toNat (m++[46]))=m:=by
     have:(((m++[46]).length:Int) - 1).toNat=m.length:=by omega
     rw[this];simp
    have hc:=Hj7 m;have hv:=Dg3 m hm (by omega);have hk:=Db9 (.s (m++[46])) (.b true) (cut m) (by omega) (fun x hx=>by have:=Ey3 m x hx;omega) 300 (by omega);simp(disch:=omega)only[bw,Ow,ql,e,hk,h0,h2,Aj,simprocAttr];rw[hv];cases Ds1 0 (cut m)<;>simp
   .have hv:vld n=false:=by
     rw[Bool.eq_false_iff];intro h;rcases vld_cases h with⟨h3,_⟩|⟨h3,_,h5,_⟩
     .exact h0 h3
     .obtain⟨m,hm⟩:=Ln _ h3;have:=(Br8 n).2 ⟨m,h5.trans hm⟩;rw[h2] at this;cases this
    simp(disch:=omega)only[bw,Ow,h0,h2,hv,Aj,simprocAttr]
def Ty (n:List UInt8) (hn:n.length<=9223372036854775807):S Zb 1 [.s n]=some [C6 (lbl n)]:=by
 refine Gz9 (N:=1) rfl ?_;by_cases h0:n=[46]
 .subst h0;simp(disch:=omega)only[Bc8,Kj,Aj,simprocAttr]
 .rcases Bn (vld n) with h1|h1
  .obtain⟨m,hm,rfl⟩:∃m,m≠[]∧n=m++[46]:=by
    rcases vld_cases h1 with⟨h3,_⟩|⟨h3,_,h5,_⟩
    .exact absurd h3 h0
    .obtain⟨m,hm⟩:=Ln _ h3;exact⟨m,fun e=>h0 (by rw[h5,hm,e];rfl),h5.trans hm⟩
   have hl:(m++[46]).length=m.length+1:=by simp
   have e:List.drop 0 (List.take (((m++[46]).length:Int) - 1).toNat (m++[46]))=m:=by
    have:(((m++[46]).length:Int) - 1).toNat=m.length:=by omega
    rw[this];simp
   have hl2:=J0 h1;have e2:=Eq4 m h1 hm;simp(disch:=omega)only[Bc8,Dx,ql,e,e2,h0,h1,Aj,simprocAttr]
  .have e:lbl n=[]:=by
    unfold lbl;unfold vld at h1;cases h:nm n with
    |none=>rfl
    |some l=>rw[h] at h1;cases h1
   simp(disch:=omega)only[Bc8,Dx,h0,h1,e,Aj,simprocAttr]
def Ry (p:List UInt8) (l:List (List UInt8)):flat (p::l)=p++46::flat l:=by simp[flat]
def dw (n:List UInt8):List UInt8:=if vld n=true∧n≠[46] then jn ((lbl n).drop 1) else []
def Af4 (n:List UInt8):Bool:=vld n && !decide (n=[46])
def Tw (n:List UInt8) (hn:n.length<=9223372036854775807):S Zl 1 [.s n]=some [.s (dw n),.b (Af4 n)]:=by
 refine Gf5 (N:=1) rfl ?_;unfold dw Af4;by_cases h0:n=[46]
 .subst h0;simp(disch:=omega)only[Aq3,Aj,simprocAttr];simp
 .rcases Bn (vld n) with h1|h1
  .rcases vld_cases h1 with⟨h3,_⟩|⟨h3,h4,h5,h6⟩
   .exact absurd h3 h0
   .cases hl:lbl n with
    |nil=>exact absurd hl h3
    |cons p r=>
     rw[hl] at h4 h5;have hp:=Nt (Jh h4 (H7 ..));have hi:=rj n 46;have hc:(((46:UInt8).toNat:Nat):Int)=46:=rfl;have hx:Lib.indexByte n 46=(p.length:Int):=by rw[h5,Ry];exact Lh 46 _ p hp
     rw[hc,hx] at hi;have hlen:n.length=p.length+1+(flat r).length:=by rw[h5,Ry];simp;omega
     have e:List.drop ((p.length:Int)+1).toNat (List.take n.length n)=flat r:=by
      have:((p.length:Int)+1).toNat=p.length+1:=by omega
      rw[this,Eh,h5,Ry];simp
     by_cases h7:r=[]
     .subst h7;have e2:flat []=[]:=rfl;simp(disch:=omega)only[Aq3,Dx,hi,e,e2,h0,h1,Aj,simprocAttr];simp[jn]
     .have e2:¬flat r=[]:=by obtain⟨m,hm⟩:=Ln r h7;rw[hm];simp
      simp(disch:=omega)only[Aq3,Dx,hi,e,e2,h0,h1,Aj,simprocAttr];simp[jn,h7]
  .simp(disch:=omega)only[Aq3,Dx,h0,h1,Aj,simprocAttr];simp
def Dj6 (n top:List UInt8):Bool:=(decide (top=[46])||decide (n=top))||(46::top).isSuffixOf n
def Dj5 (n top:List UInt8) (hn:n.length<=9223372036854775807) (ht:top.length<=1000000):S nw 2 [.s n,.s top]=some [.b (Dj6 n top)]:=by
 refine Gg3 (N:=1) rfl ?_;unfold Dj6;have h0:([46]:List UInt8).length=1:=rfl;by_cases h1:top=[46]<;>by_cases h2:n=top<;>simp(disch:=omega)only[Gj9,Ow,h1,h2,Aj,simprocAttr]
 all_goals simp
def wl {a b:List (List UInt8)} (ha:Hc true a=true) (hb:Hc true b=true) (h:(46::flat b)<:+flat a):b<:+a:=by obtain⟨p,hp⟩:=h;have h1:=Vk a (fun x hx=>Nt (Jh ha hx));have h2:=Vk b (fun x hx=>Nt (Jh hb hx));rw[<-hp] at h1;have h3:cut (p++46::flat b)=cut p++cut (flat b):=Wd (flat b) p [];rw[h3,h2,<-Cw] at h1;exact⟨cut p,R7 h1⟩
def Ex3 {n top:List UInt8} (hn:vld n=true) (ht:vld top=true):Dj6 n top=true↔lbl top<:+lbl n:=by
 unfold Dj6;simp only[Ck,decide_eq_true_eq,Gs];constructor
 .rintro ((rfl|rfl)|h)
  .rw[Kj];exact List.nil_suffix
  .exact List.suffix_refl _
  .rcases vld_cases ht with⟨h1,h2⟩|⟨h1,h2,h3,_⟩
   .rw[h2];exact List.nil_suffix
   .rcases vld_cases hn with⟨h5,_⟩|⟨h5,h6,h7,_⟩
    .rw[h5] at h;have h9:=h.length_le;have h8:=Jm h2 h1;rw[<-h3] at h8;simp only[Cv,C1] at h9;omega
    .rw[h3,h7] at h;exact wl h6 h2 h
 .intro h;obtain⟨p,hp⟩:=h;rcases vld_cases ht with⟨h1,h2⟩|⟨h1,h2,h3,_⟩
  .exact .inl (.inl h1)
  .by_cases hp0:p=[]
   .left;right;subst hp0;exact Nr hn ht hp.symm
   .right;rcases vld_cases hn with⟨_,h5⟩|⟨h5,h6,h7,_⟩
    .rw[h5] at hp;exact absurd (List.append_eq_nil_iff.1 hp).1 hp0
    .obtain⟨m,hm⟩:=Ln p hp0;rw[h7,<-hp,O7,hm];exact⟨m,by rw[Cw,<-h3];simp⟩
def Xl {α:Type} [DecidableEq α]:∀(a b:List α),xg a b=b.length↔b<+:a
 |[],[]=>by simp[xg]
 |[],y::ys=>by simp[xg]
 |x::xs,[]=>by simp[xg]
 |x::xs,y::ys=>by
  have:=Xl xs ys;simp only[xg];split
  .rename_i h;subst h;simp[this,Oz]
  .rename_i h;simp[Oz,Ne.symm h]
def kv (a b:List (List UInt8)):uk a b=b.length↔b<:+a:=by unfold uk;have:=Xl a.reverse b.reverse;rw[List.length_reverse] at this;rw[this,List.reverse_prefix]
def Dq {n top:List UInt8}:under n top=true↔vld n=true∧vld top=true∧lbl top<:+lbl n:=by unfold under;simp[kv,and_assoc]
def Y2 {n top:List UInt8} (hn:vld n=true) (ht:vld top=true):Dj6 n top=under n top:=by rw[D6,Ex3 hn ht,Dq];simp[hn,ht]
def Fc (n top:List UInt8) (hn:n.length<=9223372036854775807) (ht:top.length<=9223372036854775807):S Nh 2 [.s n,.s top]=some [.b (under n top)]:=by
 refine Hf9 (N:=1) rfl ?_;rcases Bn (vld n) with h1|h1
 .rcases Bn (vld top) with h2|h2
  .have h3:=J0 h2;simp(disch:=omega)only[Ep6,Dx,Dj5,h1,h2,Aj,simprocAttr];rw[Y2 h1 h2]
  .have h3:under n top=false:=by simp[under,h2]
   simp(disch:=omega)only[Ep6,Dx,h1,h2,h3,Aj,simprocAttr]
 .have h3:under n top=false:=by simp[under,h1]
  simp(disch:=omega)only[Ep6,Dx,h1,h3,Aj,simprocAttr]
def T8:∀(a:List UInt8),Op.bytesLess a a=false
 |[]=>rfl
 |a::x=>by simp[Op.bytesLess,T8 x]
def N7:∀(a b:List UInt8),Lib.compareBytes a b=cmpS a b
 |[],[]=>rfl
 |[],_::_=>rfl
 |_::_,[]=>rfl
 |a::x,b::y=>by
  have ih:=N7 x y;unfold cmpS at ih ⊢;simp only[Lib.compareBytes,Op.bytesLess,ih];by_cases h1:a<b
  .simp[h1]
  .by_cases h2:b<a
   .have h3:a≠b:=fun e=>by subst e;exact h1 h2
    simp[h1,h2,h3]
   .have h3:a=b:=UInt8.le_antisymm (UInt8.not_lt.1 h2) (UInt8.not_lt.1 h1);subst h3;simp[h1]
def Kp {a b:List UInt8}:cmpS a b=0↔a=b:=by
 unfold cmpS;by_cases h:a=b
 .subst h;simp[T8]
 .cases h2:Op.bytesLess a b<;>simp[h]
def Mn (x y:List UInt8):S Wp 2 [.s x,.s y]=some [.i .i64 (cmpS x y)]:=by rw[Aj5,N7]
def X5:List (List UInt8)->List (List UInt8)->Option Int
 |x::xs,y::ys=>if x=y then X5 xs ys else some (cmpS x y)
 |_,_=>none
def Dq5:∀(a b:List (List UInt8)),X5 a b=if xg a b<a.length∧xg a b<b.length then some (cmpS (a.getD (xg a b) []) (b.getD (xg a b) [])) else none
 |[],b=>by simp[X5,xg]
 |x::xs,[]=>by simp[X5,xg]
 |x::xs,y::ys=>by
  have ih:=Dq5 xs ys;simp only[X5,xg];by_cases h:x=y
  .simp only[if_pos h,ih];simp
  .simp[h]
def Bw9 (a b:List (List UInt8)):Int:=match X5 a.reverse b.reverse with
 |some c=>c
 |none=>if a.length<b.length then -1 else if b.length<a.length then 1 else 0
def Af6 (a:List (List UInt8)) (k:Nat) (h:k<a.length):a.reverse.getD k []=a.getD (a.length - 1 - k) []:=by simp[C9,List.getElem?_reverse h]
def fg {a b:List UInt8} (ha:vld a=true) (hb:vld b=true):Ky a b=Bw9 (lbl a) (lbl b):=by
 unfold Ky Bw9;rw[Dq5];have e:xg (lbl a).reverse (lbl b).reverse=uk (lbl a) (lbl b):=rfl;rw[e,ha,hb];simp only[List.length_reverse,Bool.and_self,if_true];by_cases h:uk (lbl a) (lbl b)<(lbl a).length∧uk (lbl a) (lbl b)<(lbl b).length
 .rw[if_pos h,if_pos h,Af6 _ _ h.1,Af6 _ _ h.2]
 .rw[if_neg h,if_neg h]
def Aj7 (a b:List (List UInt8)) (p1 p2 p3 p4:PV) (ha:a.length<=1000) (hb:b.length<=1000) (N:Nat) (hN:1001<N):
  v8.ev S N [p1,p2,p3,p4,C6 a,C6 b]=some (match X5 a.reverse b.reverse with|some c=> .ret [.i .i64 c]|none=> .yld 0 []):=by
 have key:=Ll (fn:=S) (N:=N) (J:=[p1,p2,p3,p4,C6 a,C6 b]) (id:=1) (init:=[(.c (.i .i64 (1)))]) (body:=z7) (α:=Nat) (fun k=>[.i .i64 ((k:Int)+1)])
  (fun k=>match X5 (a.reverse.drop k) (b.reverse.drop k) with|some c=> .ret [.i .i64 c]|none=> .yld 0 []) (fun k=>k<=a.length∧k<=b.length) (fun k=>a.length - k) 0 rfl ⟨Db _,Db _⟩ (by omega) ?_
 .simpa [v8] using key
 .rintro k ⟨h1,h2⟩;by_cases h3:k<a.length
  .by_cases h4:k<b.length
   .have e1:((a.length:Int) - ((k:Int)+1)).toNat=a.length - 1 - k:=by omega
    have e2:((b.length:Int) - ((k:Int)+1)).toNat=b.length - 1 - k:=by omega
    have g1:a[a.length - 1 - k]? =some (a[a.length - 1 - k]'(by omega)):=B3 (by omega);have g2:b[b.length - 1 - k]? =some (b[b.length - 1 - k]'(by omega)):=B3 (by omega);have d1:a.reverse.drop k=(a[a.length - 1 - k]'(by omega))::a.reverse.drop (k+1):=by rw[D7 (by simpa using h3)];simp
    have d2:b.reverse.drop k=(b[b.length - 1 - k]'(by omega))::b.reverse.drop (k+1):=by rw[D7 (by simpa using h4)];simp
    rw[d1,d2];generalize (a[a.length - 1 - k]'(by omega))=x at g1;generalize (b[b.length - 1 - k]'(by omega))=y at g2;simp only[X5];by_cases h:x=y
    .left;have h5:cmpS x y=0:=Kp.2 h;refine⟨k+1,?_,⟨by omega,by omega⟩,by omega,by rw[if_pos h]⟩;simp(disch:=omega)only[Vn,Mn,e1,e2,g1,g2,h5,Aj,simprocAttr]
    .right;have h5:¬cmpS x y=0:=fun e=>h (Kp.1 e);rw[if_neg h];simp(disch:=omega)only[Vn,Mn,e1,e2,g1,g2,h5,Aj,simprocAttr];simp[Out.goes]
   .right;have d2:b.reverse.drop k=[]:=ab (by simp;omega);have z:X5 (a.reverse.drop k) []=none:=by cases a.reverse.drop k<;>rfl
    rw[d2,z];simp(disch:=omega) [Vn,xe,EVP,EV,simprocAttr,Out.goes]
  .right;have d1:a.reverse.drop k=[]:=ab (by simp;omega);have z:X5 [] (b.reverse.drop k)=none:=rfl;rw[d1,z];simp(disch:=omega) [Vn,xe,EVP,EV,simprocAttr,Out.goes]
def Jq (a b:List UInt8) (hn:a.length<=9223372036854775807) (ht:b.length<=9223372036854775807):S Lq 2 [.s a,.s b]=some [.i .i64 (Ky a b)]:=by
 refine Gd8 (N:=1002) rfl ?_;have h1:=Np a;have h2:=Np b;rcases Bn (vld a) with h3|h3<;>rcases Bn (vld b) with h4|h4
 .rw[fg h3 h4];unfold Bw9;have hk:=Aj7 (lbl a) (lbl b) (.s a) (.s b) (.b true) (.b true) (by omega) (by omega) 1002 (by omega);cases h5:X5 (lbl a).reverse (lbl b).reverse with
  |some c=>
   rw[h5] at hk;simp(disch:=omega)only[Vn,Dx,Ty,hk,h3,h4,Aj,simprocAttr]
  |none=>
   rw[h5] at hk;simp(disch:=omega)only[Vn,Dx,Ty,hk,h3,h4,Aj,simprocAttr]
   grind
 all_goals unfold Ky
 all_goals simp(disch:=omega)only[Vn,Dx,Mn,h3,h4,Aj,simprocAttr]
 all_goals simp
def Ad8 {n:List UInt8} (h:vld n=true) (k:Nat):(jn ((lbl n).drop k)).length<=254:=J0 (Ob h k).1
def X8 (n:List UInt8):List UInt8:=if n=[46] then [42,46] else [42,46]++n
def starOk (n:List UInt8):Bool:=vld n && !decide ((lbl n)[0]? =some [42]) && vld (X8 n)
def starN (n:List UInt8):List UInt8:=if starOk n=true then X8 n else []
def Sb {n:List UInt8} (h:vld n=true):(n[0]? =some 42↔(lbl n)[0]? =some [42]):=by
 rcases vld_cases h with⟨h1,h2⟩|⟨h1,h2,h3,_⟩
 .subst h1;simp[Kj]
 .cases hl:lbl n with
  |nil=>exact absurd hl h1
  |cons p r=>
   rw[hl] at h2 h3;have hp:=Jh h2 (H7 ..);have hne:=Af1 hp;cases p with
   |nil=>exact absurd rfl hne
   |cons c q=>
    rw[h3,Ry];simp only[Df,Dr,Bm];constructor
    .rintro rfl;unfold Px at hp;simp at hp;rcases hp with h|h
     .rw[h]
     .exfalso;have:Yw 42=false:=by decide
      rw[this] at h;simp at h
    .intro h;injection h
def g7 (n:List UInt8) (hn:n.length<=1000000):S Zg 1 [.s n]=some [.s (starN n),.b (starOk n)]:=by
 refine Gf0 (N:=1) rfl ?_;have h0:([42,46]:List UInt8).length=2:=rfl;have hl:(X8 n).length<=9223372036854775807:=by
  unfold X8;split
  .simp
  .rw[Bt,h0];omega
 unfold starN starOk;have tail:T.ev S 1 yq [.s n,.s (X8 n)]=some (.ret [.s (starN n),.b (starOk n)]):=by
  unfold starN starOk;rcases Bn (vld n) with h3|h3
  .have h4:=Sb h3;have h5:=B3 (Qc h3);have h6:=Hy9 (n[0]'(Qc h3)) 42 (by omega);by_cases h7:(lbl n)[0]? =some [42]
   .have h8:=h4.2 h7;rw[h5] at h8;injection h8 with h8;have h9:((n[0]'(Qc h3)).toNat:Int)=42:=h6.2 h8;simp(disch:=omega)only[Aq2,Dx,h3,h5,Aj,simprocAttr];simp[h7]
   .have h8:¬n[0]? =some 42:=fun e=>h7 (h4.1 e);rw[h5] at h8;have h9:¬((n[0]'(Qc h3)).toNat:Int)=42:=fun e=>h8 (by rw[h6.1 e];rfl);rcases Bn (vld (X8 n)) with ha|ha<;>simp(disch:=omega)only[Aq2,Dx,h3,h5,ha,Aj,simprocAttr]<;>simp[h7]
  .simp(disch:=omega)only[Aq2,Dx,h3,Aj,simprocAttr];simp
 unfold starN starOk at tail;obtain⟨y0,y1,y2,y3,y4,y5,y6,y7,yt⟩:=Aq2;by_cases h4:n=[46]
 .have e:X8 n=[42,46]:=by simp[X8,h4]
  rw[e] at tail ⊢;subst h4;simp(disch:=omega)only[y0,y1,y2,yt,Aj,simprocAttr];rw[tail];simp
 .have e:X8 n=42::46::n:=by simp[X8,h4]
  rw[e] at tail ⊢;simp(disch:=omega)only[y0,y1,y2,yt,h4,Aj,simprocAttr];rw[tail];simp
def t15 (t:Int):t=1∨t=2∨t=5∨t=6∨t=12∨t=15∨t=16∨t=28∨t=33∨t=39∨t=43∨t=46∨t=47∨t=48∨(t≠1∧t≠2∧t≠5∧t≠6∧t≠12∧t≠15∧t≠16∧t≠28∧t≠33∧t≠39∧t≠43∧t≠46∧t≠47∧t≠48):=by omega
def knw (t:Int):Bool:=decide (t=1)||decide (t=2)||decide (t=5)||decide (t=6)||decide (t=12)||decide (t=15)||decide (t=16)||decide (t=28)||decide (t=33)||decide (t=39)||decide (t=43)||decide (t=46)||decide (t=47)||decide (t=48)
def F2 (d:Dat):Bool:=d.v6||(decide (d.hi=0) && decide (d.lo<4294967296))
def inB (n most:Int):Bool:=decide (0<=n) && decide (n<=most)
def K0 (s:List UInt8):Bool:=decide (1<=s.length) && decide (s.length<=255)
def Jg (n:List UInt8):Bool:=vld n && decide (n[0]? ≠some 42)
def bit (set:Int) (t:Nat):Int:=set / 2 ^ t % 2
def Hr8 (x:Int):IntKind.u64.wrap ((BitVec.ofInt IntKind.u64.bits x &&& BitVec.ofInt IntKind.u64.bits 1).toNat:Int)=x % 2:=by
 have h2:(BitVec.ofInt 64 x &&& BitVec.ofInt 64 1).toNat=(BitVec.ofInt 64 x).toNat % 2:=by rw[BitVec.toNat_and];show (BitVec.ofInt 64 x).toNat &&& 1=_;exact Nat.and_one_is_mod _
 show IntKind.u64.wrap (((BitVec.ofInt 64 x &&& BitVec.ofInt 64 1).toNat:Nat):Int)=_;rw[h2,BitVec.toNat_ofInt];rw[Hq4]<;>omega
def El9 (r:Rec) (t:Int):Bool:=decide (0<=t) && decide (t<=63) && decide (bit r.data.bits t.toNat=1)
def Bj7 (r:Rec) (t:Int):S Zf 2 [r.pv,.i .i64 t]=some [.b (El9 r t)]:=by
 refine Gd6 (N:=1) rfl ?_;unfold El9;by_cases h1:0<=t
 .by_cases h2:t<=63
  .obtain⟨n,rfl⟩:∃n:Nat,t=(n:Int):=⟨t.toNat,by omega⟩;have hb:IntKind.u64.bits=64:=rfl;have h3:X.bin .shr (.i .u64 r.data.bits) (.i .i64 (n:Int))=some (.i .u64 (r.data.bits / 2 ^ n)):=Bt3 _ _ _ _ (by rw[hb];omega);have h4:r.data.bits / 2 ^ n % 2=bit r.data.bits n:=rfl;simp(disch:=omega)only[Bd5,gw,Hr8,h3,h4,Aj,simprocAttr]
   try simp
   try omega
  .simp(disch:=omega)only[Bd5,Aj,simprocAttr]
   try simp[h2]
 .simp(disch:=omega)only[Bd5,Aj,simprocAttr]
  try simp[h1]
def qd (n top:List UInt8):Bool:=decide (n≠top) && under n top
def Tn (n top:List UInt8) (hn:n.length<=9223372036854775807) (ht:top.length<=9223372036854775807):S Dt1 2 [.s n,.s top]=some [.b (qd n top)]:=by
 refine Hd2 (N:=1) rfl ?_;unfold qd;by_cases h:n=top
 .simp(disch:=omega)only[Fs3,h,Aj,simprocAttr]
  try simp
 .simp(disch:=omega)only[Fs3,Fc,h,Aj,simprocAttr]
  try simp
def pn (r:Rec):Bool:=El9 r 39||(El9 r 2 && !El9 r 6)
def Ah0 (r:Rec):S Ab7 1 [r.pv]=some [.b (pn r)]:=by refine Gd7 (N:=1) rfl ?_;unfold pn;rcases Bn (El9 r 39) with h1|h1<;>rcases Bn (El9 r 2) with h2|h2<;>rcases Bn (El9 r 6) with h3|h3<;>simp(disch:=omega)only[Gj5,Bj7,h1,h2,h3,Aj,simprocAttr]<;>rfl
def S8 (r:Rec) (zone name:List UInt8):Bool:=
 decide (r.typ=47) && under name zone && decide (0<Ky name r.name) && !(decide (r.data.host≠zone) && decide (0<=Ky name r.data.host)) && (!qd name r.name|| !pn r)
def rv (r:Rec) (zone name:List UInt8) (hr:r.wf) (hz:zone.length<=9223372036854775807) (hn:name.length<=9223372036854775807):S Cg3 3 [r.pv,.s zone,.s name]=some [.b (S8 r zone name)]:=by
 refine Hd3 (N:=1) rfl ?_;have g1:=hr.name;have g2:=hr.data.host;unfold Uw at g1 g2;unfold S8;by_cases h1:r.typ=47
 .rcases Bn (under name zone) with h2|h2
  .by_cases h3:0<Ky name r.name
   .by_cases h4:r.data.host=zone
    .rcases Bn (qd name r.name) with h6|h6<;>rcases Bn (pn r) with h7|h7<;>simp(disch:=omega)only[Am6,Fc,Jq,Tn,Ah0,h1,h2,h4,h6,h7,Aj,simprocAttr]<;>simp[h3]
    .by_cases h5:0<=Ky name r.data.host
     .simp(disch:=omega)only[Am6,Fc,Jq,h1,h2,h4,Aj,simprocAttr]
      try simp[h4,h5]
     .rcases Bn (qd name r.name) with h6|h6<;>rcases Bn (pn r) with h7|h7<;>simp(disch:=omega)only[Am6,Fc,Jq,Tn,Ah0,h1,h2,h4,h6,h7,Aj,simprocAttr]<;>simp[h3,h5]
   .simp(disch:=omega)only[Am6,Fc,Jq,h1,h2,Aj,simprocAttr]
    try simp[h3]
  .simp(disch:=omega)only[Am6,Fc,h1,h2,Aj,simprocAttr]
   try simp
 .simp(disch:=omega)only[Am6,h1,Aj,simprocAttr]
  try simp
def Lm (v:List UInt8):List (List UInt8)->Nat->Int
 |[],_=> -1
 |x::r,i=>if v=x then(i:Int) else Lm v r (i+1)
def og (v:List UInt8):∀(l:List (List UInt8)) (i:Nat),decide (0<=Lm v l i)=decide (v∈l)
 |[],i=>by simp[Lm]
 |x::r,i=>by
  simp only[Lm];by_cases h:v=x
  .simp[h]
  .simp only[if_neg h,og v r (i+1)];simp[h]
def Cj8 (l:List (List UInt8)) (v:List UInt8) (hl:l.length<=1000000):S m9 2 [C6 l,.s v]=some [.i .i64 (Lm v l 0)]:=by
 refine Ed7 (N:=l.length+1) rfl ?_;have key:v7.ev S (l.length+1) [C6 l,.s v]=some (if Lm v l 0= -1 then .yld 0 [] else .ret [.i .i64 (Lm v l 0)]):=by
  refine F4 l (fun i=>[.i .i64 (i:Int)]) (fun i r=>if Lm v r i= -1 then .yld 0 [] else .ret [.i .i64 (Lm v r i)]) rfl (by omega) (fun i c r hd hi hc=> ?_) ?_
  .by_cases h:v=c
   .right;simp(disch:=omega)only[Py,hc,h,Aj,simprocAttr];have:¬((i:Int)= -1):=by omega
    simp[Lm,this,Out.goes]
   .left;simp(disch:=omega)only[Py,hc,h,Aj,simprocAttr]
    try simp[Lm,h]
  .simp(disch:=omega)only[Py,Aj,simprocAttr]
   try simp[Lm,Out.goes]
 by_cases h:Lm v l 0= -1
 .rw[if_pos h] at key;simp(disch:=omega)only[Py,key,h,Aj,simprocAttr]
 .rw[if_neg h] at key;simp(disch:=omega)only[Py,key,Aj,simprocAttr]
def kw (l:List (List UInt8)) (v:List UInt8) (hl:l.length<=1000000):S Yv 2 [C6 l,.s v]=some [.b (decide (v∈l))]:=by refine Gx1 (N:=1) rfl ?_;rw[<-og v l 0];simp(disch:=omega)only[Fs4,Cj8,Aj,simprocAttr]
end Go.X.G
