/- nsec: what the chain of a checked zone is; the law NsecOrder. -/
import Derived.Test.YtfnmphjdknjkmaaGreatDoorNsecSoundG13
import Derived.Test.YtfnmphjdknjkmaaGreatDoorNsecSoundG11
open BitVec renaming getLsbD_and→L3,getLsbD_not→Gt7
open Bool renaming eq_false_or_eq_true→Ak,and_eq_true→Av,false_eq_true→Ad,or_eq_true→An,not_eq_true'→A5,eq_false_iff→Ef,and_eq_false_iff→Gq,false_or→Hz,true_and→Qf
open Classical renaming not_not→Hb
open Int renaming toNat_natCast→Ed
open List renaming getElem?_eq_some_iff→Aw,getElem?_eq_getElem→Ay,length_append→Ac,mem_cons→Am,length_take→Ap,pairwise_cons→A0,getElem?_append_right→A3,mem_of_getElem?→A4,length_cons→A6,getElem?_drop→A8,all_eq_true→Bq,length_pos_iff→Bb,mem_filter→Bd,any_eq_true→Bg,length_drop→Bt,take_add_one→Ck,drop_drop→Cd,mem_map→C7,length_filter_le→Dq,pairwise_iff_getElem→Dp,mem_range→D3,mem_iff_getElem?→D8,length_map→Ev,suffix_iff_eq_drop→Ew,exists_mem_of_ne_nil→Ep,filter_eq_nil_iff→Er,mem_of_mem_drop→Ff,mem_filterMap→If,set_append_right→M7,getElem?_eq_none_iff→Ov,getElem?_set_ne→O0,getElem?_set_self→Y8,find?_eq_none→Y9,all_cons→od,filterMap_cons→Ed1
open Nat renaming le_trans→C6
open Option renaming map_some→A7,getD_some→Cl
open Option.some renaming injEq→Aq
set_option maxHeartbeats 1000000
set_option linter.defProp false
set_option linter.unusedVariables false
set_option linter.unusedSimpArgs false
namespace Go.X.G
open Go Go.X
def bv (x:Int):BitVec 64:=BitVec.ofInt 64 x
def wm (v:BitVec 64):bv (IntKind.u64.wrap (v.toNat:Int))=v:=by have h:=v.isLt;rw [Fy5 (by omega) (by omega)];unfold bv;rw [BitVec.ofInt_natCast,BitVec.ofNat_toNat,BitVec.setWidth_eq]
def Gp6 (x y:Int):bv (anB x y)=bv x &&& ~~~ bv y:=wm _
def Gp7 (x y:Int):bv (adB x y)=bv x &&& bv y:=wm _
def Fv9 (g t:Int):bv (bitO g t)=bv g|||bv (shO t):=wm _
def wn (k:Nat):∀(l:List Int) (g:Int),(bv (l.foldl bitO g)).getLsbD k=((bv g).getLsbD k||l.any fun t=>(bv (shO t)).getLsbD k)
 |[],g=>by simp
 |t::l,g=>by rw [List.foldl_cons,wn k l,Fv9,BitVec.getLsbD_or,List.any_cons,Bool.or_assoc]
def Gp8 (v:BitVec 64) (k:Nat):bit (IntKind.u64.wrap (v.toNat:Int)) k=if v.getLsbD k=true then 1 else 0:=by
 have h:=v.isLt;rw [Fy5 (by omega) (by omega)];unfold bit;have e:(((v.toNat / 2 ^ k % 2:Nat)):Int)=(v.toNat:Int) / 2 ^ k % 2:=by rw [Int.natCast_emod,Int.natCast_ediv];simp
 rw [←e,BitVec.getLsbD,Nat.testBit_eq_decide_div_mod_eq];by_cases h1:v.toNat / 2 ^ k % 2=1
 ·rw [h1];simp
 ·have:v.toNat / 2 ^ k % 2=0:=by omega
  rw [this];simp
def Ag8 (x y:Int) (k:Nat):bit (orB x y) k=if (bv x).getLsbD k||(bv y).getLsbD k then 1 else 0:=by unfold orB;rw [show IntKind.u64.bits=64 from rfl,Gp8,BitVec.getLsbD_or];rfl
def Hd9 (x:Int):bit (orB x Wk) 47=1:=by rw [Ag8,show (bv Wk).getLsbD 47=true by kernel_rfl,Bool.or_true];rfl
def Hf0 (x:Int):bit (orB x Wk) 46=1:=by rw [Ag8,show (bv Wk).getLsbD 46=true by kernel_rfl,Bool.or_true];rfl
def zx {z:Zone} {n:List UInt8} (h:tyO z n≠0):∃r∈z.recs,r.name=n:=by
 cases e:typesR z.recs n with
 |nil=>
  exfalso;apply h;unfold tyO;rw [e]
  kernel_rfl
 |cons t l=>
  have:t∈typesR z.recs n:=by rw [e];exact .head _
  simp only [typesR,C7,Bd,Av,decide_eq_true_eq] at this;obtain ⟨r,⟨hr,hn,_⟩,_⟩:=this;exact ⟨r,hr,hn⟩
def Bd1 {z:Zone} {n:List UInt8} {r:Rec} (hr:r∈z.recs) (hn:r.name=n) (hk:knw r.typ=true) (k:Nat) (h1:(bv (shO r.typ)).getLsbD k=true) (h2:(bv Wk).getLsbD k=false):(bv (tyO z n)).getLsbD k=true:=by
 unfold tyO;rw [Gp6,L3,Gt7,h2,wn];have hlt:k<64:=BitVec.lt_of_getLsbD h1;have:(typesR z.recs n).any (fun t=>(bv (shO t)).getLsbD k)=true:=by rw [Bg];refine ⟨r.typ,?_,h1⟩;simp only [typesR,C7,Bd,Av,decide_eq_true_eq];exact ⟨r,⟨hr,hn,hk⟩,rfl⟩
 rw [this];simp [hlt]
def Al8 {z:Zone} (ho:ZOk z):tyO z z.origin≠0:=by
 obtain ⟨r,hr,hn,ht⟩:=ho.soaR;have h:=Bd1 hr hn (by rw [ht];kernel_rfl) 6 (by rw [ht];kernel_rfl) (by kernel_rfl);intro e;rw [e] at h;have h2:(bv 0).getLsbD 6=false:=by kernel_rfl
 rw [h2] at h;cases h
def Cx8 (g:List Rec) (i j:Nat) (a:Rec) (hi:i<g.length) (ha:g[j]? =some a):(lnk g i)[j]? =some (if 0<i∧j=i - 1 then El5 (g[i]'hi).name a else a):=by
 unfold lnk;by_cases h0:0<i
 ·have a1:g[i - 1]? =some (g[i - 1]'(by omega)):=Ay (by omega);have a2:g[i]? =some (g[i]'hi):=Ay hi;rw [if_pos h0,a1,a2];simp only;by_cases hj:j=i - 1
  ·subst hj;rw [if_pos ⟨h0,rfl⟩,Y8 (by omega)];rw [a1] at ha;injection ha with ha;rw [ha]
  ·rw [if_neg (by omega),O0 (by omega),ha]
 ·rw [if_neg h0,if_neg (by omega),ha]
def nxt (g:List Rec) (j:Nat) (a:Rec):Rec:=match g[j+1]? with
 |some b=>El5 b.name a
 |none=>a
def Ab1:∀(k i:Nat) (g:List Rec),g.length=i+k→∀(j:Nat) (a:Rec),g[j]? =some a→(Cx9 k i g)[j]? =some (if i≤j+1 then nxt g j a else a)
 |0,i,g,hl,j,a,ha=>by
  show g[j]? =_;rw [ha];by_cases h:i≤j+1
  ·rw [if_pos h];have:g[j+1]? =none:=by rw [Ov];omega
   unfold nxt;rw [this]
  ·rw [if_neg h]
 |k+1,i,g,hl,j,a,ha=>by
  show (Cx9 k (i+1) (lnk g i))[j]? =_;have hi:i<g.length:=by omega
  have hj:=Cx8 g i j a hi ha;rw [Ab1 k (i+1) (lnk g i) (by rw [bz];omega) j _ hj];by_cases h1:0<i∧j=i - 1
  ·rw [if_neg (by omega),if_pos h1,if_pos (by omega)];unfold nxt;have e:j+1=i:=by omega
   rw [e,Ay hi]
  ·rw [if_neg h1];by_cases h2:i≤j+1
   ·have h3:i+1≤j+1:=by omega
    rw [if_pos h2,if_pos h3];unfold nxt;cases hb:g[j+1]? with
    |none=>
     have:(lnk g i)[j+1]? =none:=by rw [Ov] at hb ⊢;rw [bz];exact hb
     rw [this]
    |some b=>
     rw [Cx8 g i (j+1) b hi hb,if_neg (by omega)]
   ·rw [if_neg h2,if_neg (by omega)]
def Ab0:∀(k i:Nat) (g:List Rec),(Cx9 k i g).length=g.length
 |0,_,_=>rfl
 |k+1,i,g=>by show (Cx9 k (i+1) (lnk g i)).length=_;rw [Ab0,bz]
def Nn (z:Zone):(chainN z).length=(chain0 z (Qb z)).length:=Ab0 _ _ _
def Rw {z:Zone} {j:Nat} {a:Rec} (h:(chain0 z (Qb z))[j]? =some a):(chainN z)[j]? =some (nxt (chain0 z (Qb z)) j a):=by unfold chainN;rw [Ab1 _ 0 _ (by omega) j a h,if_pos (by omega)]
def Np {z:Zone} {ttl:Int} {a:Rec} (h:a∈chain0 z ttl):∃n∈namesN z,tyO z n≠0∧a=⟨n,47,ttl,⟨false,0,0,z.origin,[],[],0,0,0,0,0,0,chBits z n⟩⟩:=by
 unfold chain0 at h;rw [If] at h;obtain ⟨n,hn,ha⟩:=h;unfold Km at ha;split at ha
 ·cases ha
 ·rename_i h0;injection ha with ha;exact ⟨n,hn,h0,ha.symm⟩
def P8 (z:Zone) (ttl:Int):(chain0 z ttl).Pairwise fun a b=>ltN a.name b.name:=by
 unfold chain0;have h:(namesN z).Pairwise ltN:=Jv _;generalize namesN z=l at*
 induction l with
 |nil=>exact .nil
 |cons n l ih=>
  obtain ⟨h1,h2⟩:=A0.1 h;rw [Ed1];split
  ·exact ih h2
  ·rename_i b hb;refine A0.2 ⟨fun w hw=> ?_,ih h2⟩;rw [If] at hw;obtain ⟨m,hm,hw⟩:=hw;have e:∀{x:List UInt8} {y:Rec},Km z ttl x=some y→y.name=x:=by
    intro x y hy;unfold Km at hy;split at hy
    ·cases hy
    ·injection hy with hy;rw [←hy]
   rw [e hb,e hw];exact h1 m hm
def At6 {z:Zone} (ho:ZOk z):∃r,namesN z=z.origin::r:=by
 have hm:z.origin∈namesN z:=by have:=Ly z z.origin;rw [ho.exO] at this;simpa using this
 have hs:(namesN z).Pairwise ltN:=Jv _;have hu:∀x∈namesN z,under x z.origin=true:=fun x hx=>cg (by rw [←Ly];simpa using hx);generalize namesN z=l at*;cases l with
 |nil=>cases hm
 |cons x r=>
  refine ⟨r,?_⟩;congr 1;rcases Am.1 hm with e|hm
  ·exact e.symm
  ·have h1:=(A0.1 hs).1 _ hm;apply Classical.byContradiction;intro hne;exact to_N.asym h1 (M8 (hu x (.head _)) hne)
def u6 {z:Zone} (ho:ZOk z):∃a,(chain0 z (Qb z))[0]? =some a∧a.name=z.origin:=by obtain ⟨r,hr⟩:=At6 ho;unfold chain0;rw [hr,Ed1];unfold Km;rw [if_neg (Al8 ho)];exact ⟨_,rfl,rfl⟩
structure ChainOk (z:Zone) (l:List Rec):Prop where
 pos:0<l.length
 first:∀a,l[0]? =some a→a.name=z.origin
 last:∀a,l[l.length - 1]? =some a→a.data.host=z.origin
 each:∀a∈l,a.typ=47∧bit a.data.bits 47=1∧bit a.data.bits 46=1∧(∃r∈z.recs,r.name=a.name)∧under a.name z.origin=true
 next:∀i a b,l[i]? =some a→l[i+1]? =some b→a.data.host=b.name∧ltN a.name b.name
def J1 (g:List Rec) (j:Nat) (a:Rec):(nxt g j a).name=a.name:=by unfold nxt;split<;>rfl
def Cq2 (g:List Rec) (j:Nat) (a:Rec):(nxt g j a).typ=a.typ:=by unfold nxt;split<;>rfl
def Ay8 (g:List Rec) (j:Nat) (a:Rec):(nxt g j a).data.bits=a.data.bits:=by unfold nxt;split<;>rfl
def Hy {z:Zone} {j:Nat} {b:Rec} (h:(chainN z)[j]? =some b):∃a,(chain0 z (Qb z))[j]? =some a∧b=nxt (chain0 z (Qb z)) j a:=by have hlt:=(Aw.1 h).1;rw [Nn] at hlt;have e:=Ay hlt;refine ⟨_,e,?_⟩;rw [Rw e] at h;injection h with h;exact h.symm
def Dr8 {z:Zone} (ho:ZOk z):ChainOk z (chainN z):=by
 obtain ⟨a0,h0,n0⟩:=u6 ho;have hp:0<(chain0 z (Qb z)).length:=(Aw.1 h0).1;refine ⟨by rw [Nn];exact hp,fun a ha=> ?_,fun a ha=> ?_,fun b hb=> ?_,fun i a b ha hb=> ?_⟩
 ·rw [Rw h0] at ha;injection ha with ha;rw [←ha,J1];exact n0
 ·rw [Nn] at ha;obtain ⟨c,hc,rfl⟩:=Hy ha;have:(chain0 z (Qb z))[(chain0 z (Qb z)).length - 1+1]? =none:=by rw [Ov];omega
  unfold nxt;rw [this];obtain ⟨n,_,_,e⟩:=Np (A4 hc);rw [e]
 ·obtain ⟨j,hj⟩:=D8.1 hb;obtain ⟨c,hc,rfl⟩:=Hy hj;obtain ⟨n,hn,h1,e⟩:=Np (A4 hc);rw [J1,Cq2,Ay8,e];exact ⟨rfl,Hd9 _,Hf0 _,zx h1,cg (by rw [←Ly];simpa using hn)⟩
 ·obtain ⟨c,hc,rfl⟩:=Hy ha;obtain ⟨d,hd,rfl⟩:=Hy hb;rw [J1,J1];constructor
  ·unfold nxt;rw [hd];rfl
  ·have hs:=P8 z (Qb z);rw [Dp] at hs;obtain ⟨h1,e1⟩:=Aw.1 hc;obtain ⟨h2,e2⟩:=Aw.1 hd;have:=hs i (i+1) h1 h2 (by omega);rw [e1,e2] at this;exact this
end Go.X.G
/- Wildcards; what a zone says about a question. -/
namespace Go.X.G
open Go Go.X
def Ux (n:List UInt8) (r:Rec):Rec:={r with name:=n}
def Dc4 (l:List Rec) (n:List UInt8) (i:Nat) (c:Rec) (r g:List Rec) (hd:l.drop i=c::r) (hi:i<l.length) (hc:l[i]? =some c) (hg:g=(l.take i).map (Ux n)++l.drop i):
  g[i]? =some c∧g.length=l.length∧g.set i {c with name:=n}=(l.take (i+1)).map (Ux n)++l.drop (i+1):=by
 have hA:((l.take i).map (Ux n)).length=i:=by rw [Ev,Ap];omega
 have hd1:l.drop (i+1)=r:=by rw [←Cd (i:=1) (j:=i),hd];rfl
 have ht:(l.take (i+1)).map (Ux n)=(l.take i).map (Ux n)++[Ux n c]:=by rw [Ck,hc,List.map_append];rfl
 rw [ht,hd1];rw [hd] at hg;have hlen:l.length=i+(r.length+1):=by have:=congrArg List.length hd;rw [Bt,A6] at this;omega
 generalize (l.take i).map (Ux n)=A at*;subst hg;refine ⟨?_,?_,?_⟩
 ·rw [A3 (by omega),hA];simp
 ·rw [Ac,A6,hA];omega
 ·rw [M7 _ _ (by omega),hA];simp [Ux]
def Ef4 (z:Zone) (q:Ques) (l:List Rec) (p2 p3 p4 p5:PV) (N:Nat) (hN:l.length<N) (hl:l.length≤1000000):
  Ex0.ev S N [z.pv,q.pv,p2,p3,p4,p5,Ag l]=some (.yld 0 [Ag (l.map (Ux q.name))]):=by
 refine Fj l (fun i (g:List Rec)=>[Ag g, .i .i64 (i:Int)]) (fun i g r=> .yld 0 [Ag (l.map (Ux q.name))]) (fun i g=>g=(l.take i).map (Ux q.name)++l.drop i) l (by simp (disch:=omega) only [EVM,EVC,xe,EVP,EV,simprocAttr]) (by simp) hN (fun i g c r hd hi hc hI=> ?_) (fun g hI=> ?_)
 ·left;obtain ⟨h1,h2,h3⟩:=Dc4 l q.name i c r g hd hi hc hI;refine ⟨g.set i {c with name:=q.name},?_,h3,rfl⟩;have hs:Px 16 0 [.s q.name] (Ag g) (.i .i64 (i:Int))=some (Ag (g.set i {c with name:=q.name})):=by have:=Bg5 g .i64 (i:Int) q.name c (by omega) (by rw [Ed];exact h1);rwa [Ed] at this
  generalize g.set i {c with name:=q.name}=g' at*;simp (disch:=omega) only [Al1,h1,hs,EVM,EVC,EVR,xe,EVP,EV,simprocAttr]
 ·have e:g=l.map (Ux q.name):=by rw [hI];simp
  rw [←e];simp (disch:=omega) only [Al1,EVM,EVC,EVR,xe,EVP,EV,simprocAttr]
  try simp [Out.goes]
def Zf (z:Zone) (q:Ques):Option Res:=
 if starOk (encN z q.name)=true∧allR z (starN (encN z q.name))≠[] then
  some {saysM ((allR z (starN (encN z q.name))).map (Ux q.name)) q.typ with owner:=starN (encN z q.name),wild:=true}
 else none
def Ah3 (z:Zone) (n:List UInt8):(allR z n).length≤z.recs.length:=Dq _ _
def Ac8 (z:Zone) (n:List UInt8):(encN z n).length≤254:=by
 unfold encN;rcases Ak (under n z.origin) with hu|hu
 ·rw [if_pos hu];cases h:Bx9 z n with
  |none=>simp
  |some e=>exact Gs (By.1 (Ml hu h).1).2.1
 ·rw [if_neg (by simp [hu])];simp
def Am3:starOk []=false:=by decide
def Ef3 (z:Zone) (q:Ques) (hz:z.wf) (hl:z.recs.length≤1000) (hq:q.name.length≤9223372036854775807):S Cq6 2 [z.pv,q.pv]=some (Lh (Zf z q)):=by
 refine Hx5 (N:=2000) rfl ?_;have k1:=Rf z q.name hz hl hq;have el:=Ac8 z q.name;have k2:=Tf (encN z q.name) (by omega);have k3:=Ay9 z (starN (encN z q.name)) (by omega);have al:=Ah3 z (starN (encN z q.name));unfold Zf;by_cases h1:encN z q.name=[]
 ·rw [h1] at k1 ⊢;rw [Am3,if_neg (by simp)];simp (disch:=omega) only [Al1,k1,Lh,EVM,EVC,EVR,xe,EVP,EV,simprocAttr]
  try simp
 ·have h2:decide (encN z q.name≠[])=true:=by simp [h1]
  rw [h2] at k1;rcases Ak (starOk (encN z q.name)) with h3|h3
  ·rw [h3] at k2;by_cases h4:allR z (starN (encN z q.name))=[]
   ·rw [if_neg (by simp [h4])];rw [h4] at k3;simp (disch:=omega) only [Al1,k1,k2,k3,Lh,EVM,EVC,EVR,xe,EVP,EV,simprocAttr]
    try simp
   ·rw [if_pos ⟨h3,h4⟩];have h5:¬((allR z (starN (encN z q.name))).length:Int)=0:=by have:=Bb.2 h4;omega
    have k4:=fun p2 p3 p4 p5=>Ef4 z q (allR z (starN (encN z q.name))) p2 p3 p4 p5 2000 (by omega) (by omega);have k5:=Bh1 ((allR z (starN (encN z q.name))).map (Ux q.name)) q.typ (by rw [Ev];omega);generalize (allR z (starN (encN z q.name))).map (Ux q.name)=ml at*;generalize allR z (starN (encN z q.name))=al at*;simp (disch:=omega) only [Al1,k1,k2,k3,k4,k5,h5,Lh,EVM,EVC,EVR,xe,EVP,EV,simprocAttr]
  ·rw [h3] at k2;rw [if_neg (by simp [h3])];generalize allR z (starN (encN z q.name))=al at*;simp (disch:=omega) only [Al1,k1,k2,k3,Lh,EVM,EVC,EVR,xe,EVP,EV,simprocAttr]
   try simp
def Cf4 (z:Zone) (q:Ques):Res:=
 match Bx8 z q.name with
 |some x=>x
 |none=>if exB z q.name=true then {saysM (allR z q.name) q.typ with owner:=q.name} else (Zf z q).getD ⟨6,q.name,false,[],[]⟩
def findM (z:Zone) (q:Ques):Res:=
 if under q.name z.origin=true then
  if cutN z q.name≠[]∧(cutN z q.name≠q.name∨q.typ≠43) then ⟨4,cutN z q.name,false,[],findR z.recs (cutN z q.name) 2⟩ else Cf4 z q
 else Gt8
def Cg2 (z:Zone) (q:Ques) (hz:z.wf) (hl:z.recs.length≤1000) (hq:q.name.length≤9223372036854775807):S Bj9 2 [z.pv,q.pv]=some [(findM z q).pv]:=by
 refine Hc2 (N:=1) rfl ?_;have g1:=hz.origin;unfold Pq at g1;have k0:=Ec q.name z.origin hq g1;have k1:=Ed3 z q.name hz (by omega) hq;have k2:=Zx z (cutN z q.name) 2 (by omega);have k4:=Al0 z q.name hz hl;have k5:=Ay9 z q.name (by omega);have al:=Ah3 z q.name;have k6:=Bh1 (allR z q.name) q.typ (by omega);have k7:=Ef3 z q hz hl hq;unfold findM;rcases Ak (under q.name z.origin) with hu|hu
 ·rw [if_pos hu];rw [hu] at k0;have k3:=fx z q.name hz (by omega) hu;have tail:∀p3 p4,T.ev S 1 wz [z.pv,q.pv, .b true,p3,p4]=some (.ret [(Cf4 z q).pv]):=by
   intro p3 p4;unfold Cf4;cases hr:Bx8 z q.name with
   |some x=>
    rw [hr] at k3;simp only [Lh] at k3;simp (disch:=omega) only [Zc,k3,EVM,EVC,EVR,xe,EVP,EV,simprocAttr]
   |none=>
    rw [hr] at k3;simp only [Lh] at k3;rcases Ak (exB z q.name) with he|he
    ·rw [he] at k4;simp only [he,if_true];generalize saysM (allR z q.name) q.typ=sm at*;generalize allR z q.name=ar at*;simp (disch:=omega) only [Zc,k3,k4,k5,k6,EVM,EVC,EVR,xe,EVP,EV,simprocAttr]
    ·rw [he] at k4;simp only [he,Ad,if_false];cases hw:Zf z q with
     |some x=>
      rw [hw] at k7;simp only [Lh] at k7;simp (disch:=omega) only [Zc,k3,k4,k7,EVM,EVC,EVR,xe,EVP,EV,simprocAttr]
      try rfl
     |none=>
      rw [hw] at k7;simp only [Lh] at k7;simp (disch:=omega) only [Zc,k3,k4,k7,EVM,EVC,EVR,xe,EVP,EV,simprocAttr]
      try rfl
  by_cases h1:cutN z q.name=[]
  ·rw [h1] at k1;rw [if_neg (by simp [h1])];simp (disch:=omega) only [↓tail,Zc,k0,k1,ne_eq,not_true,decide_false,EVM,EVC,EVR,xe,EVP,EV,simprocAttr]
  ·have h2:decide (cutN z q.name≠[])=true:=by simp [h1]
   rw [h2] at k1;by_cases h3:cutN z q.name=q.name
   ·by_cases h4:q.typ=43
    ·rw [if_neg (by simp [h3,h4])];rw [h3] at k1;simp (disch:=omega) only [↓tail,Zc,k0,k1,h4,EVM,EVC,EVR,xe,EVP,EV,simprocAttr]
    ·rw [if_pos ⟨h1, .inr h4⟩];rw [h3] at k1 k2 ⊢;generalize findR z.recs q.name 2=fr at*;simp (disch:=omega) only [Zc,k0,k1,k2,h4,EVM,EVC,EVR,xe,EVP,EV,simprocAttr]
   ·rw [if_pos ⟨h1, .inl h3⟩];generalize findR z.recs (cutN z q.name) 2=fr at*;simp (disch:=omega) only [Zc,k0,k1,k2,h3,EVM,EVC,EVR,xe,EVP,EV,simprocAttr]
 ·rw [if_neg (by simp [hu])];rw [hu] at k0;simp (disch:=omega) only [Zc,k0,EVM,EVC,EVR,xe,EVP,EV,simprocAttr]
def Em0 {z:Zone} {n u:List UInt8} (h:Ev2 z n=some u):∃r rest,findR z.recs u 39=r::rest:=by
 unfold Ev2 at h;have:=List.find?_some h;unfold dnB at this;cases hf:findR z.recs u 39 with
 |nil=>rw [hf] at this;simp at this
 |cons r rest=>exact ⟨r,rest,rfl⟩
end Go.X.G
/- nsec: the reference's chain. -/
namespace Go.X.G
open Go Go.X
def jc {z:Zone} {n:List UInt8} (h:n∈namesN z):L0 z n=false∧under n z.origin=true:=by obtain ⟨r,hr,h1,h2,h3,h4⟩:=(Nw z n).1 h;refine ⟨?_,h4⟩;rw [Ef];intro hn;unfold L0 at hn h2;rw [Bg] at hn;obtain ⟨c,hc,h5⟩:=hn;simp only [Av,decide_eq_true_eq] at h5;obtain ⟨⟨c1,c2⟩,c3⟩:=h5;rw [List.any_eq_false] at h2;refine h2 c hc ?_;simp only [Av,decide_eq_true_eq];refine ⟨⟨c1,fun e=> ?_⟩,K1 h3 c3⟩;rw [←e] at h3;exact c2 (W6 h3 c3)
end Go.X.G
/- What a checked zone says about a question, in plain words. -/
namespace Go.X.G
open Go Go.X
def At4 {z:Zone} {n:List UInt8} (ho:ZOk z) (hu:under n z.origin=true) (hx:exB z n=false) (hc:cutN z n=[]∨cutN z n=n):∀r∈z.recs,under r.name n=false:=by
 intro r hr;rcases Ak (under r.name n) with h|h
 ·exfalso;have h1:=ho.under hr;have hh:L0 z r.name=true:=by
   rcases Ak (L0 z r.name) with e|e
   ·exact e
   ·have:=(J3 z n).2 ⟨r,hr,h1,e,h,hu⟩;rw [hx] at this;cases this
  rw [Cf3] at hh;simp only [Av,decide_eq_true_eq] at hh;obtain ⟨c1,_,_,_,_,c2⟩:=Vm ho hh.1;obtain ⟨_,g2⟩:=Mp z r.name z.recs [] (.inl rfl);obtain ⟨_,g3,_,_⟩:=g2 hh.1;obtain ⟨x,hxm,x1,x2⟩:=g3.resolve_left hh.1;change x.name=cutN z r.name at x2;generalize cutN z r.name=c at*;obtain ⟨_,_,s1⟩:=By.1 c1;obtain ⟨_,vn,s2⟩:=By.1 h;obtain ⟨_,vc,_⟩:=By.1 c1;by_cases hl:(lbl n).length≤(lbl c).length
  ·have hcn:under c n=true:=By.2 ⟨vc,vn,T1 s2 s1 hl⟩;obtain ⟨y,y1,y2,y3,y4,_⟩:=(J3 z c).1 c2;have:=(J3 z n).2 ⟨y,y1,y2,y3,K1 y4 hcn,hu⟩;rw [hx] at this;cases this
  ·have hnc:under n c=true:=By.2 ⟨vn,vc,T1 s1 s2 (by omega)⟩;obtain ⟨k1,k2⟩:=Mp z n z.recs [] (.inl rfl);rcases hc with hc|hc
   ·have:=(k1 hc).2 x hxm x1;rw [x2,hnc] at this;cases this
   ·by_cases hc0:cutN z n=[]
    ·have:=(k1 hc0).2 x hxm x1;rw [x2,hnc] at this;cases this
    ·obtain ⟨_,_,_,k3⟩:=k2 hc0;have:=k3 x hxm x1 (by rw [x2];exact hnc);change (lbl (cutN z n)).length≤_ at this;rw [hc,x2] at this;omega
 ·exact h
def Mr (z:Zone) (n:List UInt8) (t:Int):Nat:=(z.recs.filter fun r=>decide (r.name=n) && (decide (t=255)||decide (r.typ=t))).length
def Lb (z:Zone) (n:List UInt8) (t:Int):Mr z n t=(typedR (allR z n) t).length:=by
 unfold Mr typedR allR;split
 ·rename_i h;subst h;simp
 ·rename_i h;rw [List.filter_filter];congr 1;refine List.filter_congr fun r _=> ?_;simp [h,Bool.and_comm]
def Bv4 (z:Zone) (n:List UInt8):Mr z n 2=(findR z.recs n 2).length:=by unfold Mr findR;congr 1
def f8 {l:List Rec} {t:Int} {x:Rec} (h:x∈typedR l t):x∈l∧(x.typ=t∨t=255):=by
 unfold typedR at h;split at h
 ·rename_i e;exact ⟨h, .inr e⟩
 ·obtain ⟨h1,h2⟩:=Bd.1 h;exact ⟨h1, .inl (by simpa using h2)⟩
def f7 (l:List Rec) (n:List UInt8) (t:Int):(typedR (l.map (Ux n)) t).length=(typedR l t).length:=by
 unfold typedR;split
 ·simp
 ·rw [List.filter_map,Ev];rfl
structure FindOk (z:Zone) (q:Ques) (r:Res):Prop where
 ans:r.kind=1→r.recs≠[]∧r.recs.length=Mr z r.owner q.typ∧(r.wild=false→r.owner=q.name)∧∀x∈r.recs,x.name=q.name∧(x.typ=q.typ∨q.typ=255)∧{x with name:=r.owner}∈z.recs
 nothing:r.kind=6∨r.wild=true→∀x∈z.recs,under x.name q.name=false
 out:r.kind=0→under q.name z.origin=false
 nodata:r.kind=5→Mr z r.owner q.typ=0
 nx:r.kind=6→r.recs=[]∧r.wild=false
 ref:r.kind=4→under q.name r.owner=true∧r.owner≠z.origin∧r.recs.length=Mr z r.owner 2∧r.recs≠[]∧∀x∈r.recs,x.typ=2
 kinds:r.kind=0∨r.kind=1∨(r.kind=2∧r.recs≠[])∨(r.kind=3∧r.recs≠[])∨r.kind=4∨r.kind=5∨r.kind=6
def says_kind (l:List Rec) (t:Int):((saysM l t).kind=2∧(saysM l t).recs≠[])∨((saysM l t).kind=5∧typedR l t=[])∨((saysM l t).kind=1∧typedR l t≠[]∧(saysM l t).recs=typedR l t):=by
 unfold saysM;split
 ·exact .inl ⟨rfl,by simp⟩
 ·split
  ·rename_i h;exact .inr (.inl ⟨rfl,h⟩)
  ·rename_i h;exact .inr (.inr ⟨rfl,h,rfl⟩)
def T8 (l:List Rec) (t:Int):(saysM l t).wild=false:=by
 unfold saysM;split
 ·rfl
 ·split<;>rfl
def Cg1 (z:Zone) (q:Ques) (ho:ZOk z):FindOk z q (findM z q):=by
 unfold findM;split
 ·rename_i hu;split
  ·rename_i hc;obtain ⟨f1,f2,f3,_⟩:=Vm ho hc.1;refine ⟨fun h=>by simp at h,fun h=>by simp at h,fun h=>by simp at h,fun h=>by simp at h,fun h=>by simp at h,fun _=>⟨f1,f2,(Bv4 z _).symm,fun e=>f3 (by have e':findR z.recs (cutN z q.name) 2=[]:=e;rw [e'];rfl),fun x hx=>(Iq.1 hx).2.2⟩,by simp⟩
  ·rename_i hc;have hc':cutN z q.name=[]∨cutN z q.name=q.name:=by
    by_cases h0:cutN z q.name=[]
    ·exact .inl h0
    ·refine .inr (Classical.byContradiction fun h1=>hc ⟨h0, .inl h1⟩)
   unfold Cf4;cases hr:Bx8 z q.name with
   |some x=>
    simp only;unfold Bx8 at hr;cases hr2:Ev2 z q.name with
    |none=>rw [hr2] at hr;cases hr
    |some u=>
     rw [hr2] at hr;simp only [A7,Aq] at hr;obtain ⟨r0,rest,hf⟩:=Em0 hr2;unfold Ay2 at hr;rw [hf] at hr;subst hr;exact ⟨fun h=>by simp at h,fun h=>by simp at h,fun h=>by simp at h,fun h=>by simp at h,fun h=>by simp at h,fun h=>by simp at h,by simp⟩
   |none=>
    simp only;split
    ·rename_i hex;rcases says_kind (allR z q.name) q.typ with ⟨k,k'⟩|⟨k,kt⟩|⟨k,kt,kr⟩
     ·refine ⟨fun h=> ?_,fun h=> ?_,fun h=> ?_,fun h=> ?_,fun h=> ?_,fun h=> ?_, .inr (.inr (.inl ⟨k,k'⟩))⟩<;>simp [k,T8] at h
     ·refine ⟨fun h=> ?_,fun h=> ?_,fun h=> ?_,fun _=> ?_,fun h=> ?_,fun h=> ?_,by simp [k]⟩
      ·simp [k] at h
      ·simp [k,T8] at h
      ·simp [k] at h
      ·show Mr z q.name q.typ=0;rw [Lb,kt];rfl
      ·simp [k] at h
      ·simp [k] at h
     ·refine ⟨fun _=>⟨?_,?_,fun _=>rfl,?_⟩,fun h=> ?_,fun h=> ?_,fun h=> ?_,fun h=> ?_,fun h=> ?_,by simp [k]⟩
      ·show (saysM (allR z q.name) q.typ).recs≠[];rw [kr];exact kt
      ·show (saysM (allR z q.name) q.typ).recs.length=Mr z q.name q.typ;rw [kr,Lb]
      ·intro x hx;change x∈(saysM (allR z q.name) q.typ).recs at hx;rw [kr] at hx;obtain ⟨h1,h2⟩:=f8 hx;obtain ⟨h3,h4⟩:=Bd.1 h1;have h5:x.name=q.name:=by simpa using h4
       refine ⟨h5,h2,?_⟩;show {x with name:=q.name}∈z.recs;rw [←h5];exact h3
      ·simp [k,T8] at h
      ·simp [k] at h
      ·simp [k] at h
      ·simp [k] at h
      ·simp [k] at h
    ·rename_i hex;have hex':exB z q.name=false:=by simpa using hex
     have hno:=At4 ho hu hex' hc';unfold Zf;split
     ·simp only [Cl];generalize starN (encN z q.name)=s;rcases says_kind ((allR z s).map (Ux q.name)) q.typ with ⟨k,k'⟩|⟨k,kt⟩|⟨k,kt,kr⟩
      ·refine ⟨fun h=> ?_,fun _=>hno,fun h=> ?_,fun h=> ?_,fun h=> ?_,fun h=> ?_, .inr (.inr (.inl ⟨k,k'⟩))⟩<;>simp [k] at h
      ·refine ⟨fun h=> ?_,fun _=>hno,fun h=> ?_,fun _=> ?_,fun h=> ?_,fun h=> ?_,by simp [k]⟩
       ·simp [k] at h
       ·simp [k] at h
       ·show Mr z s q.typ=0;rw [Lb,←f7 (allR z s) q.name q.typ,kt];rfl
       ·simp [k] at h
       ·simp [k] at h
      ·refine ⟨fun _=>⟨?_,?_,fun h=> ?_,?_⟩,fun _=>hno,fun h=> ?_,fun h=> ?_,fun h=> ?_,fun h=> ?_,by simp [k]⟩
       ·show (saysM ((allR z s).map (Ux q.name)) q.typ).recs≠[];rw [kr];exact kt
       ·show (saysM ((allR z s).map (Ux q.name)) q.typ).recs.length=Mr z s q.typ;rw [kr,Lb,f7]
       ·simp at h
       ·intro x hx;change x∈(saysM ((allR z s).map (Ux q.name)) q.typ).recs at hx;rw [kr] at hx;obtain ⟨h1,h2⟩:=f8 hx;obtain ⟨y,h3,rfl⟩:=C7.1 h1;obtain ⟨h4,h5⟩:=Bd.1 h3;have h6:y.name=s:=by simpa using h5
        refine ⟨rfl,h2,?_⟩;show {Ux q.name y with name:=s}∈z.recs;rw [←h6];exact h4
       ·simp [k] at h
       ·simp [k] at h
       ·simp [k] at h
       ·simp [k] at h
     ·simp only [Option.getD_none];refine ⟨fun h=>by simp at h,fun _=>hno,fun h=>by simp at h,fun h=>by simp at h,fun _=>⟨rfl,rfl⟩,fun h=>by simp at h,by simp⟩
 ·rename_i hu;have hu':under q.name z.origin=false:=by simpa using hu
  refine ⟨fun h=>by simp at h,fun h=>by simp at h,fun _=>hu',fun h=>by simp at h,fun h=>by simp at h,fun h=>by simp at h,by simp⟩
end Go.X.G
/- The law NsecOrder. -/
namespace Go.X.G
open Go Go.X
def ownB (z:Zone) (n:List UInt8):Bool:=z.recs.any fun r=>decide (r.name=n)
def At0 (z:Zone) (n:List UInt8) (hl:z.recs.length≤1000000):S Cx0 2 [z.pv, .s n]=some [.b (ownB z n)]:=by
 refine Hc5 (N:=z.recs.length+1) rfl ?_;have key:Ey5.ev S (z.recs.length+1) [z.pv, .s n]=some (if ownB z n=true then .ret [.b true] else .yld 0 []):=by
  refine E9 z.recs (fun i=>[.i .i64 (i:Int)]) (fun i r=>if (r.any fun r=>decide (r.name=n))=true then .ret [.b true] else .yld 0 []) rfl (by omega) (fun i c r hd hi hc=> ?_) ?_
  ·by_cases h:c.name=n
   ·right;simp (disch:=omega) only [Dj9,hc,h,EVC,xe,EVP,EV,simprocAttr];simp [h,Out.goes]
   ·left;simp (disch:=omega) only [Dj9,hc,h,EVC,xe,EVP,EV,simprocAttr];simp [h]
  ·simp (disch:=omega) only [Dj9,EVC,xe,EVP,EV,simprocAttr];simp [Out.goes]
 rcases Ak (ownB z n) with h|h<;>rw [h] at key ⊢<;>simp (disch:=omega) only [Dj9,key,EVC,xe,EVP,EV,simprocAttr]<;>simp
def Em7 (x y:Int):Ct0 (orB x y):=by have h:=(BitVec.ofInt IntKind.u64.bits x|||BitVec.ofInt IntKind.u64.bits y).isLt;have h2:(2:Nat) ^ IntKind.u64.bits=18446744073709551616:=rfl;unfold orB Ct0;rw [Fy5 (by omega) (by omega)];omega
def Dh6 {z:Zone} (hz:z.wf):Sm (Qb z):=by
 unfold Qb;cases e:findR z.recs z.origin 6 with
 |nil=>unfold Sm;simp
 |cons r l=>
  have:r∈findR z.recs z.origin 6:=by rw [e];exact .head _
  exact (hz.recs.2 r (Iq.1 this).1).data.e
def nw {z:Zone} (hz:z.wf):∀a∈chain0 z (Qb z),a.wf:=fun a ha=>by obtain ⟨n,hn,_,rfl⟩:=Np ha;have hv:=Gs (By.1 (cg (z:=z) (n:=n) (by rw [←Ly];simpa using hn))).1;exact ⟨by unfold Pq;simp only;omega,by unfold Sm;simp,Dh6 hz,⟨by unfold Ct0;simp,by unfold Ct0;simp,hz.origin,by unfold Pq;simp,by unfold Pq;simp,by unfold Sm;simp,by unfold Sm;simp,by unfold Sm;simp,by unfold Sm;simp,by unfold Sm;simp,by unfold Sm;simp,Em7 _ _⟩⟩
def En8 {z:Zone} (hz:z.wf):∀a∈chainN z,a.wf:=fun b hb=>by
 obtain ⟨j,hj⟩:=D8.1 hb;obtain ⟨c,hc,rfl⟩:=Hy hj;have hw:=nw hz c (A4 hc);unfold nxt;split
 ·rename_i d hd;have hd:=nw hz d (A4 hd);exact ⟨hw.name,hw.typ,hw.ttl,⟨hw.data.hi,hw.data.lo,hd.name,hw.data.mail,hw.data.text,hw.data.a,hw.data.b,hw.data.c,hw.data.d,hw.data.e,hw.data.f,hw.data.bits⟩⟩
 ·exact hw
end Go.X.G
/- nsec: Needed; the law NsecChains. -/
namespace Go.X.G
open Go Go.X
def l7 (z:Zone) (name owner star:List UInt8) (r:Rec):Bool:=decide (r.name=owner)||G2 r z.origin name||(decide (star≠[]) && G2 r z.origin star)
def Ev9 (x:Res) (name:List UInt8):List UInt8:=if x.wild=true then x.owner else name
def Gw2 (z:Zone) (x:Res) (name:List UInt8):List UInt8:=if x.kind=6 then starN (encN z name) else []
def neededN (z:Zone) (name:List UInt8):List Rec:=
 if J6 z=0 then
  if (findM z ⟨name,43⟩).kind=0∨(findM z ⟨name,43⟩).kind=4∨(findM z ⟨name,43⟩).kind=3 then []
  else (chainN z).filter (l7 z name (Ev9 (findM z ⟨name,43⟩) name) (Gw2 z (findM z ⟨name,43⟩) name))
 else []
def Bf5 (n:List UInt8):(starN n).length≤254:=by
 unfold starN;split
 ·rename_i h;unfold starOk at h;simp only [Av] at h;exact Gs h.2
 ·simp
def Bx1 (z:Zone) (name owner star:List UInt8) (r:Rec) (hr:r.wf) (hz:z.wf) (hn:name.length≤9223372036854775807) (hs:star.length≤9223372036854775807):S ah 1 [r.pv, .s owner,z.pv, .s name, .s star]=some [.b (!l7 z name owner star r)]:=by
 refine Hy1 (N:=1) rfl ?_;have g1:=hz.origin;unfold Pq at g1;have k1:=M6 r z.origin name hr g1 hn;have k2:=M6 r z.origin star hr g1 hs;unfold l7;by_cases h1:r.name=owner
 ·simp (disch:=omega) only [Dj7,h1,C4,Df,EVC,xe,EVP,EV,simprocAttr]
  try simp
 ·rcases Ak (G2 r z.origin name) with e1|e1
  ·simp (disch:=omega) only [Dj7,h1,k1,e1,C4,Df,EVC,xe,EVP,EV,simprocAttr]
   try simp
  ·by_cases h2:star=[]
   ·subst h2;simp (disch:=omega) only [Dj7,h1,k1,e1,C4,Df,EVC,xe,EVP,EV,simprocAttr]
    try simp [h1]
   ·rcases Ak (G2 r z.origin star) with e2|e2<;>simp (disch:=omega) only [Dj7,h1,h2,k1,k2,e1,e2,C4,Df,EVC,xe,EVP,EV,simprocAttr]<;>simp [h1,h2]
def Rz (z:Zone) (name owner star:List UInt8) (hz:z.wf) (l:List Rec) (hw:∀r∈l,r.wf) (hl:l.length≤1000000) (hn:name.length≤9223372036854775807) (hs:star.length≤9223372036854775807):
  S am 1048578 [Ag l, .f ah [.s owner,z.pv, .s name, .s star]]=some [Ag (l.filter (l7 z name owner star))]:=by
 have:=Y5 l ah [.s owner,z.pv, .s name, .s star] (fun r=> !l7 z name owner star r) hl (fun r hr=>Bx1 z name owner star r (hw r hr) hz hn hs);simpa using this
def V0 {z:Zone} (hl:z.recs.length≤1000):(chainN z).length≤1000000:=by have:=Yt z (Qb z);have:=Nx z hl;rw [Nn];omega
def Bx0 (z:Zone) (name:List UInt8) (hz:z.wf) (hw:J6 z=0→∀a∈chainN z,a.wf) (hl:z.recs.length≤1000) (hn:name.length≤9223372036854775807):S Cw9 2 [z.pv, .s name]=some [Ag (neededN z name)]:=by
 refine Hc4 (N:=1) rfl ?_;have k1:=Wj z hz hl;unfold neededN;by_cases h:J6 z=0
 ·rw [if_pos h] at k1 ⊢;have ho:=Vs h;have hw:=hw h;have hcl:=V0 hl;have k2:=Cg2 z ⟨name,43⟩ hz hl hn;have hx:=Cg1 z ⟨name,43⟩ ho;have k3:=Rf z name hz hl hn;have el:=Ac8 z name;have k4:=Tf (encN z name) (by omega);have sl:=Bf5 (encN z name);have d1:=Rz z name name (starN (encN z name)) hz (chainN z) hw hcl hn (by omega);generalize findM z ⟨name,43⟩=x at*;have d2:=Rz z name x.owner [] hz (chainN z) hw hcl hn (by simp);have d3:=Rz z name name [] hz (chainN z) hw hcl hn (by simp);generalize chainN z=l at*;unfold Ev9 Gw2;by_cases h0:x.kind=0
  ·simp (disch:=omega) only [pw,k1,k2,h0,Hr,C4,Df,EVM,EVR,EVC,xe,EVP,EV,simprocAttr]
   try simp
  ·by_cases h4:x.kind=4
   ·simp (disch:=omega) only [pw,k1,k2,h0,h4,Hr,C4,Df,EVM,EVR,EVC,xe,EVP,EV,simprocAttr]
    try simp
   ·by_cases h3:x.kind=3
    ·simp (disch:=omega) only [pw,k1,k2,h0,h4,h3,Hr,C4,Df,EVM,EVR,EVC,xe,EVP,EV,simprocAttr]
     try simp
    ·rw [if_neg (by simp [h0,h4,h3])];by_cases h6:x.kind=6
     ·rw [if_pos h6,(hx.nx h6).2,if_neg (by simp)];generalize starN (encN z name)=st at*;generalize starOk (encN z name)=so at*;generalize List.filter (l7 z name name st) l=fl at*;simp (disch:=omega) only [pw,k1,k2,k3,k4,d1,h0,h4,h3,h6,Dh,Kk,Hr,C4,Df,EVM,EVR,EVC,xe,EVP,EV,simprocAttr]
     ·rw [if_neg h6];rcases Ak x.wild with e|e
      ·rw [if_pos e];generalize List.filter (l7 z name x.owner []) l=fl at*;simp (disch:=omega) only [pw,k1,k2,d2,h0,h4,h3,h6,e,Dh,Kk,Hr,C4,Df,EVM,EVR,EVC,xe,EVP,EV,simprocAttr]
      ·rw [if_neg (by rw [e];simp)];generalize List.filter (l7 z name name []) l=fl at*;simp (disch:=omega) only [pw,k1,k2,d3,h0,h4,h3,h6,e,Dh,Kk,Hr,C4,Df,EVM,EVR,EVC,xe,EVP,EV,simprocAttr]
 ·rw [if_neg h] at k1 ⊢;simp (disch:=omega) only [pw,k1,Hr,C4,Df,EVM,EVR,EVC,xe,EVP,EV,simprocAttr]
end Go.X.G
/- nsec: the chain of a zone, its gaps, and what they show. -/
namespace Go.X.G
open Go Go.X
def o6 {z:Zone} (ho:ZOk z) {r:Rec} (hr:r∈z.recs):knw r.typ=true:=by have:=ho.valid r hr;unfold Qy at this;simp only [Av] at this;exact this.1.1.1.2
def Bz4 {z:Zone} (ho:ZOk z) {r:Rec} (hr:r∈z.recs) (h:r.typ=6):r.name=z.origin:=by have:=ho.recs r hr;unfold Q3 at this;simp only [Av,A5,Gq,decide_eq_false_iff_not,ne_eq,Hb] at this;exact this.1.1.2.resolve_left (fun q=>q h)
def Bz5 {z:Zone} (ho:ZOk z) {r:Rec} (hr:r∈z.recs):Q4 z r=true:=by have:=ho.recs r hr;unfold Q3 at this;simp only [Av] at this;exact this.2
def Dt9 {z:Zone} (ho:ZOk z) {r x:Rec} (hr:r∈z.recs) (hx:x∈z.recs) (h:x.typ=39):D9 r.name x.name=false:=by
 have:=Bz5 ho hr;unfold Q4 at this;split at this
 ·cases this
 ·simp only [Av] at this;have:=Bq.1 this.1 x hx;unfold Nv at this;simp only [Av,A5,h,decide_true,Qf] at this;exact this.1
def Fz9 {z:Zone} (ho:ZOk z) {r x:Rec} (hr:r∈z.recs) (hx:x∈z.recs) (hn:x.name=r.name) (h:r.typ=5):x.typ=5∨x.typ=46∨x.typ=47:=
 ((M0 r x).1 (ho.beside hr hx) hn).2 h
def Ey8 {t:Int} (h:knw t=true):0≤t∧t≤63:=by rcases knw_cases h with rfl|rfl|rfl|rfl|rfl|rfl|rfl|rfl|rfl|rfl|rfl|rfl|rfl|rfl<;>decide
def own_bits {k:Nat} (hk:k<64):(bv Wk).getLsbD k=true↔k=46∨k=47:=by
 have key:(List.range 64).all (fun k=>(bv Wk).getLsbD k==(k==46||k==47))=true:=by kernel_rfl
 have:=eq_of_beq (Bq.1 key k (D3.2 hk));rw [this];simp
def Ay4 {k:Nat} (hk:k<64):(bv Ct2).getLsbD k=true↔k=2∨k=43:=by
 have key:(List.range 64).all (fun k=>(bv Ct2).getLsbD k==(k==2||k==43))=true:=by kernel_rfl
 have:=eq_of_beq (Bq.1 key k (D3.2 hk));rw [this];simp
def Eq6 {t:Int} (h:knw t=true) {k:Nat} (hk:k<64):(bv (shO t)).getLsbD k=decide (t=(k:Int)):=by
 have key:(List.range 64).all (fun k=>(bv (shO t)).getLsbD k==decide (t=(k:Int)))=true:=by rcases knw_cases h with rfl|rfl|rfl|rfl|rfl|rfl|rfl|rfl|rfl|rfl|rfl|rfl|rfl|rfl<;>kernel_rfl
 exact eq_of_beq (Bq.1 key k (D3.2 hk))
def zw {z:Zone} (ho:ZOk z) {n:List UInt8} {k:Nat} (hk:k<64) (h2:(bv Wk).getLsbD k=false):(bv (tyO z n)).getLsbD k=true↔∃r∈z.recs,r.name=n∧r.typ=(k:Int):=by
 constructor
 ·intro h;unfold tyO at h;rw [Gp6,L3,Gt7,h2,wn] at h;have h0:(bv 0).getLsbD k=false:=by have e:bv 0=0#64:=rfl;rw [e];simp
  rw [h0] at h;simp only [Hz,Av,Bg] at h;obtain ⟨⟨t,ht,hb⟩,_⟩:=h;simp only [typesR,C7,Bd,Av,decide_eq_true_eq] at ht;obtain ⟨r,⟨hr,hn,hkn⟩,rfl⟩:=ht;rw [Eq6 hkn hk] at hb;exact ⟨r,hr,hn,of_decide_eq_true hb⟩
 ·rintro ⟨r,hr,hn,ht⟩;have hkn:=o6 ho hr;exact Bd1 hr hn hkn k (by rw [Eq6 hkn hk];simpa using ht) h2
structure IsC (z:Zone) (a:Rec):Prop where
 typ:a.typ=47
 nam:a.name∈namesN z
 hid:L0 z a.name=false
 own:∃r∈z.recs,r.name=a.name
 bits:a.data.bits=chBits z a.name
def J7 {z:Zone} {a:Rec} (h:a∈chainN z):IsC z a:=by
 obtain ⟨i,hi⟩:=D8.1 h;obtain ⟨b,hb,e⟩:=Hy hi;obtain ⟨n,hn,ht,eb⟩:=Np (A4 hb);have en:a.name=n:=by rw [e,J1,eb]
 refine ⟨by rw [e,Cq2,eb],by rw [en];exact hn,by rw [en];exact (jc hn).1,by rw [en];exact zx ht,?_⟩;rw [en,e,Ay8,eb]
def U8 {z:Zone} {a:Rec} (ho:ZOk z) (h:IsC z a) {r:Rec} (hr:r∈z.recs) (hn:r.name=a.name) {t:Int} (ht:r.typ=t) (hc:a.name∈cutsN z→t=2∨t=43):Qc a t=true:=by
 have hkn:=o6 ho hr;rw [ht] at hkn;have hrg:=Ey8 hkn;obtain ⟨k,rfl⟩:∃k:Nat,t=(k:Int):=⟨t.toNat,by omega⟩;have hk:k<64:=by omega
 have key:bit (chBits z a.name) k=1:=by
  unfold chBits;rw [Ag8,if_pos];by_cases h2:(bv Wk).getLsbD k=true
  ·rw [h2,Bool.or_true]
  ·have h2':(bv Wk).getLsbD k=false:=by simpa using h2
   have h3:=(zw ho hk h2').2 ⟨r,hr,hn,ht⟩;by_cases hcu:a.name∈cutsN z
   ·rw [if_pos hcu,Gp7,L3,h3,(Ay4 hk).2 (by have:=hc hcu;omega)];rfl
   ·rw [if_neg hcu,h3];rfl
 unfold Qc;rw [h.bits,Ed,key];simp;omega
def Dn1 {z:Zone} {a:Rec} (ho:ZOk z) (h:IsC z a) {t:Int} (ht:Qc a t=true):t=46∨t=47∨((∃r∈z.recs,r.name=a.name∧r.typ=t)∧(a.name∈cutsN z→t=2∨t=43)):=by
 unfold Qc at ht;simp only [Av,decide_eq_true_eq] at ht;obtain ⟨⟨h0,h1⟩,h2⟩:=ht;obtain ⟨k,rfl⟩:∃k:Nat,t=(k:Int):=⟨t.toNat,by omega⟩;have hk:k<64:=by omega
 rw [Ed,h.bits] at h2;unfold chBits at h2;rw [Ag8] at h2;by_cases h3:(bv Wk).getLsbD k=true
 ·rcases (own_bits hk).1 h3 with rfl|rfl
  ·exact .inl rfl
  ·exact .inr (.inl rfl)
 ·have h3':(bv Wk).getLsbD k=false:=by simpa using h3
  rw [h3',Bool.or_false] at h2;right;right;by_cases hcu:a.name∈cutsN z
  ·rw [if_pos hcu,Gp7,L3] at h2;split at h2
   ·rename_i h4;simp only [Av] at h4;refine ⟨(zw ho hk h3').1 h4.1,fun _=> ?_⟩;have:=(Ay4 hk).1 h4.2;omega
   ·omega
  ·rw [if_neg hcu] at h2;split at h2
   ·rename_i h4;exact ⟨(zw ho hk h3').1 h4,fun q=>absurd q hcu⟩
   ·omega
def Gv6 {z:Zone} {a:Rec} (ho:ZOk z) (h:IsC z a) {t:Int} (h1:t≠46) (h2:t≠47) (ht:Qc a t=true):(∃r∈z.recs,r.name=a.name∧r.typ=t)∧(a.name∈cutsN z→t=2∨t=43):=
 ((Dn1 ho h ht).resolve_left h1).resolve_left h2
def inC (z:Zone) (n:List UInt8):Prop:=L0 z n=false∧∃r∈z.recs,r.name=n
def Pl (z:Zone):Prop:=∀r∈z.recs,∃x∈z.recs,x.name=r.name∧x.typ≠47∧x.typ≠46
def Mf {z:Zone} {n:List UInt8} (ho:ZOk z) (h:inC z n):under n z.origin=true:=by obtain ⟨_,r,hr,rfl⟩:=h;exact ho.under hr
def Rk {z:Zone} {n:List UInt8} (ho:ZOk z) (h:inC z n):vld n=true:=(By.1 (Mf ho h)).1
def mq {z:Zone} {n:List UInt8} (ho:ZOk z) (h:inC z n):n∈namesN z:=by obtain ⟨h1,r,hr,rfl⟩:=h;have hu:=ho.under hr;exact (Nw z r.name).2 ⟨r,hr,hu,h1,Ky (By.1 hu).1,hu⟩
def Gg6 {z:Zone} {n:List UInt8} (ho:ZOk z) (h:inC z n):exB z n=true:=(J3 z n).2 ((Nw z n).1 (mq ho h))
def Em6 {z:Zone} (ho:ZOk z):inC z z.origin:=by obtain ⟨r,hr,hn,_⟩:=ho.soaR;exact ⟨Yd z,r,hr,hn⟩
def Kl {z:Zone} {a:Rec} (h:a∈chainN z):inC z a.name:=⟨(J7 h).hid,(J7 h).own⟩
def mw {z:Zone} {n:List UInt8} (ho:ZOk z) (hp:Pl z) (h:inC z n):∃a∈chainN z,a.name=n:=by
 have hn:=mq ho h;obtain ⟨h1,r,hr,rfl⟩:=h;obtain ⟨x,hx,xn,x1,x2⟩:=hp r hr;have hkn:=o6 ho hx;have hrg:=Ey8 hkn;obtain ⟨k,hk⟩:∃k:Nat,x.typ=(k:Int):=⟨x.typ.toNat,by omega⟩;have hk64:k<64:=by omega
 have hb:(bv Wk).getLsbD k=false:=by rw [Ef];intro q;have:=(own_bits hk64).1 q;omega
 have hb2:=(zw ho hk64 hb).2 ⟨x,hx,xn,hk⟩;have hne:tyO z r.name≠0:=by intro e;rw [e] at hb2;have e0:bv 0=0#64:=rfl;rw [e0] at hb2;simp at hb2
 have hm:(⟨r.name,47,Qb z,⟨false,0,0,z.origin,[],[],0,0,0,0,0,0,chBits z r.name⟩⟩:Rec)∈chain0 z (Qb z):=If.2 ⟨r.name,hn,by unfold Km;rw [if_neg hne]⟩;obtain ⟨i,hi⟩:=D8.1 hm;exact ⟨_,A4 (Rw hi),J1 _ _ _⟩
def nv (z:Zone):(chainN z).Pairwise fun a b=>ltN a.name b.name:=by rw [Dp];intro i j hi hj hij;obtain ⟨a,ha,ea⟩:=Hy (Ay hi);obtain ⟨b,hb,eb⟩:=Hy (Ay hj);rw [ea,eb,J1,J1];obtain ⟨hi',ea'⟩:=Aw.1 ha;obtain ⟨hj',eb'⟩:=Aw.1 hb;have:=Dp.1 (P8 z (Qb z)) i j hi' hj' hij;rw [ea',eb'] at this;exact this
def Vt {z:Zone} {i j:Nat} {a b:Rec} (hi:(chainN z)[i]? =some a) (hj:(chainN z)[j]? =some b) (h:ltN a.name b.name):i<j:=by
 obtain ⟨hi',ea⟩:=Aw.1 hi;obtain ⟨hj',eb⟩:=Aw.1 hj;rcases Nat.lt_trichotomy i j with q|q|q
 ·exact q
 ·subst q;rw [hi] at hj;cases hj;exact absurd h (to_N.irr _)
 ·have:=Dp.1 (nv z) j i hj' hi' q;rw [ea,eb] at this;exact absurd this (to_N.asym h)
def Gq1 {z:Zone} {n:List UInt8} (hu:under n z.origin=true):¬ltN n z.origin:=by
 by_cases h:n=z.origin
 ·rw [h];exact to_N.irr _
 ·exact to_N.asym (M8 hu h)
def Bv9 {z:Zone} (ho:ZOk z) (hp:Pl z) {i:Nat} {a:Rec} (hi:(chainN z)[i]? =some a):
  ((chainN z)[i+1]? =none∧a.data.host=z.origin∧∀n,inC z n→¬ltN a.name n)∨
  ∃b,(chainN z)[i+1]? =some b∧a.data.host=b.name∧inC z a.data.host∧a.data.host≠z.origin∧ltN a.name a.data.host∧∀n,inC z n→ltN a.name n→¬ltN n a.data.host:=by
 have hc:=Dr8 ho;cases hb:(chainN z)[i+1]? with
 |none=>
  left;have h1:(chainN z).length≤i+1:=Ov.1 hb;have h2:=(Aw.1 hi).1;have e:i=(chainN z).length - 1:=by omega
  refine ⟨rfl,hc.last a (by rw [←e];exact hi),fun n hn hl=> ?_⟩;obtain ⟨c,hcm,rfl⟩:=mw ho hp hn;obtain ⟨j,hj⟩:=D8.1 hcm;have:=Vt hi hj hl;have:=(Aw.1 hj).1;omega
 |some b=>
  right;obtain ⟨e,hl⟩:=hc.next i a b hi hb;have hbi:=Kl (A4 hb);have ha:=Kl (A4 hi);rw [e];refine ⟨b,rfl,rfl,hbi,fun q=> ?_,hl,fun n hn h1 h2=> ?_⟩
  ·rw [q] at hl;exact Gq1 (Mf ho ha) hl
  ·obtain ⟨c,hcm,rfl⟩:=mw ho hp hn;obtain ⟨j,hj⟩:=D8.1 hcm;have:=Vt hi hj h1;have:=Vt hj hb h2;omega
structure Gap (z:Zone) (a:Rec) (x:List UInt8):Prop where
 mem:a∈chainN z
 lt:ltN a.name x
 und:under x z.origin=true
 host:inC z a.data.host
 nxt:(a.data.host=z.origin∧∀n,inC z n→¬ltN a.name n)∨(a.data.host≠z.origin∧ltN x a.data.host∧∀n,inC z n→ltN a.name n→¬ltN n a.data.host)
def Gn9 {x y:List UInt8}:0<Ix x y↔ltN y x:=by
 have h1:=Eh x y;have h2:= @Hl x y;rcases to_N.tri x y with h|h|h
 ·have:=h1.2 h;exact ⟨fun q=>by omega,fun q=>absurd q (to_N.asym h)⟩
 ·have:=h2.2 h;subst h;exact ⟨fun q=>by omega,fun q=>absurd q (to_N.irr _)⟩
 ·refine ⟨fun _=>h,fun _=> ?_⟩;have a1:¬Ix x y<0:=fun q=>to_N.asym h (h1.1 q);have a2:Ix x y≠0:=fun q=>by rw [h2.1 q] at h;exact to_N.irr _ h
  omega
def ug {z:Zone} (ho:ZOk z) (hp:Pl z) {a:Rec} {x:List UInt8} (ha:a∈chainN z):G2 a z.origin x=true↔Gap z a x∧(F7 x a.name && Iz a)=false:=by
 obtain ⟨i,hi⟩:=D8.1 ha;have hn:=Bv9 ho hp hi;have ht:=(J7 ha).typ;have h5:(!F7 x a.name|| !Iz a)=true↔(F7 x a.name && Iz a)=false:=by cases F7 x a.name<;>cases Iz a<;>simp
 unfold G2;simp only [Av];rw [h5];simp only [decide_eq_true_eq,Gn9];constructor
 ·rintro ⟨⟨⟨⟨_,hu⟩,hl⟩,hh⟩,hb⟩;refine ⟨⟨ha,hl,hu,?_,?_⟩,hb⟩
  ·rcases hn with ⟨_,e,f⟩|⟨b,_,e,h2,_⟩
   ·rw [e];exact Em6 ho
   ·exact h2
  ·rcases hn with ⟨_,e,f⟩|⟨b,_,e,h2,h3,h4,f⟩
   ·exact .inl ⟨e,f⟩
   ·refine .inr ⟨h3,Classical.byContradiction fun q=> ?_,f⟩;have h6:0≤Ix x a.data.host:=by have:=Eh x a.data.host;exact Int.not_lt.1 fun w=>q (this.1 w)
    simp [h3,h6] at hh
 ·rintro ⟨⟨_,hl,hu,_,hx⟩,hb⟩;refine ⟨⟨⟨⟨ht,hu⟩,hl⟩,?_⟩,hb⟩;rcases hx with ⟨e,_⟩|⟨h3,h4,_⟩
  ·simp [e]
  ·have:=(Eh x a.data.host).2 h4;have h6:¬0≤Ix x a.data.host:=by omega
   simp [h6]
def P2 {z:Zone} {a:Rec} {x n:List UInt8} (g:Gap z a x) (hn:inC z n) (h:ltN a.name n):ltN x a.data.host∧¬ltN n a.data.host∧ltN x n:=by
 rcases g.nxt with ⟨_,f⟩|⟨h1,h2,f⟩
 ·exact absurd h (f n hn)
 ·have h3:=f n hn h;refine ⟨h2,h3,?_⟩;rcases to_N.tri a.data.host n with q|q|q
  ·exact to_N.tr _ _ _ h2 q
  ·exact q▸h2
  ·exact absurd q h3
def Vj {z:Zone} {a:Rec} {x:List UInt8} (g:Gap z a x):¬inC z x:=fun h=>to_N.irr _ (P2 g h g.lt).2.2
def Cf9 {z:Zone} {a:Rec} {x d:List UInt8} (ho:ZOk z) (g:Gap z a x) (hd:under x d=true) (hi:inC z d):under a.name d=true:=by have hne:x≠d:=fun e=>Vj g (by rw [e];exact hi);have h1:=M8 hd hne;have h2:¬ltN a.name d:=fun q=>to_N.asym h1 (P2 g hi q).2.2;exact L8 (Rk ho (Kl g.mem)) hd h2 (to_N.asym g.lt)
def Gg7 {z:Zone} {n:List UInt8} {c:Rec} (hc:c∈z.recs) (hcut:C9 z c=true) (hne:c.name≠n) (hu:under n c.name=true):L0 z n=true:=by unfold L0;rw [Bg];exact ⟨c,hc,by simp [hcut,hne,hu]⟩
def Gv7 {z:Zone} {x:List UInt8} (hc:cutN z x=[]) {r:Rec} (hr:r∈z.recs) (h:C9 z r=true):under x r.name=false:=
 ((Mp z x z.recs [] (.inl rfl)).1 hc).2 r hr h
def Ez0 {z:Zone} {x u:List UInt8} (hc:cutN z x=[]) (hu:under x u=true):L0 z u=false:=by rw [Ef];intro h;unfold L0 at h;rw [Bg] at h;obtain ⟨c,h1,h2⟩:=h;simp only [Av,decide_eq_true_eq] at h2;have:=Gv7 hc h1 h2.1.1;rw [K1 hu h2.2] at this;cases this
def jy {z:Zone} {a:Rec} {x d:List UInt8} (hu:under x d=true) (hne:x≠d) (had:a.name=d) (hb:(F7 x a.name && Iz a)=false):Iz a=false:=by
 have:F7 x a.name=true:=by unfold F7;rw [had];simp [hu,hne]
 rw [this] at hb;simpa using hb
def b8 {z:Zone} {a:Rec} {x:List UInt8} (ho:ZOk z) (g:Gap z a x) (hb:(F7 x a.name && Iz a)=false):cutN z x=[]:=by
 refine Classical.byContradiction fun hc=> ?_;obtain ⟨f1,f2,f3,_,_,f6⟩:=Vm ho hc;have hcn:cutN z x∈namesN z:=by have:=Ly z (cutN z x);rw [f6] at this;exact of_decide_eq_true this
 have hh:=(jc hcn).1;obtain ⟨r,hr⟩:=List.exists_mem_of_length_pos (Nat.pos_of_ne_zero f3);obtain ⟨r1,r2,r3⟩:=Iq.1 hr;have hi:inC z (cutN z x):=⟨hh,r,r1,r2⟩;generalize cutN z x=c at*;have hl:=Cf9 ho g f1 hi;have hcut:C9 z r=true:=P0.2 ⟨r3,by rw [r2];exact f2,by rw [r2];exact Mf ho hi⟩;have hac:a.name=c:=by refine Classical.byContradiction fun hne=> ?_;have:=Gg7 r1 hcut (n:=a.name) (by rw [r2];exact fun e=>hne e.symm) (by rw [r2];exact hl);rw [(Kl g.mem).1] at this;cases this
 have h2:Qc a 2=true:=U8 ho (J7 g.mem) r1 (by rw [r2,hac]) r3 (fun _=> .inl rfl);have h6:Qc a 6=false:=by rw [Ef];intro q;obtain ⟨⟨s,s1,s2,s3⟩,_⟩:=Gv6 ho (J7 g.mem) (by decide) (by decide) q;exact f2 (by rw [←hac,←s2];exact Bz4 ho s1 s3)
 have:=jy (z:=z) f1 (fun e=>Vj g (by rw [e];exact hi)) hac hb;unfold Iz at this;rw [h2,h6] at this;simp at this
def Es9 {z:Zone} {a:Rec} {x:List UInt8} (ho:ZOk z) (g:Gap z a x) (hb:(F7 x a.name && Iz a)=false):Bx8 z x=none:=by
 have hc:=b8 ho g hb;have:Ev2 z x=none:=by
  unfold Ev2;rw [Y9];intro u hu hd;obtain ⟨u1,u2⟩:=(K0 g.und).1 (Ff hu);unfold dnB at hd;obtain ⟨r,hr⟩:=List.exists_mem_of_length_pos (of_decide_eq_true hd);obtain ⟨r1,r2,r3⟩:=Iq.1 hr;have hi:inC z u:=⟨Ez0 hc u1,r,r1,r2⟩;have hl:=Cf9 ho g u1 hi;obtain ⟨s,s1,s2⟩:=(J7 g.mem).own;have h1:=Dt9 ho s1 r1 r3;rw [s2,r2] at h1;unfold D9 at h1;have hau:a.name=u:=Classical.byContradiction fun q=>by rw [hl] at h1;simp [q] at h1
  have hcu:a.name∉cutsN z:=fun q=>by obtain ⟨y,y1,y2,y3⟩:=(Mn z a.name).1 q;have:=Gv7 hc y1 y2;rw [y3,hau,u1] at this;cases this
  have h39:Qc a 39=true:=U8 ho (J7 g.mem) r1 (by rw [r2,hau]) r3 (fun q=>absurd q hcu);have:=jy (z:=z) u1 (fun e=>Vj g (by rw [e];exact hi)) hau hb;unfold Iz at this;rw [h39] at this;simp at this
 unfold Bx8;rw [this];rfl
def Ac3 {z:Zone} {a:Rec} {x:List UInt8} (g:Gap z a x) (hc:cutN z x=[]):allR z x=[]:=by unfold allR;rw [Er];intro r hr h;exact Vj g ⟨Ez0 hc (Ky (By.1 g.und).1),r,hr,by simpa using h⟩
def Ez1 {z:Zone} {a:Rec} {x:List UInt8} (ho:ZOk z) (g:Gap z a x):exB z x=true↔F7 a.data.host x=true:=by
 constructor
 ·intro h;obtain ⟨r,r1,r2,r3,r4,_⟩:=(J3 z x).1 h;have hi:inC z r.name:=⟨r3,r,r1,rfl⟩;have hne:r.name≠x:=fun e=>Vj g (by rw [←e];exact hi);have hl:=M8 r4 hne;obtain ⟨h1,h2,_⟩:=P2 g hi (to_N.tr _ _ _ g.lt hl);have h3:=L8 (Rk ho g.host) r4 (to_N.asym h1) h2;have h4:a.data.host≠x:=fun e=>by rw [e] at h1;exact to_N.irr _ h1
  unfold F7;simp [h3,h4]
 ·intro h;unfold F7 at h;simp only [Av,decide_eq_true_eq] at h;obtain ⟨h1,r,hr,hn⟩:=g.host;exact (J3 z x).2 ⟨r,hr,ho.under hr,by rw [hn];exact h1,by rw [hn];exact h.2,g.und⟩
def Sv {x b:List UInt8} (hx:vld x=true) (hb:vld b=true):under x (Eb x b)=true∧under b (Eb x b)=true∧∀d,under x d=true→under b d=true→(lbl d).length≤(lbl (Eb x b)).length:=by
 have e:Eb x b=jn ((lbl x).drop ((lbl x).length - Kz (lbl x) (lbl b))):=by unfold Eb;rw [if_pos ⟨hx,hb⟩]
 obtain ⟨v,w⟩:=Ir hx ((lbl x).length - Kz (lbl x) (lbl b));rw [←e] at v w;refine ⟨By.2 ⟨hx,v,by rw [w];exact List.drop_suffix _ _⟩,By.2 ⟨hb,v,by rw [w];exact (Vl _ _ _ (by omega)).2 (by omega)⟩,fun d h1 h2=> ?_⟩;obtain ⟨_,_,s1⟩:=By.1 h1;obtain ⟨_,_,s2⟩:=By.1 h2;have hl:=s1.length_le;have ed:lbl d=(lbl x).drop ((lbl x).length - (lbl d).length):=Ew.1 s1;have h3:=(Vl (lbl x) (lbl b) ((lbl x).length - (lbl d).length) (by omega)).1 (by rw [←ed];exact s2);rw [w,Bt];omega
def Gw3 {n a b:List UInt8} (ha:under n a=true) (hb:under n b=true):Cy6 a<Cy6 b↔(lbl a).length<(lbl b).length:=by
 have va:=(By.1 ha).2.1;have vb:=(By.1 hb).2.1;rw [←ng ha hb];unfold Cy6;rw [if_pos va,if_pos vb];have two:∀c:List UInt8,vld c=true→c≠[46]→2≤c.length:=fun c hc h=>by
  rcases vld_cases hc with ⟨h1,_⟩|⟨h1,h2,h3,_⟩
  ·exact absurd h1 h
  ·have:=Hw h2 h1;rw [←h3] at this;exact this
 have one:([46]:List UInt8).length=1:=rfl;by_cases h1:a=[46]<;>by_cases h2:b=[46]
 ·rw [if_pos h1,if_pos h2,h1,h2];omega
 ·have:=two b vb h2;rw [if_pos h1,if_neg h2,h1];omega
 ·have:=two a va h1;rw [if_neg h1,if_pos h2,h2];omega
 ·rw [if_neg h1,if_neg h2];omega
def Dn4 {z:Zone} {a:Rec} {x:List UInt8} (ho:ZOk z) (g:Gap z a x):cp a x=encN z x:=by
 have vx:=(By.1 g.und).1;have ia:=Kl g.mem;obtain ⟨c1,c2,c3⟩:=Sv vx (Rk ho ia);obtain ⟨d1,d2,d3⟩:=Sv vx (Rk ho g.host);obtain ⟨_,e1,e2⟩:=Ij1 ho g.und;have hex:∀{n c:List UInt8},inC z n→under x c=true→under n c=true→(lbl z.origin).length≤(lbl c).length→(lbl c).length≤(lbl (encN z x)).length:=fun {n c} hn h1 h2 h3=>by obtain ⟨_,_,s1⟩:=By.1 h1;obtain ⟨_,vo,s2⟩:=By.1 g.und;have hco:under c z.origin=true:=By.2 ⟨(By.1 h1).2.1,vo,T1 s2 s1 h3⟩;obtain ⟨q1,r,q2,q3⟩:=hn;exact Ch0 h1 ((J3 z c).2 ⟨r,q2,ho.under q2,by rw [q3];exact q1,by rw [q3];exact h2,hco⟩)
 have up1:=hex ia c1 c2 (c3 _ g.und (Mf ho ia));have up2:=hex g.host d1 d2 (d3 _ g.und (Mf ho g.host));have low:(lbl (encN z x)).length≤(lbl (Eb x a.name)).length∨(lbl (encN z x)).length≤(lbl (Eb x a.data.host)).length:=by
  obtain ⟨r,r1,r2,r3,r4,_⟩:=(J3 z (encN z x)).1 e2;have hi:inC z r.name:=⟨r3,r,r1,rfl⟩;have le:∀{n d:List UInt8},under n d=true→¬ltN n d:=fun {n d} h=>by
   by_cases q:n=d
   ·rw [q];exact to_N.irr _
   ·exact to_N.asym (M8 h q)
  by_cases h:ltN a.name r.name
  ·right;obtain ⟨h1,h2,_⟩:=P2 g hi h;exact d3 _ e1 (L8 (Rk ho g.host) r4 (fun q=>le e1 (to_N.tr _ _ _ h1 q)) h2)
  ·left;refine c3 _ e1 (L8 (Rk ho ia) e1 (fun q=> ?_) (to_N.asym g.lt));rcases to_N.tri r.name (encN z x) with w|w|w
   ·exact le r4 w
   ·rw [←w] at q;exact h q
   ·exact h (to_N.tr _ _ _ q w)
 have fin:∀{c:List UInt8},under x c=true→(lbl c).length≤(lbl (encN z x)).length→(lbl (encN z x)).length≤(lbl c).length→c=encN z x:=fun {c} h1 h2 h3=>by obtain ⟨_,v1,s1⟩:=By.1 h1;obtain ⟨_,v2,s2⟩:=By.1 e1;exact (I2 (By.2 ⟨v2,v1,T1 s1 s2 h2⟩) h3).symm
 unfold cp;have hl:=Gw3 c1 d1;by_cases h:Cy6 (Eb x a.name)<Cy6 (Eb x a.data.host)
 ·rw [if_pos h];have:=hl.1 h;exact fin d1 up2 (by omega)
 ·rw [if_neg h];have:¬(lbl (Eb x a.name)).length<(lbl (Eb x a.data.host)).length:=fun q=>h (hl.2 q);exact fin c1 up1 (by omega)
end Go.X.G
/- nsec: what the chain proves is what the zone says, and the chain proves it. -/
namespace Go.X.G
open Go Go.X
def Hf9 (z:Zone) (q:Ques):Prop:=under q.name z.origin=true∧(cutN z q.name=[]∨(cutN z q.name=q.name∧q.typ=43))∧Bx8 z q.name=none
def Tw {z:Zone} {q:Ques} (h:Hf9 z q):findM z q=if exB z q.name=true then {saysM (allR z q.name) q.typ with owner:=q.name} else (Zf z q).getD ⟨6,q.name,false,[],[]⟩:=by obtain ⟨h1,h2,h3⟩:=h;unfold findM;rw [if_pos h1,if_neg (by rintro ⟨a,b⟩;rcases h2 with c|⟨c,d⟩;exact a c;exact b.elim (fun e=>e c) (fun e=>e d))];unfold Cf4;rw [h3]
def t6 {z:Zone} {a:Rec} {q:Ques} (ho:ZOk z) (g:Gap z a q.name) (hb:(F7 q.name a.name && Iz a)=false):Hf9 z q:=
 ⟨g.und, .inl (b8 ho g hb),Es9 ho g hb⟩
def ix {l:List Rec} {t:Int} (h:t≠255) (h2:∀r∈l,r.typ≠t∧r.typ≠5):(saysM l t).kind=5:=by
 have e1:Gr3 l t=none:=by
  unfold Gr3;split
  ·rfl
  ·rw [Y9];intro r hr;simp [(h2 r hr).2]
 have e2:typedR l t=[]:=by unfold typedR;rw [if_neg h,Er];intro r hr;simp [(h2 r hr).1]
 unfold saysM;rw [e1,if_pos e2]
def Ry {z:Zone} {n:List UInt8} {r:Rec}:r∈allR z n↔r∈z.recs∧r.name=n:=by unfold allR;rw [Bd,decide_eq_true_eq]
def Gr2 {z:Zone} {n:List UInt8}:allR z n≠[]↔∃r∈z.recs,r.name=n:=by
 constructor
 ·intro h;obtain ⟨r,hr⟩:=Ep _ h;exact ⟨r,Ry.1 hr⟩
 ·rintro ⟨r,hr⟩ h;have:=Ry.2 hr;rw [h] at this;cases this
def Bf4 {z:Zone} (ho:ZOk z) (hp:Pl z) {a:Rec} {x s:List UInt8} (ha:a∈chainN z) (h:T4 z.origin x a=some s):Gap z a x∧(F7 x a.name && Iz a)=false∧exB z x=false∧starOk (encN z x)=true∧s=starN (encN z x):=by
 unfold T4 at h;split at h
 ·rename_i hc;simp only [Av,A5] at hc;obtain ⟨g,hb⟩:=(ug ho hp ha).1 hc.1.1;rw [Dn4 ho g] at h hc;simp only [Aq] at h;refine ⟨g,hb,?_,hc.2,h.symm⟩;rw [Ef];intro q;have:=(Ez1 ho g).1 q;rw [hc.1.2] at this;cases this
 ·cases h
def g9 {z:Zone} (ho:ZOk z) (hp:Pl z) {l:List Rec} {q:Ques} (hl:∀a∈l,a∈chainN z) (h:M3 l z.origin q.name=true):(findM z q).kind=6:=by
 unfold M3 Gp0 at h;simp only [Bg] at h;obtain ⟨s,hs,b,hb,hcb⟩:=h;obtain ⟨a,ha,hso⟩:=If.1 hs;obtain ⟨g,hgb,hex,he,e⟩:=Bf4 ho hp (hl a ha) hso;obtain ⟨g2,hb2⟩:=(ug ho hp (hl b hb)).1 hcb;have hf:=Ac3 g2 (b8 ho g2 hb2);have hw:Zf z q=none:=by unfold Zf;rw [if_neg];rintro ⟨_,w⟩;rw [←e] at w;exact w hf
 rw [Tw (t6 ho g hgb),if_neg (by rw [hex];simp),hw];rfl
def g7 {z:Zone} (ho:ZOk z) (hp:Pl z) {l:List Rec} {q:Ques} {s:List UInt8} (hl:∀a∈l,a∈chainN z) (h:expandedN l z.origin q.name s=true) (hs:∃r∈z.recs,r.name=s):findM z q={saysM ((allR z s).map (Ux q.name)) q.typ with owner:=s,wild:=true}:=by unfold expandedN at h;obtain ⟨a,ha,hso⟩:=If.1 (of_decide_eq_true h);obtain ⟨g,hgb,hex,he,e⟩:=Bf4 ho hp (hl a ha) hso;rw [Tw (t6 ho g hgb),if_neg (by rw [hex];simp)];unfold Zf;rw [←e,if_pos ⟨he,Gr2.2 hs⟩];rfl
def Dm1 {z:Zone} (ho:ZOk z) {a:Rec} (h:IsC z a) {t:Int} (hl:U3 a t=true):t≠255∧(∀r∈z.recs,r.name=a.name→r.typ≠t∧r.typ≠5)∧(a.name∈cutsN z→t=43):=by
 unfold U3 at hl;split at hl
 ·cases hl
 ·rename_i hn;simp only [not_or,Bool.not_eq_true] at hn;obtain ⟨_,h255,hT,h5⟩:=hn;have hcut:a.name∈cutsN z→t=43∧∃y∈z.recs,y.name=a.name∧y.typ=2:=fun hc=>by
   obtain ⟨y,y1,y2,y3⟩:=(Mn z a.name).1 hc;obtain ⟨y4,y5,_⟩:=P0.1 y2;have h2:Qc a 2=true:=U8 ho h y1 y3 y4 (fun _=> .inl rfl);have h6:Qc a 6=false:=by rw [Ef];intro q;obtain ⟨⟨s,s1,s2,s3⟩,_⟩:=Gv6 ho h (by decide) (by decide) q;exact y5 (by rw [y3,←s2];exact Bz4 ho s1 s3)
   refine ⟨Classical.byContradiction fun w=> ?_,y,y1,y3,y4⟩;rw [if_neg w,h2,h6] at hl;simp at hl
  refine ⟨h255,fun r hr hn=>⟨fun e=> ?_,fun e=> ?_⟩,fun hc=>(hcut hc).1⟩
  ·have:=U8 ho h hr hn e (fun hc=> .inr (hcut hc).1);rw [hT] at this;cases this
  ·by_cases hc:a.name∈cutsN z
   ·obtain ⟨_,y,y1,y2,y3⟩:=hcut hc;have:=Fz9 ho hr y1 (by rw [y2,hn]) e;omega
   ·have:=U8 ho h hr hn e (fun w=>absurd w hc);rw [h5] at this;cases this
def Ef7 {o x u:List UInt8} (h:under x o=true) (hu:u∈(upN o x).drop 1):u≠x:=by
 obtain ⟨i,hi⟩:=D8.1 hu;rw [A8] at hi;obtain ⟨vx,vo,s⟩:=By.1 h;have hlen:(upN o x).length=(lbl x).length - (lbl o).length+1:=by unfold upN;simp
 have hlt:=(Aw.1 hi).1;have e:=Oy (o:=o) (n:=x) (k:=1+i) (by omega);rw [hi] at e;simp only [Aq] at e;intro q;have h2:=congrArg List.length (Ir vx (1+i)).2;rw [←e,q,Bt] at h2;omega
def Em5 {z:Zone} (ho:ZOk z) {x:List UInt8} (h:∃r∈z.recs,r.name=x):Bx8 z x=none:=by
 obtain ⟨r,hr,rfl⟩:=h;have hu:=ho.under hr;have:Ev2 z r.name=none:=by unfold Ev2;rw [Y9];intro u hm hd;have hne:=Ef7 hu hm;obtain ⟨u1,_⟩:=(K0 hu).1 (Ff hm);unfold dnB at hd;obtain ⟨y,hy⟩:=List.exists_mem_of_length_pos (of_decide_eq_true hd);obtain ⟨y1,y2,y3⟩:=Iq.1 hy;have:=Dt9 ho hr y1 y3;unfold D9 at this;rw [y2,u1] at this;simp [hne.symm] at this
 unfold Bx8;rw [this];rfl
def hid_cases {z:Zone} {x:List UInt8} (h:L0 z x=false):cutN z x=[]∨(cutN z x=x∧x∈cutsN z):=by
 by_cases h1:cutN z x=[]
 ·exact .inl h1
 ·rw [Cf3] at h;have h2:cutN z x=x:=by simpa [h1] using h
  refine .inr ⟨h2,?_⟩;obtain ⟨_,g⟩:=Mp z x z.recs [] (.inl rfl);obtain ⟨_,g3,_⟩:=g h1;obtain ⟨r,hr,g4,g5⟩:=g3.resolve_left h1;exact (Mn z x).2 ⟨r,hr,g4,g5.trans h2⟩
def g8 {z:Zone} (ho:ZOk z) (hp:Pl z) {l:List Rec} {q:Ques} (hl:∀a∈l,a∈chainN z) (h:Sk l z.origin q=true):(findM z q).kind=5:=by
 unfold Sk at h;simp only [Av,Bg] at h;obtain ⟨hu,r,hr,h⟩:=h;have hc:=J7 (hl r hr);unfold Gm8 at h;simp only [An,Av,decide_eq_true_eq] at h;rcases h with ⟨h1,h2⟩|⟨h1,h2⟩
 ·obtain ⟨g,hb⟩:=(ug ho hp (hl r hr)).1 h1;rw [Tw (t6 ho g hb),if_pos ((Ez1 ho g).2 h2),Ac3 g (b8 ho g hb)];show (saysM [] q.typ).kind=5;unfold saysM Gr3 typedR;split<;>simp_all
 ·obtain ⟨l1,l2,l3⟩:=Dm1 ho hc h1;rcases h2 with h2|h2
  ·have hi:inC z q.name:=by rw [←h2];exact Kl (hl r hr)
   have hm:Hf9 z q:=by
    refine ⟨hu,?_,Em5 ho hi.2⟩;rcases hid_cases hi.1 with w|⟨w1,w2⟩
    ·exact .inl w
    ·exact .inr ⟨w1,l3 (by rw [h2];exact w2)⟩
   rw [Tw hm,if_pos (Gg6 ho hi)];exact ix l1 fun y hy=>l2 y (Ry.1 hy).1 ((Ry.1 hy).2.trans h2.symm)
  ·rw [g7 ho hp hl h2 hc.own];refine ix l1 fun y hy=> ?_;obtain ⟨w,hw,rfl⟩:=C7.1 hy;exact l2 w (Ry.1 hw).1 (Ry.1 hw).2
end Go.X.G
/- nsec: the chain of a zone proves all that the zone says; so do the records of Needed. -/
namespace Go.X.G
open Go Go.X
def Ij2 (z:Zone) (x:List UInt8):Prop:=starOk (encN z x)=true∧allR z (starN (encN z x))≠[]
inductive MidC (z:Zone) (q:Ques):Prop
 |here (h:exB z q.name=true) (e:findM z q={saysM (allR z q.name) q.typ with owner:=q.name})
 |wild (h:exB z q.name=false) (u:Ij2 z q.name) (e:findM z q={saysM ((allR z (starN (encN z q.name))).map (Ux q.name)) q.typ with owner:=starN (encN z q.name),wild:=true})
 |none (h:exB z q.name=false) (u:¬Ij2 z q.name) (e:findM z q=⟨6,q.name,false,[],[]⟩)
def ab {z:Zone} {n:List UInt8}:∀a∈neededN z n,a∈chainN z:=by
 intro a ha;unfold neededN at ha;split at ha
 ·split at ha
  ·cases ha
  ·exact (Bd.1 ha).1
 ·cases ha
end Go.X.G
/- nsec: the laws NsecComplete and NsecSound. -/
namespace Go.X.G
open Go Go.X
def Df9 (x c:Rec):Bool:=decide (c.name=x.name) && !decide (c.typ=47) && !decide (c.typ=46)
def Dd8 (z:Zone) (i:Nat) (x:Rec) (hx:z.recs[i]? =some x) (hl:z.recs.length≤1000000) (p1:PV):Cz5.ev S (z.recs.length+1) [z.pv,p1, .i .i64 (i:Int)]=some (.yld 2 [.b (z.recs.any (Df9 x))]):=by
 have key:Cz5.ev S (z.recs.length+1) [z.pv,p1, .i .i64 (i:Int)]=some (.yld 2 [.b (false||z.recs.any (Df9 x))]):=by
  refine Fj z.recs (fun j (g:Bool)=>[.b g, .i .i64 (j:Int)]) (fun j g r=> .yld 2 [.b (g||r.any (Df9 x))]) (fun _ _=>True) false rfl trivial (by omega) (fun j g c r hd hj hc _=> ?_) (fun g _=> ?_)
  ·left;refine ⟨g||Df9 x c,?_,trivial,by rw [List.any_cons,Bool.or_assoc]⟩;unfold Df9;cases g
   ·by_cases h1:c.name=x.name
    ·by_cases h2:c.typ=47
     ·simp (disch:=omega) only [Sb,hx,hc,h1,h2,EVC,xe,EVP,EV,simprocAttr]
      try simp
     ·by_cases h3:c.typ=46
      ·simp (disch:=omega) only [Sb,hx,hc,h1,h3,EVC,xe,EVP,EV,simprocAttr]
       try simp
      ·simp (disch:=omega) only [Sb,hx,hc,h1,h2,h3,EVC,xe,EVP,EV,simprocAttr]
       try simp
    ·simp (disch:=omega) only [Sb,hx,hc,h1,EVC,xe,EVP,EV,simprocAttr]
     try simp [h1]
   ·simp (disch:=omega) only [Sb,hx,hc,EVC,xe,EVP,EV,simprocAttr]
    try simp
  ·simp (disch:=omega) only [Sb,EVC,xe,EVP,EV,simprocAttr];simp [Out.goes]
 simpa using key
def Ht6 (z:Zone):Bool:=z.recs.all fun x=>z.recs.any (Df9 x)
def Dd9 (z:Zone) (hl:z.recs.length≤1000000) (p1:PV):Ey4.ev S (z.recs.length+1) [z.pv,p1]=some (if Ht6 z=true then .yld 0 [] else .ret [.b false]):=by
 refine E9 z.recs (fun i=>[.i .i64 (i:Int)]) (fun i r=>if (r.all fun x=>z.recs.any (Df9 x))=true then .yld 0 [] else .ret [.b false]) rfl (by omega) (fun i c r hd hi hc=> ?_) ?_
 ·have k:=Dd8 z i c hc hl p1;rcases Ak (z.recs.any (Df9 c)) with h|h
  ·left;rw [h] at k;refine ⟨?_,by rw [od,h,Qf]⟩;simp (disch:=omega) only [Sb,k,EVC,xe,EVP,EV,simprocAttr]
  ·right;rw [h] at k;rw [od,h,Bool.false_and];simp (disch:=omega) only [Sb,k,EVC,xe,EVP,EV,simprocAttr];simp [Out.goes]
 ·simp (disch:=omega) only [Sb,EVC,xe,EVP,EV,simprocAttr];simp [Out.goes]
def i7 (z:Zone):Bool:=decide (z.recs.length≤60) && decide (J6 z=0) && Ht6 z
def As9 (z:Zone) (hz:z.wf):S Cw5 1 [z.pv]=some [.b (i7 z)]:=by
 unfold i7;refine Hc3 (N:=z.recs.length+1) rfl ?_;by_cases hl:z.recs.length≤60
 ·have k2:=ob z hz (by omega);by_cases h:J6 z=0
  ·rw [h] at k2;have l0:=fun p1=>Dd9 z (by omega) p1;rcases Ak (Ht6 z) with h3|h3<;>rw [h3] at l0 ⊢<;>simp (disch:=omega) only [Sb,k2,l0,C4,Df,EVC,xe,EVP,EV,simprocAttr]<;>simp [hl,h]
  ·simp (disch:=omega) only [Sb,k2,h,C4,Df,EVC,xe,EVP,EV,simprocAttr]
   try simp [h]
 ·have hl':(z.recs.length:Int)>60:=by omega
  simp (disch:=omega) only [Sb,hl',C4,Df,EVC,xe,EVP,EV,simprocAttr]
  try simp [hl]
def Dd7 {z:Zone} (h:i7 z=true):z.recs.length≤60∧J6 z=0∧Pl z:=by unfold i7 at h;simp only [Av,decide_eq_true_eq] at h;refine ⟨h.1.1,h.1.2,fun r hr=> ?_⟩;have:=Bq.1 h.2 r hr;rw [Bg] at this;obtain ⟨c,hc,hp⟩:=this;unfold Df9 at hp;simp only [Av,A5,decide_eq_true_eq,decide_eq_false_iff_not] at hp;exact ⟨c,hc,hp.1.1,hp.1.2,hp.2⟩
def Xk (l:List Rec) (z:Zone) (q:Ques) (r:Res) (hw:∀a∈l,a.wf) (hl:l.length≤1000000) (hz:z.origin.length≤9223372036854775807) (hn:q.name.length≤9223372036854775807)
  (c1:M3 l z.origin q.name=true→r.kind=6) (c2:Sk l z.origin q=true→r.kind=5):S Bj8 4 [Ag l,z.pv,q.pv,r.pv]=some [.b true]:=by
 refine Hc1 (N:=1) rfl ?_;have k2:=Rc l z.origin q.name hw hl hz hn;have k3:=ox l z.origin q hw hl hz hn;rcases Ak (M3 l z.origin q.name) with ha|ha
 ·have h6:=c1 ha;rw [ha] at k2;rcases Ak (Sk l z.origin q) with he|he
  ·have:=c2 he;omega
  ·rw [he] at k3;simp (disch:=omega) only [Ef1,k2,k3,h6,Hr,C4,Df,EVM,EVR,EVC,xe,EVP,EV,simprocAttr]
 ·rw [ha] at k2;rcases Ak (Sk l z.origin q) with he|he
  ·have h5:=c2 he;rw [he] at k3;simp (disch:=omega) only [Ef1,k2,k3,h5,Hr,C4,Df,EVM,EVR,EVC,xe,EVP,EV,simprocAttr]
  ·rw [he] at k3;simp (disch:=omega) only [Ef1,k2,k3,Hr,C4,Df,EVM,EVR,EVC,xe,EVP,EV,simprocAttr]
def Dh2 {z:Zone} (n:List UInt8) (hl:z.recs.length≤1000):(neededN z n).length≤1000000:=by
 have hcl:=V0 hl;unfold neededN;split
 ·split
  ·simp
  ·exact C6 (Dq _ _) hcl
 ·simp
def law_NsecSound (z:Zone) (q:Ques) (other:List UInt8) (hz:z.wf) (hq:q.wf) (hs:Pq other):S Gw0 3 [z.pv,q.pv, .s other]=some [.b true]:=by
 refine Ik0 (N:=1) rfl ?_;have ka:=Bw5;by_cases hnl:q.name.length≤300
 ·by_cases hol:other.length≤300
  ·have kp:=As9 z hz;rcases Ak (i7 z) with h|h
   ·rw [h] at kp;obtain ⟨hl,hc,hp⟩:=Dd7 h;have ho:=Vs hc;have g1:=hz.origin;unfold Pq at g1;have hw:∀a∈chainN z,a.wf:=En8 hz;have hcl:=V0 (z:=z) (by omega);have k1:=Wj z hz (by omega);rw [if_pos hc] at k1;have k2:=Cg2 z q hz (by omega) (by omega);have k3:=Bx0 z other hz (fun _=>hw) (by omega) (by omega);have k4:=V9 (chainN z) z.origin q.name other hw hcl g1 (by omega);have k5:=At0 z other (by omega);have m1:=Xk (chainN z) z q (findM z q) hw hcl g1 (by omega) (g9 ho hp fun _ h=>h) (g8 ho hp fun _ h=>h);have m2:=Xk (neededN z other) z q (findM z q) (fun a ha=>hw a (ab a ha)) (Dh2 _ (by omega)) g1 (by omega) (g9 ho hp ab) (g8 ho hp ab);have m3:expandedN (chainN z) z.origin q.name other=true→ownB z other=true→(findM z q).wild=true∧(findM z q).owner=other:=fun w1 w2=>by unfold ownB at w2;rw [Bg] at w2;obtain ⟨r,r1,r2⟩:=w2;rw [g7 ho hp (fun _ h=>h) w1 ⟨r,r1,of_decide_eq_true r2⟩];exact ⟨rfl,rfl⟩
    generalize findM z q=r at*;generalize neededN z other=nl at*;generalize expandedN (chainN z) z.origin q.name other=e1 at*;generalize ownB z other=e2 at*;generalize chainN z=l at*;cases e1
    ·simp (disch:=omega) only [Fy4,ka,kp,k1,k2,k3,k4,k5,m1,m2,Hr,C4,Df,EVM,EVR,EVC,xe,EVP,EV,simprocAttr]
    ·cases e2
     ·simp (disch:=omega) only [Fy4,ka,kp,k1,k2,k3,k4,k5,m1,m2,Hr,C4,Df,EVM,EVR,EVC,xe,EVP,EV,simprocAttr]
     ·obtain ⟨w1,w2⟩:=m3 rfl rfl;simp (disch:=omega) only [Fy4,ka,kp,k1,k2,k3,k4,k5,m1,m2,w1,w2,Hr,C4,Df,EVM,EVR,EVC,xe,EVP,EV,simprocAttr]
   ·rw [h] at kp;simp (disch:=omega) only [Fy4,ka,kp,Hr,C4,Df,EVM,EVR,EVC,xe,EVP,EV,simprocAttr]
  ·have hl':(other.length:Int)>300:=by omega
   simp (disch:=omega) only [Fy4,ka,hl',Hr,C4,Df,EVM,EVR,EVC,xe,EVP,EV,simprocAttr]
 ·have hl':(q.name.length:Int)>300:=by omega
  simp (disch:=omega) only [Fy4,ka,hl',Hr,C4,Df,EVM,EVR,EVC,xe,EVP,EV,simprocAttr]
end Go.X.G
