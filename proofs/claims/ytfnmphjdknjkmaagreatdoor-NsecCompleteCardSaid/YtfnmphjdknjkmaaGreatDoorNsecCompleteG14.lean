/- nsec: what the chain of a checked zone is; the law NsecOrder. -/
import Derived.Test.YtfnmphjdknjkmaaGreatDoorNsecCompleteG13
import Derived.Test.YtfnmphjdknjkmaaGreatDoorNsecCompleteG11
open BitVec renaming getLsbD_and→L5,getLsbD_not→Hj9
open Bool renaming eq_false_or_eq_true→Ak,and_eq_true→Av,false_eq_true→Ad,or_eq_true→An,not_eq_true'→A6,eq_false_iff→C5,and_eq_false_iff→Gv,false_or→Hd,true_and→Qs
open Classical renaming not_not→F7
open Int renaming toNat_natCast→Ed
open List renaming getElem?_eq_some_iff→Aw,getElem?_eq_getElem→Ay,length_append→Ab,mem_cons→Am,length_take→Ap,pairwise_cons→A0,getElem?_append_right→A3,mem_of_getElem?→A4,length_cons→A5,getElem?_drop→A8,all_eq_true→By,mem_filter→Bz,length_pos_iff→Bc,length_nil→Bf,take_append_drop→Bh,any_eq_true→Bm,length_drop→B3,getElem?_cons_zero→B6,take_add_one→Cq,drop_drop→Cf,mem_map→Dj,length_filter_le→Dw,mem_iff_getElem?→Dp,suffix_iff_eq_drop→Dr,pairwise_iff_getElem→Dt,mem_range→D6,length_map→Ew,exists_mem_of_ne_nil→Ep,filter_eq_nil_iff→F3,mem_filterMap→L4,set_append_right→M8,getElem?_eq_none_iff→Oq,getElem?_set_ne→O4,getElem?_set_self→Zd,all_cons→pk,filterMap_cons→Ef8,find?_eq_none→Hj7
open Nat renaming le_trans→C9
open Option renaming map_some→A7,getD_some→Cm
open Option.some renaming injEq→Aq
set_option maxHeartbeats 1000000
set_option linter.defProp false
set_option linter.unusedVariables false
set_option linter.unusedSimpArgs false
namespace Go.X.G
open Go Go.X
def bv (x:Int):BitVec 64:=BitVec.ofInt 64 x
def xy (v:BitVec 64):bv (IntKind.u64.wrap (v.toNat:Int))=v:=by have h:=v.isLt;rw [Fb4 (by omega) (by omega)];unfold bv;rw [BitVec.ofInt_natCast,BitVec.ofNat_toNat,BitVec.setWidth_eq]
def Gr8 (x y:Int):bv (anB x y)=bv x &&& ~~~ bv y:=xy _
def Gr9 (x y:Int):bv (adB x y)=bv x &&& bv y:=xy _
def Fx9 (g t:Int):bv (bitO g t)=bv g|||bv (shO t):=xy _
def xz (k:Nat):∀(l:List Int) (g:Int),(bv (l.foldl bitO g)).getLsbD k=((bv g).getLsbD k||l.any fun t=>(bv (shO t)).getLsbD k)
 |[],g=>by simp
 |t::l,g=>by rw [List.foldl_cons,xz k l,Fx9,BitVec.getLsbD_or,List.any_cons,Bool.or_assoc]
def Gs0 (v:BitVec 64) (k:Nat):bit (IntKind.u64.wrap (v.toNat:Int)) k=if v.getLsbD k=true then 1 else 0:=by
 have h:=v.isLt;rw [Fb4 (by omega) (by omega)];unfold bit;have e:(((v.toNat / 2 ^ k % 2:Nat)):Int)=(v.toNat:Int) / 2 ^ k % 2:=by rw [Int.natCast_emod,Int.natCast_ediv];simp
 rw [←e,BitVec.getLsbD,Nat.testBit_eq_decide_div_mod_eq];by_cases h1:v.toNat / 2 ^ k % 2=1
 ·rw [h1];simp
 ·have:v.toNat / 2 ^ k % 2=0:=by omega
  rw [this];simp
def Al1 (x y:Int) (k:Nat):bit (orB x y) k=if (bv x).getLsbD k||(bv y).getLsbD k then 1 else 0:=by unfold orB;rw [show IntKind.u64.bits=64 from rfl,Gs0,BitVec.getLsbD_or];rfl
def Hg2 (x:Int):bit (orB x Wh) 47=1:=by rw [Al1,show (bv Wh).getLsbD 47=true by kernel_rfl,Bool.or_true];rfl
def Hg3 (x:Int):bit (orB x Wh) 46=1:=by rw [Al1,show (bv Wh).getLsbD 46=true by kernel_rfl,Bool.or_true];rfl
def zm {z:Zone} {n:List UInt8} (h:tyO z n≠0):∃r∈z.recs,r.name=n:=by
 cases e:typesR z.recs n with
 |nil=>
  exfalso;apply h;unfold tyO;rw [e]
  kernel_rfl
 |cons t l=>
  have:t∈typesR z.recs n:=by rw [e];exact .head _
  simp only [typesR,Dj,Bz,Av,decide_eq_true_eq] at this;obtain ⟨r,⟨hr,hn,_⟩,_⟩:=this;exact ⟨r,hr,hn⟩
def Bf8 {z:Zone} {n:List UInt8} {r:Rec} (hr:r∈z.recs) (hn:r.name=n) (hk:knw r.typ=true) (k:Nat) (h1:(bv (shO r.typ)).getLsbD k=true) (h2:(bv Wh).getLsbD k=false):(bv (tyO z n)).getLsbD k=true:=by
 unfold tyO;rw [Gr8,L5,Hj9,h2,xz];have hlt:k<64:=BitVec.lt_of_getLsbD h1;have:(typesR z.recs n).any (fun t=>(bv (shO t)).getLsbD k)=true:=by rw [Bm];refine ⟨r.typ,?_,h1⟩;simp only [typesR,Dj,Bz,Av,decide_eq_true_eq];exact ⟨r,⟨hr,hn,hk⟩,rfl⟩
 rw [this];simp [hlt]
def An1 {z:Zone} (ho:ZOk z):tyO z z.origin≠0:=by
 obtain ⟨r,hr,hn,ht⟩:=ho.soaR;have h:=Bf8 hr hn (by rw [ht];kernel_rfl) 6 (by rw [ht];kernel_rfl) (by kernel_rfl);intro e;rw [e] at h;have h2:(bv 0).getLsbD 6=false:=by kernel_rfl
 rw [h2] at h;cases h
def Cz5 (g:List Rec) (i j:Nat) (a:Rec) (hi:i<g.length) (ha:g[j]? =some a):(lnk g i)[j]? =some (if 0<i∧j=i - 1 then En2 (g[i]'hi).name a else a):=by
 unfold lnk;by_cases h0:0<i
 ·have a1:g[i - 1]? =some (g[i - 1]'(by omega)):=Ay (by omega);have a2:g[i]? =some (g[i]'hi):=Ay hi;rw [if_pos h0,a1,a2];simp only;by_cases hj:j=i - 1
  ·subst hj;rw [if_pos ⟨h0,rfl⟩,Zd (by omega)];rw [a1] at ha;injection ha with ha;rw [ha]
  ·rw [if_neg (by omega),O4 (by omega),ha]
 ·rw [if_neg h0,if_neg (by omega),ha]
def nxt (g:List Rec) (j:Nat) (a:Rec):Rec:=match g[j+1]? with
 |some b=>En2 b.name a
 |none=>a
def Ac2:∀(k i:Nat) (g:List Rec),g.length=i+k→∀(j:Nat) (a:Rec),g[j]? =some a→(Cz6 k i g)[j]? =some (if i≤j+1 then nxt g j a else a)
 |0,i,g,hl,j,a,ha=>by
  show g[j]? =_;rw [ha];by_cases h:i≤j+1
  ·rw [if_pos h];have:g[j+1]? =none:=by rw [Oq];omega
   unfold nxt;rw [this]
  ·rw [if_neg h]
 |k+1,i,g,hl,j,a,ha=>by
  show (Cz6 k (i+1) (lnk g i))[j]? =_;have hi:i<g.length:=by omega
  have hj:=Cz5 g i j a hi ha;rw [Ac2 k (i+1) (lnk g i) (by rw [b9];omega) j _ hj];by_cases h1:0<i∧j=i - 1
  ·rw [if_neg (by omega),if_pos h1,if_pos (by omega)];unfold nxt;have e:j+1=i:=by omega
   rw [e,Ay hi]
  ·rw [if_neg h1];by_cases h2:i≤j+1
   ·have h3:i+1≤j+1:=by omega
    rw [if_pos h2,if_pos h3];unfold nxt;cases hb:g[j+1]? with
    |none=>
     have:(lnk g i)[j+1]? =none:=by rw [Oq] at hb ⊢;rw [b9];exact hb
     rw [this]
    |some b=>
     rw [Cz5 g i (j+1) b hi hb,if_neg (by omega)]
   ·rw [if_neg h2,if_neg (by omega)]
def Ac1:∀(k i:Nat) (g:List Rec),(Cz6 k i g).length=g.length
 |0,_,_=>rfl
 |k+1,i,g=>by show (Cz6 k (i+1) (lnk g i)).length=_;rw [Ac1,b9]
def Nn (z:Zone):(chainN z).length=(chain0 z (Qn z)).length:=Ac1 _ _ _
def Rn {z:Zone} {j:Nat} {a:Rec} (h:(chain0 z (Qn z))[j]? =some a):(chainN z)[j]? =some (nxt (chain0 z (Qn z)) j a):=by unfold chainN;rw [Ac2 _ 0 _ (by omega) j a h,if_pos (by omega)]
def Np {z:Zone} {ttl:Int} {a:Rec} (h:a∈chain0 z ttl):∃n∈namesN z,tyO z n≠0∧a=⟨n,47,ttl,⟨false,0,0,z.origin,[],[],0,0,0,0,0,0,chBits z n⟩⟩:=by
 unfold chain0 at h;rw [L4] at h;obtain ⟨n,hn,ha⟩:=h;unfold Km at ha;split at ha
 ·cases ha
 ·rename_i h0;injection ha with ha;exact ⟨n,hn,h0,ha.symm⟩
def Qy (z:Zone) (ttl:Int):(chain0 z ttl).Pairwise fun a b=>ltN a.name b.name:=by
 unfold chain0;have h:(namesN z).Pairwise ltN:=Jk _;generalize namesN z=l at*
 induction l with
 |nil=>exact .nil
 |cons n l ih=>
  obtain ⟨h1,h2⟩:=A0.1 h;rw [Ef8];split
  ·exact ih h2
  ·rename_i b hb;refine A0.2 ⟨fun w hw=> ?_,ih h2⟩;rw [L4] at hw;obtain ⟨m,hm,hw⟩:=hw;have e:∀{x:List UInt8} {y:Rec},Km z ttl x=some y→y.name=x:=by
    intro x y hy;unfold Km at hy;split at hy
    ·cases hy
    ·injection hy with hy;rw [←hy]
   rw [e hb,e hw];exact h1 m hm
def Bj9 {z:Zone} (ho:ZOk z):∃r,namesN z=z.origin::r:=by
 have hm:z.origin∈namesN z:=by have:=Lz z z.origin;rw [ho.exO] at this;simpa using this
 have hs:(namesN z).Pairwise ltN:=Jk _;have hu:∀x∈namesN z,under x z.origin=true:=fun x hx=>Tp (by rw [←Lz];simpa using hx);generalize namesN z=l at*;cases l with
 |nil=>cases hm
 |cons x r=>
  refine ⟨r,?_⟩;congr 1;rcases Am.1 hm with e|hm
  ·exact e.symm
  ·have h1:=(A0.1 hs).1 _ hm;apply Classical.byContradiction;intro hne;exact to_N.asym h1 (Px (hu x (.head _)) hne)
def vh {z:Zone} (ho:ZOk z):∃a,(chain0 z (Qn z))[0]? =some a∧a.name=z.origin:=by obtain ⟨r,hr⟩:=Bj9 ho;unfold chain0;rw [hr,Ef8];unfold Km;rw [if_neg (An1 ho)];exact ⟨_,rfl,rfl⟩
structure ChainOk (z:Zone) (l:List Rec):Prop where
 pos:0<l.length
 first:∀a,l[0]? =some a→a.name=z.origin
 last:∀a,l[l.length - 1]? =some a→a.data.host=z.origin
 each:∀a∈l,a.typ=47∧bit a.data.bits 47=1∧bit a.data.bits 46=1∧(∃r∈z.recs,r.name=a.name)∧under a.name z.origin=true
 next:∀i a b,l[i]? =some a→l[i+1]? =some b→a.data.host=b.name∧ltN a.name b.name
def J3 (g:List Rec) (j:Nat) (a:Rec):(nxt g j a).name=a.name:=by unfold nxt;split<;>rfl
def Cw0 (g:List Rec) (j:Nat) (a:Rec):(nxt g j a).typ=a.typ:=by unfold nxt;split<;>rfl
def Az9 (g:List Rec) (j:Nat) (a:Rec):(nxt g j a).data.bits=a.data.bits:=by unfold nxt;split<;>rfl
def Hb {z:Zone} {j:Nat} {b:Rec} (h:(chainN z)[j]? =some b):∃a,(chain0 z (Qn z))[j]? =some a∧b=nxt (chain0 z (Qn z)) j a:=by have hlt:=(Aw.1 h).1;rw [Nn] at hlt;have e:=Ay hlt;refine ⟨_,e,?_⟩;rw [Rn e] at h;injection h with h;exact h.symm
def Ag5 {z:Zone} (ho:ZOk z):ChainOk z (chainN z):=by
 obtain ⟨a0,h0,n0⟩:=vh ho;have hp:0<(chain0 z (Qn z)).length:=(Aw.1 h0).1;refine ⟨by rw [Nn];exact hp,fun a ha=> ?_,fun a ha=> ?_,fun b hb=> ?_,fun i a b ha hb=> ?_⟩
 ·rw [Rn h0] at ha;injection ha with ha;rw [←ha,J3];exact n0
 ·rw [Nn] at ha;obtain ⟨c,hc,rfl⟩:=Hb ha;have:(chain0 z (Qn z))[(chain0 z (Qn z)).length - 1+1]? =none:=by rw [Oq];omega
  unfold nxt;rw [this];obtain ⟨n,_,_,e⟩:=Np (A4 hc);rw [e]
 ·obtain ⟨j,hj⟩:=Dp.1 hb;obtain ⟨c,hc,rfl⟩:=Hb hj;obtain ⟨n,hn,h1,e⟩:=Np (A4 hc);rw [J3,Cw0,Az9,e];exact ⟨rfl,Hg2 _,Hg3 _,zm h1,Tp (by rw [←Lz];simpa using hn)⟩
 ·obtain ⟨c,hc,rfl⟩:=Hb ha;obtain ⟨d,hd,rfl⟩:=Hb hb;rw [J3,J3];constructor
  ·unfold nxt;rw [hd];rfl
  ·have hs:=Qy z (Qn z);rw [Dt] at hs;obtain ⟨h1,e1⟩:=Aw.1 hc;obtain ⟨h2,e2⟩:=Aw.1 hd;have:=hs i (i+1) h1 h2 (by omega);rw [e1,e2] at this;exact this
end Go.X.G
/- Wildcards; what a zone says about a question. -/
namespace Go.X.G
open Go Go.X
def Sj (n:List UInt8) (r:Rec):Rec:={r with name:=n}
def Df1 (l:List Rec) (n:List UInt8) (i:Nat) (c:Rec) (r g:List Rec) (hd:l.drop i=c::r) (hi:i<l.length) (hc:l[i]? =some c) (hg:g=(l.take i).map (Sj n)++l.drop i):
  g[i]? =some c∧g.length=l.length∧g.set i {c with name:=n}=(l.take (i+1)).map (Sj n)++l.drop (i+1):=by
 have hA:((l.take i).map (Sj n)).length=i:=by rw [Ew,Ap];omega
 have hd1:l.drop (i+1)=r:=by rw [←Cf (i:=1) (j:=i),hd];rfl
 have ht:(l.take (i+1)).map (Sj n)=(l.take i).map (Sj n)++[Sj n c]:=by rw [Cq,hc,List.map_append];rfl
 rw [ht,hd1];rw [hd] at hg;have hlen:l.length=i+(r.length+1):=by have:=congrArg List.length hd;rw [B3,A5] at this;omega
 generalize (l.take i).map (Sj n)=A at*;subst hg;refine ⟨?_,?_,?_⟩
 ·rw [A3 (by omega),hA];simp
 ·rw [Ab,A5,hA];omega
 ·rw [M8 _ _ (by omega),hA];simp [Sj]
def Eh0 (z:Zone) (q:Ques) (l:List Rec) (p2 p3 p4 p5:PV) (N:Nat) (hN:l.length<N) (hl:l.length≤1000000):
  Ey9.ev S N [z.pv,q.pv,p2,p3,p4,p5,Ag l]=some (.yld 0 [Ag (l.map (Sj q.name))]):=by
 refine E8 l (fun i (g:List Rec)=>[Ag g, .i .i64 (i:Int)]) (fun i g r=> .yld 0 [Ag (l.map (Sj q.name))]) (fun i g=>g=(l.take i).map (Sj q.name)++l.drop i) l (by simp (disch:=omega) only [EVM,EVC,xe,EVP,EV,simprocAttr]) (by simp) hN (fun i g c r hd hi hc hI=> ?_) (fun g hI=> ?_)
 ·left;obtain ⟨h1,h2,h3⟩:=Df1 l q.name i c r g hd hi hc hI;refine ⟨g.set i {c with name:=q.name},?_,h3,rfl⟩;have hs:Pf 16 0 [.s q.name] (Ag g) (.i .i64 (i:Int))=some (Ag (g.set i {c with name:=q.name})):=by have:=Bl1 g .i64 (i:Int) q.name c (by omega) (by rw [Ed];exact h1);rwa [Ed] at this
  generalize g.set i {c with name:=q.name}=g' at*;simp (disch:=omega) only [Am4,h1,hs,EVM,EVC,EVR,xe,EVP,EV,simprocAttr]
 ·have e:g=l.map (Sj q.name):=by rw [hI];simp
  rw [←e];simp (disch:=omega) only [Am4,EVM,EVC,EVR,xe,EVP,EV,simprocAttr]
  try simp [Out.goes]
def Ws (z:Zone) (q:Ques):Option Res:=
 if starOk (encN z q.name)=true∧allR z (starN (encN z q.name))≠[] then
  some {saysM ((allR z (starN (encN z q.name))).map (Sj q.name)) q.typ with owner:=starN (encN z q.name),wild:=true}
 else none
def Al6 (z:Zone) (n:List UInt8):(allR z n).length≤z.recs.length:=Dw _ _
def Ad9 (z:Zone) (n:List UInt8):(encN z n).length≤254:=by
 unfold encN;rcases Ak (under n z.origin) with hu|hu
 ·rw [if_pos hu];cases h:Bz4 z n with
  |none=>simp
  |some e=>exact Gy (Bw.1 (Mp hu h).1).2.1
 ·rw [if_neg (by simp [hu])];simp
def An6:starOk []=false:=by decide
def Eg9 (z:Zone) (q:Ques) (hz:z.wf) (hl:z.recs.length≤1000) (hq:q.name.length≤9223372036854775807):S Cw4 2 [z.pv,q.pv]=some (Ll (Ws z q)):=by
 refine Hy9 (N:=2000) rfl ?_;have k1:=R3 z q.name hz hl hq;have el:=Ad9 z q.name;have k2:=T3 (encN z q.name) (by omega);have k3:=Ab0 z (starN (encN z q.name)) (by omega);have al:=Al6 z (starN (encN z q.name));unfold Ws;by_cases h1:encN z q.name=[]
 ·rw [h1] at k1 ⊢;rw [An6,if_neg (by simp)];simp (disch:=omega) only [Am4,k1,Ll,EVM,EVC,EVR,xe,EVP,EV,simprocAttr]
  try simp
 ·have h2:decide (encN z q.name≠[])=true:=by simp [h1]
  rw [h2] at k1;rcases Ak (starOk (encN z q.name)) with h3|h3
  ·rw [h3] at k2;by_cases h4:allR z (starN (encN z q.name))=[]
   ·rw [if_neg (by simp [h4])];rw [h4] at k3;simp (disch:=omega) only [Am4,k1,k2,k3,Ll,EVM,EVC,EVR,xe,EVP,EV,simprocAttr]
    try simp
   ·rw [if_pos ⟨h3,h4⟩];have h5:¬((allR z (starN (encN z q.name))).length:Int)=0:=by have:=Bc.2 h4;omega
    have k4:=fun p2 p3 p4 p5=>Eh0 z q (allR z (starN (encN z q.name))) p2 p3 p4 p5 2000 (by omega) (by omega);have k5:=Bl7 ((allR z (starN (encN z q.name))).map (Sj q.name)) q.typ (by rw [Ew];omega);generalize (allR z (starN (encN z q.name))).map (Sj q.name)=ml at*;generalize allR z (starN (encN z q.name))=al at*;simp (disch:=omega) only [Am4,k1,k2,k3,k4,k5,h5,Ll,EVM,EVC,EVR,xe,EVP,EV,simprocAttr]
  ·rw [h3] at k2;rw [if_neg (by simp [h3])];generalize allR z (starN (encN z q.name))=al at*;simp (disch:=omega) only [Am4,k1,k2,k3,Ll,EVM,EVC,EVR,xe,EVP,EV,simprocAttr]
   try simp
def Bv1 (z:Zone) (q:Ques):Res:=
 match Bz3 z q.name with
 |some x=>x
 |none=>if exB z q.name=true then {saysM (allR z q.name) q.typ with owner:=q.name} else (Ws z q).getD ⟨6,q.name,false,[],[]⟩
def findM (z:Zone) (q:Ques):Res:=
 if under q.name z.origin=true then
  if cutN z q.name≠[]∧(cutN z q.name≠q.name∨q.typ≠43) then ⟨4,cutN z q.name,false,[],findR z.recs (cutN z q.name) 2⟩ else Bv1 z q
 else Hk1
def Ch5 (z:Zone) (q:Ques) (hz:z.wf) (hl:z.recs.length≤1000) (hq:q.name.length≤9223372036854775807):S Bq3 2 [z.pv,q.pv]=some [(findM z q).pv]:=by
 refine Hd6 (N:=1) rfl ?_;have g1:=hz.origin;unfold Q8 at g1;have k0:=Ec q.name z.origin hq g1;have k1:=Eg0 z q.name hz (by omega) hq;have k2:=Zn z (cutN z q.name) 2 (by omega);have k4:=Am3 z q.name hz hl;have k5:=Ab0 z q.name (by omega);have al:=Al6 z q.name;have k6:=Bl7 (allR z q.name) q.typ (by omega);have k7:=Eg9 z q hz hl hq;unfold findM;rcases Ak (under q.name z.origin) with hu|hu
 ·rw [if_pos hu];rw [hu] at k0;have k3:=fp z q.name hz (by omega) hu;have tail:∀p3 p4,T.ev S 1 xj [z.pv,q.pv, .b true,p3,p4]=some (.ret [(Bv1 z q).pv]):=by
   intro p3 p4;unfold Bv1;cases hr:Bz3 z q.name with
   |some x=>
    rw [hr] at k3;simp only [Ll] at k3;simp (disch:=omega) only [Zt,k3,EVM,EVC,EVR,xe,EVP,EV,simprocAttr]
   |none=>
    rw [hr] at k3;simp only [Ll] at k3;rcases Ak (exB z q.name) with he|he
    ·rw [he] at k4;simp only [he,if_true];generalize saysM (allR z q.name) q.typ=sm at*;generalize allR z q.name=ar at*;simp (disch:=omega) only [Zt,k3,k4,k5,k6,EVM,EVC,EVR,xe,EVP,EV,simprocAttr]
    ·rw [he] at k4;simp only [he,Ad,if_false];cases hw:Ws z q with
     |some x=>
      rw [hw] at k7;simp only [Ll] at k7;simp (disch:=omega) only [Zt,k3,k4,k7,EVM,EVC,EVR,xe,EVP,EV,simprocAttr]
      try rfl
     |none=>
      rw [hw] at k7;simp only [Ll] at k7;simp (disch:=omega) only [Zt,k3,k4,k7,EVM,EVC,EVR,xe,EVP,EV,simprocAttr]
      try rfl
  by_cases h1:cutN z q.name=[]
  ·rw [h1] at k1;rw [if_neg (by simp [h1])];simp (disch:=omega) only [↓tail,Zt,k0,k1,ne_eq,not_true,decide_false,EVM,EVC,EVR,xe,EVP,EV,simprocAttr]
  ·have h2:decide (cutN z q.name≠[])=true:=by simp [h1]
   rw [h2] at k1;by_cases h3:cutN z q.name=q.name
   ·by_cases h4:q.typ=43
    ·rw [if_neg (by simp [h3,h4])];rw [h3] at k1;simp (disch:=omega) only [↓tail,Zt,k0,k1,h4,EVM,EVC,EVR,xe,EVP,EV,simprocAttr]
    ·rw [if_pos ⟨h1, .inr h4⟩];rw [h3] at k1 k2 ⊢;generalize findR z.recs q.name 2=fr at*;simp (disch:=omega) only [Zt,k0,k1,k2,h4,EVM,EVC,EVR,xe,EVP,EV,simprocAttr]
   ·rw [if_pos ⟨h1, .inl h3⟩];generalize findR z.recs (cutN z q.name) 2=fr at*;simp (disch:=omega) only [Zt,k0,k1,k2,h3,EVM,EVC,EVR,xe,EVP,EV,simprocAttr]
 ·rw [if_neg (by simp [hu])];rw [hu] at k0;simp (disch:=omega) only [Zt,k0,EVM,EVC,EVR,xe,EVP,EV,simprocAttr]
def Bm7 {z:Zone} {n u:List UInt8} (h:Ex1 z n=some u):∃r rest,findR z.recs u 39=r::rest:=by
 unfold Ex1 at h;have:=List.find?_some h;unfold dnB at this;cases hf:findR z.recs u 39 with
 |nil=>rw [hf] at this;simp at this
 |cons r rest=>exact ⟨r,rest,rfl⟩
end Go.X.G
/- nsec: the reference's chain. -/
namespace Go.X.G
open Go Go.X
def js {z:Zone} {n:List UInt8} (h:n∈namesN z):Ng z n=false∧under n z.origin=true:=by obtain ⟨r,hr,h1,h2,h3,h4⟩:=(Nv z n).1 h;refine ⟨?_,h4⟩;rw [C5];intro hn;unfold Ng at hn h2;rw [Bm] at hn;obtain ⟨c,hc,h5⟩:=hn;simp only [Av,decide_eq_true_eq] at h5;obtain ⟨⟨c1,c2⟩,c3⟩:=h5;rw [List.any_eq_false] at h2;refine h2 c hc ?_;simp only [Av,decide_eq_true_eq];refine ⟨⟨c1,fun e=> ?_⟩,J0 h3 c3⟩;rw [←e] at h3;exact c2 (Q2 h3 c3)
end Go.X.G
/- What a checked zone says about a question, in plain words. -/
namespace Go.X.G
open Go Go.X
def Bj7 {z:Zone} {n:List UInt8} (ho:ZOk z) (hu:under n z.origin=true) (hx:exB z n=false) (hc:cutN z n=[]∨cutN z n=n):∀r∈z.recs,under r.name n=false:=by
 intro r hr;rcases Ak (under r.name n) with h|h
 ·exfalso;have h1:=ho.under hr;have hh:Ng z r.name=true:=by
   rcases Ak (Ng z r.name) with e|e
   ·exact e
   ·have:=(J5 z n).2 ⟨r,hr,h1,e,h,hu⟩;rw [hx] at this;cases this
  rw [Fj2] at hh;simp only [Av,decide_eq_true_eq] at hh;obtain ⟨c1,_,_,_,_,c2⟩:=oj ho hh.1;obtain ⟨_,g2⟩:=Ms z r.name z.recs [] (.inl rfl);obtain ⟨_,g3,_,_⟩:=g2 hh.1;obtain ⟨x,hxm,x1,x2⟩:=g3.resolve_left hh.1;change x.name=cutN z r.name at x2;generalize cutN z r.name=c at*;obtain ⟨_,_,s1⟩:=Bw.1 c1;obtain ⟨_,vn,s2⟩:=Bw.1 h;obtain ⟨_,vc,_⟩:=Bw.1 c1;by_cases hl:(lbl n).length≤(lbl c).length
  ·have hcn:under c n=true:=Bw.2 ⟨vc,vn,Uq s2 s1 hl⟩;obtain ⟨y,y1,y2,y3,y4,_⟩:=(J5 z c).1 c2;have:=(J5 z n).2 ⟨y,y1,y2,y3,J0 y4 hcn,hu⟩;rw [hx] at this;cases this
  ·have hnc:under n c=true:=Bw.2 ⟨vn,vc,Uq s1 s2 (by omega)⟩;obtain ⟨k1,k2⟩:=Ms z n z.recs [] (.inl rfl);rcases hc with hc|hc
   ·have:=(k1 hc).2 x hxm x1;rw [x2,hnc] at this;cases this
   ·by_cases hc0:cutN z n=[]
    ·have:=(k1 hc0).2 x hxm x1;rw [x2,hnc] at this;cases this
    ·obtain ⟨_,_,_,k3⟩:=k2 hc0;have:=k3 x hxm x1 (by rw [x2];exact hnc);change (lbl (cutN z n)).length≤_ at this;rw [hc,x2] at this;omega
 ·exact h
def Mt (z:Zone) (n:List UInt8) (t:Int):Nat:=(z.recs.filter fun r=>decide (r.name=n) && (decide (t=255)||decide (r.typ=t))).length
def Lc (z:Zone) (n:List UInt8) (t:Int):Mt z n t=(typedR (allR z n) t).length:=by
 unfold Mt typedR allR;split
 ·rename_i h;subst h;simp
 ·rename_i h;rw [List.filter_filter];congr 1;refine List.filter_congr fun r _=> ?_;simp [h,Bool.and_comm]
def Bx0 (z:Zone) (n:List UInt8):Mt z n 2=(findR z.recs n 2).length:=by unfold Mt findR;congr 1
def gp {l:List Rec} {t:Int} {x:Rec} (h:x∈typedR l t):x∈l∧(x.typ=t∨t=255):=by
 unfold typedR at h;split at h
 ·rename_i e;exact ⟨h, .inr e⟩
 ·obtain ⟨h1,h2⟩:=Bz.1 h;exact ⟨h1, .inl (by simpa using h2)⟩
def gn (l:List Rec) (n:List UInt8) (t:Int):(typedR (l.map (Sj n)) t).length=(typedR l t).length:=by
 unfold typedR;split
 ·simp
 ·rw [List.filter_map,Ew];rfl
structure FindOk (z:Zone) (q:Ques) (r:Res):Prop where
 ans:r.kind=1→r.recs≠[]∧r.recs.length=Mt z r.owner q.typ∧(r.wild=false→r.owner=q.name)∧∀x∈r.recs,x.name=q.name∧(x.typ=q.typ∨q.typ=255)∧{x with name:=r.owner}∈z.recs
 nothing:r.kind=6∨r.wild=true→∀x∈z.recs,under x.name q.name=false
 out:r.kind=0→under q.name z.origin=false
 nodata:r.kind=5→Mt z r.owner q.typ=0
 nx:r.kind=6→r.recs=[]∧r.wild=false
 ref:r.kind=4→under q.name r.owner=true∧r.owner≠z.origin∧r.recs.length=Mt z r.owner 2∧r.recs≠[]∧∀x∈r.recs,x.typ=2
 kinds:r.kind=0∨r.kind=1∨(r.kind=2∧r.recs≠[])∨(r.kind=3∧r.recs≠[])∨r.kind=4∨r.kind=5∨r.kind=6
def says_kind (l:List Rec) (t:Int):((saysM l t).kind=2∧(saysM l t).recs≠[])∨((saysM l t).kind=5∧typedR l t=[])∨((saysM l t).kind=1∧typedR l t≠[]∧(saysM l t).recs=typedR l t):=by
 unfold saysM;split
 ·exact .inl ⟨rfl,by simp⟩
 ·split
  ·rename_i h;exact .inr (.inl ⟨rfl,h⟩)
  ·rename_i h;exact .inr (.inr ⟨rfl,h,rfl⟩)
def Mx (l:List Rec) (t:Int):(saysM l t).wild=false:=by
 unfold saysM;split
 ·rfl
 ·split<;>rfl
def Ch4 (z:Zone) (q:Ques) (ho:ZOk z):FindOk z q (findM z q):=by
 unfold findM;split
 ·rename_i hu;split
  ·rename_i hc;obtain ⟨f1,f2,f3,_⟩:=oj ho hc.1;refine ⟨fun h=>by simp at h,fun h=>by simp at h,fun h=>by simp at h,fun h=>by simp at h,fun h=>by simp at h,fun _=>⟨f1,f2,(Bx0 z _).symm,fun e=>f3 (by have e':findR z.recs (cutN z q.name) 2=[]:=e;rw [e'];rfl),fun x hx=>(Kh.1 hx).2.2⟩,by simp⟩
  ·rename_i hc;have hc':cutN z q.name=[]∨cutN z q.name=q.name:=by
    by_cases h0:cutN z q.name=[]
    ·exact .inl h0
    ·refine .inr (Classical.byContradiction fun h1=>hc ⟨h0, .inl h1⟩)
   unfold Bv1;cases hr:Bz3 z q.name with
   |some x=>
    simp only;unfold Bz3 at hr;cases hr2:Ex1 z q.name with
    |none=>rw [hr2] at hr;cases hr
    |some u=>
     rw [hr2] at hr;simp only [A7,Aq] at hr;obtain ⟨r0,rest,hf⟩:=Bm7 hr2;unfold jk at hr;rw [hf] at hr;subst hr;exact ⟨fun h=>by simp at h,fun h=>by simp at h,fun h=>by simp at h,fun h=>by simp at h,fun h=>by simp at h,fun h=>by simp at h,by simp⟩
   |none=>
    simp only;split
    ·rename_i hex;rcases says_kind (allR z q.name) q.typ with ⟨k,k'⟩|⟨k,kt⟩|⟨k,kt,kr⟩
     ·refine ⟨fun h=> ?_,fun h=> ?_,fun h=> ?_,fun h=> ?_,fun h=> ?_,fun h=> ?_, .inr (.inr (.inl ⟨k,k'⟩))⟩<;>simp [k,Mx] at h
     ·refine ⟨fun h=> ?_,fun h=> ?_,fun h=> ?_,fun _=> ?_,fun h=> ?_,fun h=> ?_,by simp [k]⟩
      ·simp [k] at h
      ·simp [k,Mx] at h
      ·simp [k] at h
      ·show Mt z q.name q.typ=0;rw [Lc,kt];rfl
      ·simp [k] at h
      ·simp [k] at h
     ·refine ⟨fun _=>⟨?_,?_,fun _=>rfl,?_⟩,fun h=> ?_,fun h=> ?_,fun h=> ?_,fun h=> ?_,fun h=> ?_,by simp [k]⟩
      ·show (saysM (allR z q.name) q.typ).recs≠[];rw [kr];exact kt
      ·show (saysM (allR z q.name) q.typ).recs.length=Mt z q.name q.typ;rw [kr,Lc]
      ·intro x hx;change x∈(saysM (allR z q.name) q.typ).recs at hx;rw [kr] at hx;obtain ⟨h1,h2⟩:=gp hx;obtain ⟨h3,h4⟩:=Bz.1 h1;have h5:x.name=q.name:=by simpa using h4
       refine ⟨h5,h2,?_⟩;show {x with name:=q.name}∈z.recs;rw [←h5];exact h3
      ·simp [k,Mx] at h
      ·simp [k] at h
      ·simp [k] at h
      ·simp [k] at h
      ·simp [k] at h
    ·rename_i hex;have hex':exB z q.name=false:=by simpa using hex
     have hno:=Bj7 ho hu hex' hc';unfold Ws;split
     ·simp only [Cm];generalize starN (encN z q.name)=s;rcases says_kind ((allR z s).map (Sj q.name)) q.typ with ⟨k,k'⟩|⟨k,kt⟩|⟨k,kt,kr⟩
      ·refine ⟨fun h=> ?_,fun _=>hno,fun h=> ?_,fun h=> ?_,fun h=> ?_,fun h=> ?_, .inr (.inr (.inl ⟨k,k'⟩))⟩<;>simp [k] at h
      ·refine ⟨fun h=> ?_,fun _=>hno,fun h=> ?_,fun _=> ?_,fun h=> ?_,fun h=> ?_,by simp [k]⟩
       ·simp [k] at h
       ·simp [k] at h
       ·show Mt z s q.typ=0;rw [Lc,←gn (allR z s) q.name q.typ,kt];rfl
       ·simp [k] at h
       ·simp [k] at h
      ·refine ⟨fun _=>⟨?_,?_,fun h=> ?_,?_⟩,fun _=>hno,fun h=> ?_,fun h=> ?_,fun h=> ?_,fun h=> ?_,by simp [k]⟩
       ·show (saysM ((allR z s).map (Sj q.name)) q.typ).recs≠[];rw [kr];exact kt
       ·show (saysM ((allR z s).map (Sj q.name)) q.typ).recs.length=Mt z s q.typ;rw [kr,Lc,gn]
       ·simp at h
       ·intro x hx;change x∈(saysM ((allR z s).map (Sj q.name)) q.typ).recs at hx;rw [kr] at hx;obtain ⟨h1,h2⟩:=gp hx;obtain ⟨y,h3,rfl⟩:=Dj.1 h1;obtain ⟨h4,h5⟩:=Bz.1 h3;have h6:y.name=s:=by simpa using h5
        refine ⟨rfl,h2,?_⟩;show {Sj q.name y with name:=s}∈z.recs;rw [←h6];exact h4
       ·simp [k] at h
       ·simp [k] at h
       ·simp [k] at h
       ·simp [k] at h
     ·simp only [Option.getD_none];refine ⟨fun h=>by simp at h,fun _=>hno,fun h=>by simp at h,fun h=>by simp at h,fun _=>⟨rfl,rfl⟩,fun h=>by simp at h,by simp⟩
 ·rename_i hu;have hu':under q.name z.origin=false:=by simpa using hu
  refine ⟨fun h=>by simp at h,fun h=>by simp at h,fun _=>hu',fun h=>by simp at h,fun h=>by simp at h,fun h=>by simp at h,by simp⟩
end Go.X.G
/- The law NsecOrder. -/
namespace Go.X.G
open Go Go.X
def Ep1 (x y:Int):Dj7 (orB x y):=by have h:=(BitVec.ofInt IntKind.u64.bits x|||BitVec.ofInt IntKind.u64.bits y).isLt;have h2:(2:Nat) ^ IntKind.u64.bits=18446744073709551616:=rfl;unfold orB Dj7;rw [Fb4 (by omega) (by omega)];omega
def Dm5 {z:Zone} (hz:z.wf):S6 (Qn z):=by
 unfold Qn;cases e:findR z.recs z.origin 6 with
 |nil=>unfold S6;simp
 |cons r l=>
  have:r∈findR z.recs z.origin 6:=by rw [e];exact .head _
  exact (hz.recs.2 r (Kh.1 this).1).data.e
def oy {z:Zone} (hz:z.wf):∀a∈chain0 z (Qn z),a.wf:=fun a ha=>by obtain ⟨n,hn,_,rfl⟩:=Np ha;have hv:=Gy (Bw.1 (Tp (z:=z) (n:=n) (by rw [←Lz];simpa using hn))).1;exact ⟨by unfold Q8;simp only;omega,by unfold S6;simp,Dm5 hz,⟨by unfold Dj7;simp,by unfold Dj7;simp,hz.origin,by unfold Q8;simp,by unfold Q8;simp,by unfold S6;simp,by unfold S6;simp,by unfold S6;simp,by unfold S6;simp,by unfold S6;simp,by unfold S6;simp,Ep1 _ _⟩⟩
def Er1 {z:Zone} (hz:z.wf):∀a∈chainN z,a.wf:=fun b hb=>by
 obtain ⟨j,hj⟩:=Dp.1 hb;obtain ⟨c,hc,rfl⟩:=Hb hj;have hw:=oy hz c (A4 hc);unfold nxt;split
 ·rename_i d hd;have hd:=oy hz d (A4 hd);exact ⟨hw.name,hw.typ,hw.ttl,⟨hw.data.hi,hw.data.lo,hd.name,hw.data.mail,hw.data.text,hw.data.a,hw.data.b,hw.data.c,hw.data.d,hw.data.e,hw.data.f,hw.data.bits⟩⟩
 ·exact hw
end Go.X.G
/- nsec: Needed; the law NsecChains. -/
namespace Go.X.G
open Go Go.X
def Rh (z:Zone) (name owner star:List UInt8) (r:Rec):Bool:=decide (r.name=owner)||F4 r z.origin name||(decide (star≠[]) && F4 r z.origin star)
def Pt (x:Res) (name:List UInt8):List UInt8:=if x.wild=true then x.owner else name
def l6 (z:Zone) (x:Res) (name:List UInt8):List UInt8:=if x.kind=6 then starN (encN z name) else []
def neededN (z:Zone) (name:List UInt8):List Rec:=
 if Ip z=0 then
  if (findM z ⟨name,43⟩).kind=0∨(findM z ⟨name,43⟩).kind=4∨(findM z ⟨name,43⟩).kind=3 then []
  else (chainN z).filter (Rh z name (Pt (findM z ⟨name,43⟩) name) (l6 z (findM z ⟨name,43⟩) name))
 else []
def Bh1 (n:List UInt8):(starN n).length≤254:=by
 unfold starN;split
 ·rename_i h;unfold starOk at h;simp only [Av] at h;exact Gy h.2
 ·simp
def By6 (z:Zone) (name owner star:List UInt8) (r:Rec) (hr:r.wf) (hz:z.wf) (hn:name.length≤9223372036854775807) (hs:star.length≤9223372036854775807):S bf 1 [r.pv, .s owner,z.pv, .s name, .s star]=some [.b (!Rh z name owner star r)]:=by
 refine Hz5 (N:=1) rfl ?_;have g1:=hz.origin;unfold Q8 at g1;have k1:=M7 r z.origin name hr g1 hn;have k2:=M7 r z.origin star hr g1 hs;unfold Rh;by_cases h1:r.name=owner
 ·simp (disch:=omega) only [Dq5,h1,Cz,C2,EVC,xe,EVP,EV,simprocAttr]
  try simp
 ·rcases Ak (F4 r z.origin name) with e1|e1
  ·simp (disch:=omega) only [Dq5,h1,k1,e1,Cz,C2,EVC,xe,EVP,EV,simprocAttr]
   try simp
  ·by_cases h2:star=[]
   ·subst h2;simp (disch:=omega) only [Dq5,h1,k1,e1,Cz,C2,EVC,xe,EVP,EV,simprocAttr]
    try simp [h1]
   ·rcases Ak (F4 r z.origin star) with e2|e2<;>simp (disch:=omega) only [Dq5,h1,h2,k1,k2,e1,e2,Cz,C2,EVC,xe,EVP,EV,simprocAttr]<;>simp [h1,h2]
def Rr (z:Zone) (name owner star:List UInt8) (hz:z.wf) (l:List Rec) (hw:∀r∈l,r.wf) (hl:l.length≤1000000) (hn:name.length≤9223372036854775807) (hs:star.length≤9223372036854775807):
  S bg 1048578 [Ag l, .f bf [.s owner,z.pv, .s name, .s star]]=some [Ag (l.filter (Rh z name owner star))]:=by
 have:=Zz l bf [.s owner,z.pv, .s name, .s star] (fun r=> !Rh z name owner star r) hl (fun r hr=>By6 z name owner star r (hw r hr) hz hn hs);simpa using this
def Wk {z:Zone} (hl:z.recs.length≤1000):(chainN z).length≤1000000:=by have:=Zk z (Qn z);have:=Nw z hl;rw [Nn];omega
def By5 (z:Zone) (name:List UInt8) (hz:z.wf) (hw:Ip z=0→∀a∈chainN z,a.wf) (hl:z.recs.length≤1000) (hn:name.length≤9223372036854775807):S Cy7 2 [z.pv, .s name]=some [Ag (neededN z name)]:=by
 refine Hd8 (N:=1) rfl ?_;have k1:=Wg z hz hl;unfold neededN;by_cases h:Ip z=0
 ·rw [if_pos h] at k1 ⊢;have ho:=V9 h;have hw:=hw h;have hcl:=Wk hl;have k2:=Ch5 z ⟨name,43⟩ hz hl hn;have hx:=Ch4 z ⟨name,43⟩ ho;have k3:=R3 z name hz hl hn;have el:=Ad9 z name;have k4:=T3 (encN z name) (by omega);have sl:=Bh1 (encN z name);have d1:=Rr z name name (starN (encN z name)) hz (chainN z) hw hcl hn (by omega);generalize findM z ⟨name,43⟩=x at*;have d2:=Rr z name x.owner [] hz (chainN z) hw hcl hn (by simp);have d3:=Rr z name name [] hz (chainN z) hw hcl hn (by simp);generalize chainN z=l at*;unfold Pt l6;by_cases h0:x.kind=0
  ·simp (disch:=omega) only [qf,k1,k2,h0,F0,Cz,C2,EVM,EVR,EVC,xe,EVP,EV,simprocAttr]
   try simp
  ·by_cases h4:x.kind=4
   ·simp (disch:=omega) only [qf,k1,k2,h0,h4,F0,Cz,C2,EVM,EVR,EVC,xe,EVP,EV,simprocAttr]
    try simp
   ·by_cases h3:x.kind=3
    ·simp (disch:=omega) only [qf,k1,k2,h0,h4,h3,F0,Cz,C2,EVM,EVR,EVC,xe,EVP,EV,simprocAttr]
     try simp
    ·rw [if_neg (by simp [h0,h4,h3])];by_cases h6:x.kind=6
     ·rw [if_pos h6,(hx.nx h6).2,if_neg (by simp)];generalize starN (encN z name)=st at*;generalize starOk (encN z name)=so at*;generalize List.filter (Rh z name name st) l=fl at*;simp (disch:=omega) only [qf,k1,k2,k3,k4,d1,h0,h4,h3,h6,Dl,Kj,F0,Cz,C2,EVM,EVR,EVC,xe,EVP,EV,simprocAttr]
     ·rw [if_neg h6];rcases Ak x.wild with e|e
      ·rw [if_pos e];generalize List.filter (Rh z name x.owner []) l=fl at*;simp (disch:=omega) only [qf,k1,k2,d2,h0,h4,h3,h6,e,Dl,Kj,F0,Cz,C2,EVM,EVR,EVC,xe,EVP,EV,simprocAttr]
      ·rw [if_neg (by rw [e];simp)];generalize List.filter (Rh z name name []) l=fl at*;simp (disch:=omega) only [qf,k1,k2,d3,h0,h4,h3,h6,e,Dl,Kj,F0,Cz,C2,EVM,EVR,EVC,xe,EVP,EV,simprocAttr]
 ·rw [if_neg h] at k1 ⊢;simp (disch:=omega) only [qf,k1,F0,Cz,C2,EVM,EVR,EVC,xe,EVP,EV,simprocAttr]
end Go.X.G
/- nsec: the chain of a zone, its gaps, and what they show. -/
namespace Go.X.G
open Go Go.X
def qk {z:Zone} (ho:ZOk z) {r:Rec} (hr:r∈z.recs):knw r.typ=true:=by have:=ho.valid r hr;unfold Ql at this;simp only [Av] at this;exact this.1.1.1.2
def Bb8 {z:Zone} (ho:ZOk z) {r:Rec} (hr:r∈z.recs) (h:r.typ=6):r.name=z.origin:=by have:=ho.recs r hr;unfold Rv at this;simp only [Av,A6,Gv,decide_eq_false_iff_not,ne_eq,F7] at this;exact this.1.1.2.resolve_left (fun q=>q h)
def Bb9 {z:Zone} (ho:ZOk z) {r:Rec} (hr:r∈z.recs):Rw z r=true:=by have:=ho.recs r hr;unfold Rv at this;simp only [Av] at this;exact this.2
def Dk8 {z:Zone} (ho:ZOk z) {r:Rec} (hr:r∈z.recs) (h:r.typ=2∨r.typ=39):(lbl r.name)[0]? ≠some [42]:=by intro h2;have:=Bb9 ho hr;unfold Rw at this;rw [if_pos ⟨h2,h⟩] at this;cases this
def Eb6 {t:Int} (h:knw t=true):0≤t∧t≤63:=by rcases knw_cases h with rfl|rfl|rfl|rfl|rfl|rfl|rfl|rfl|rfl|rfl|rfl|rfl|rfl|rfl<;>decide
def own_bits {k:Nat} (hk:k<64):(bv Wh).getLsbD k=true↔k=46∨k=47:=by
 have key:(List.range 64).all (fun k=>(bv Wh).getLsbD k==(k==46||k==47))=true:=by kernel_rfl
 have:=eq_of_beq (By.1 key k (D6.2 hk));rw [this];simp
def Az3 {k:Nat} (hk:k<64):(bv Dj9).getLsbD k=true↔k=2∨k=43:=by
 have key:(List.range 64).all (fun k=>(bv Dj9).getLsbD k==(k==2||k==43))=true:=by kernel_rfl
 have:=eq_of_beq (By.1 key k (D6.2 hk));rw [this];simp
def Ew6 {t:Int} (h:knw t=true) {k:Nat} (hk:k<64):(bv (shO t)).getLsbD k=decide (t=(k:Int)):=by
 have key:(List.range 64).all (fun k=>(bv (shO t)).getLsbD k==decide (t=(k:Int)))=true:=by rcases knw_cases h with rfl|rfl|rfl|rfl|rfl|rfl|rfl|rfl|rfl|rfl|rfl|rfl|rfl|rfl<;>kernel_rfl
 exact eq_of_beq (By.1 key k (D6.2 hk))
def zl {z:Zone} (ho:ZOk z) {n:List UInt8} {k:Nat} (hk:k<64) (h2:(bv Wh).getLsbD k=false):(bv (tyO z n)).getLsbD k=true↔∃r∈z.recs,r.name=n∧r.typ=(k:Int):=by
 constructor
 ·intro h;unfold tyO at h;rw [Gr8,L5,Hj9,h2,xz] at h;have h0:(bv 0).getLsbD k=false:=by have e:bv 0=0#64:=rfl;rw [e];simp
  rw [h0] at h;simp only [Hd,Av,Bm] at h;obtain ⟨⟨t,ht,hb⟩,_⟩:=h;simp only [typesR,Dj,Bz,Av,decide_eq_true_eq] at ht;obtain ⟨r,⟨hr,hn,hkn⟩,rfl⟩:=ht;rw [Ew6 hkn hk] at hb;exact ⟨r,hr,hn,of_decide_eq_true hb⟩
 ·rintro ⟨r,hr,hn,ht⟩;have hkn:=qk ho hr;exact Bf8 hr hn hkn k (by rw [Ew6 hkn hk];simpa using ht) h2
structure IsC (z:Zone) (a:Rec):Prop where
 typ:a.typ=47
 nam:a.name∈namesN z
 hid:Ng z a.name=false
 own:∃r∈z.recs,r.name=a.name
 bits:a.data.bits=chBits z a.name
def Nm {z:Zone} {a:Rec} (h:a∈chainN z):IsC z a:=by
 obtain ⟨i,hi⟩:=Dp.1 h;obtain ⟨b,hb,e⟩:=Hb hi;obtain ⟨n,hn,ht,eb⟩:=Np (A4 hb);have en:a.name=n:=by rw [e,J3,eb]
 refine ⟨by rw [e,Cw0,eb],by rw [en];exact hn,by rw [en];exact (js hn).1,by rw [en];exact zm ht,?_⟩;rw [en,e,Az9,eb]
def Fj3 {z:Zone} {a:Rec} (ho:ZOk z) (h:IsC z a) {r:Rec} (hr:r∈z.recs) (hn:r.name=a.name) {t:Int} (ht:r.typ=t) (hc:a.name∈cutsN z→t=2∨t=43):O0 a t=true:=by
 have hkn:=qk ho hr;rw [ht] at hkn;have hrg:=Eb6 hkn;obtain ⟨k,rfl⟩:∃k:Nat,t=(k:Int):=⟨t.toNat,by omega⟩;have hk:k<64:=by omega
 have key:bit (chBits z a.name) k=1:=by
  unfold chBits;rw [Al1,if_pos];by_cases h2:(bv Wh).getLsbD k=true
  ·rw [h2,Bool.or_true]
  ·have h2':(bv Wh).getLsbD k=false:=by simpa using h2
   have h3:=(zl ho hk h2').2 ⟨r,hr,hn,ht⟩;by_cases hcu:a.name∈cutsN z
   ·rw [if_pos hcu,Gr9,L5,h3,(Az3 hk).2 (by have:=hc hcu;omega)];rfl
   ·rw [if_neg hcu,h3];rfl
 unfold O0;rw [h.bits,Ed,key];simp;omega
def Dr0 {z:Zone} {a:Rec} (ho:ZOk z) (h:IsC z a) {t:Int} (ht:O0 a t=true):t=46∨t=47∨((∃r∈z.recs,r.name=a.name∧r.typ=t)∧(a.name∈cutsN z→t=2∨t=43)):=by
 unfold O0 at ht;simp only [Av,decide_eq_true_eq] at ht;obtain ⟨⟨h0,h1⟩,h2⟩:=ht;obtain ⟨k,rfl⟩:∃k:Nat,t=(k:Int):=⟨t.toNat,by omega⟩;have hk:k<64:=by omega
 rw [Ed,h.bits] at h2;unfold chBits at h2;rw [Al1] at h2;by_cases h3:(bv Wh).getLsbD k=true
 ·rcases (own_bits hk).1 h3 with rfl|rfl
  ·exact .inl rfl
  ·exact .inr (.inl rfl)
 ·have h3':(bv Wh).getLsbD k=false:=by simpa using h3
  rw [h3',Bool.or_false] at h2;right;right;by_cases hcu:a.name∈cutsN z
  ·rw [if_pos hcu,Gr9,L5] at h2;split at h2
   ·rename_i h4;simp only [Av] at h4;refine ⟨(zl ho hk h3').1 h4.1,fun _=> ?_⟩;have:=(Az3 hk).1 h4.2;omega
   ·omega
  ·rw [if_neg hcu] at h2;split at h2
   ·rename_i h4;exact ⟨(zl ho hk h3').1 h4,fun q=>absurd q hcu⟩
   ·omega
def jm {z:Zone} {a:Rec} (ho:ZOk z) (h:IsC z a) {t:Int} (h1:t≠46) (h2:t≠47) (ht:O0 a t=true):(∃r∈z.recs,r.name=a.name∧r.typ=t)∧(a.name∈cutsN z→t=2∨t=43):=
 ((Dr0 ho h ht).resolve_left h1).resolve_left h2
def inC (z:Zone) (n:List UInt8):Prop:=Ng z n=false∧∃r∈z.recs,r.name=n
def Pl (z:Zone):Prop:=∀r∈z.recs,∃x∈z.recs,x.name=r.name∧x.typ≠47∧x.typ≠46
def P9 {z:Zone} {n:List UInt8} (ho:ZOk z) (h:inC z n):under n z.origin=true:=by obtain ⟨_,r,hr,rfl⟩:=h;exact ho.under hr
def Vb {z:Zone} {n:List UInt8} (ho:ZOk z) (h:inC z n):vld n=true:=(Bw.1 (P9 ho h)).1
def mt {z:Zone} {n:List UInt8} (ho:ZOk z) (h:inC z n):n∈namesN z:=by obtain ⟨h1,r,hr,rfl⟩:=h;have hu:=ho.under hr;exact (Nv z r.name).2 ⟨r,hr,hu,h1,Kx (Bw.1 hu).1,hu⟩
def Gl1 {z:Zone} {n:List UInt8} (ho:ZOk z) (h:inC z n):exB z n=true:=(J5 z n).2 ((Nv z n).1 (mt ho h))
def Cv4 {z:Zone} (ho:ZOk z):inC z z.origin:=by obtain ⟨r,hr,hn,_⟩:=ho.soaR;exact ⟨Yt z,r,hr,hn⟩
def Qx {z:Zone} {a:Rec} (h:a∈chainN z):inC z a.name:=⟨(Nm h).hid,(Nm h).own⟩
def Qj {z:Zone} {n:List UInt8} (ho:ZOk z) (hp:Pl z) (h:inC z n):∃a∈chainN z,a.name=n:=by
 have hn:=mt ho h;obtain ⟨h1,r,hr,rfl⟩:=h;obtain ⟨x,hx,xn,x1,x2⟩:=hp r hr;have hkn:=qk ho hx;have hrg:=Eb6 hkn;obtain ⟨k,hk⟩:∃k:Nat,x.typ=(k:Int):=⟨x.typ.toNat,by omega⟩;have hk64:k<64:=by omega
 have hb:(bv Wh).getLsbD k=false:=by rw [C5];intro q;have:=(own_bits hk64).1 q;omega
 have hb2:=(zl ho hk64 hb).2 ⟨x,hx,xn,hk⟩;have hne:tyO z r.name≠0:=by intro e;rw [e] at hb2;have e0:bv 0=0#64:=rfl;rw [e0] at hb2;simp at hb2
 have hm:(⟨r.name,47,Qn z,⟨false,0,0,z.origin,[],[],0,0,0,0,0,0,chBits z r.name⟩⟩:Rec)∈chain0 z (Qn z):=L4.2 ⟨r.name,hn,by unfold Km;rw [if_neg hne]⟩;obtain ⟨i,hi⟩:=Dp.1 hm;exact ⟨_,A4 (Rn hi),J3 _ _ _⟩
def mw {α:Type} (P:α→Prop):∀(l:List α),(∃a,l[0]? =some a∧P a)→∃i a,l[i]? =some a∧P a∧∀b,l[i+1]? =some b→¬P b
 |[],h=>by simp at h
 |a::r,h=>by
  obtain ⟨a',e,ha⟩:=h;simp only [B6,Aq] at e;subst e;by_cases hr:∃b,r[0]? =some b∧P b
  ·obtain ⟨i,c,h1,h2,h3⟩:=mw P r hr;exact ⟨i+1,c,by simpa using h1,h2,fun b hb=>h3 b (by simpa using hb)⟩
  ·exact ⟨0,a,by simp,ha,fun b hb hp=>hr ⟨b,by simpa using hb,hp⟩⟩
def ox (z:Zone):(chainN z).Pairwise fun a b=>ltN a.name b.name:=by rw [Dt];intro i j hi hj hij;obtain ⟨a,ha,ea⟩:=Hb (Ay hi);obtain ⟨b,hb,eb⟩:=Hb (Ay hj);rw [ea,eb,J3,J3];obtain ⟨hi',ea'⟩:=Aw.1 ha;obtain ⟨hj',eb'⟩:=Aw.1 hb;have:=Dt.1 (Qy z (Qn z)) i j hi' hj' hij;rw [ea',eb'] at this;exact this
def Wj {z:Zone} {i j:Nat} {a b:Rec} (hi:(chainN z)[i]? =some a) (hj:(chainN z)[j]? =some b) (h:ltN a.name b.name):i<j:=by
 obtain ⟨hi',ea⟩:=Aw.1 hi;obtain ⟨hj',eb⟩:=Aw.1 hj;rcases Nat.lt_trichotomy i j with q|q|q
 ·exact q
 ·subst q;rw [hi] at hj;cases hj;exact absurd h (to_N.irr _)
 ·have:=Dt.1 (ox z) j i hj' hi' q;rw [ea,eb] at this;exact absurd this (to_N.asym h)
def Ex3 {z:Zone} {n:List UInt8} (hu:under n z.origin=true):¬ltN n z.origin:=by
 by_cases h:n=z.origin
 ·rw [h];exact to_N.irr _
 ·exact to_N.asym (Px hu h)
def Zj {z:Zone} (ho:ZOk z) (hp:Pl z) {i:Nat} {a:Rec} (hi:(chainN z)[i]? =some a):
  ((chainN z)[i+1]? =none∧a.data.host=z.origin∧∀n,inC z n→¬ltN a.name n)∨
  ∃b,(chainN z)[i+1]? =some b∧a.data.host=b.name∧inC z a.data.host∧a.data.host≠z.origin∧ltN a.name a.data.host∧∀n,inC z n→ltN a.name n→¬ltN n a.data.host:=by
 have hc:=Ag5 ho;cases hb:(chainN z)[i+1]? with
 |none=>
  left;have h1:(chainN z).length≤i+1:=Oq.1 hb;have h2:=(Aw.1 hi).1;have e:i=(chainN z).length - 1:=by omega
  refine ⟨rfl,hc.last a (by rw [←e];exact hi),fun n hn hl=> ?_⟩;obtain ⟨c,hcm,rfl⟩:=Qj ho hp hn;obtain ⟨j,hj⟩:=Dp.1 hcm;have:=Wj hi hj hl;have:=(Aw.1 hj).1;omega
 |some b=>
  right;obtain ⟨e,hl⟩:=hc.next i a b hi hb;have hbi:=Qx (A4 hb);have ha:=Qx (A4 hi);rw [e];refine ⟨b,rfl,rfl,hbi,fun q=> ?_,hl,fun n hn h1 h2=> ?_⟩
  ·rw [q] at hl;exact Ex3 (P9 ho ha) hl
  ·obtain ⟨c,hcm,rfl⟩:=Qj ho hp hn;obtain ⟨j,hj⟩:=Dp.1 hcm;have:=Wj hi hj h1;have:=Wj hj hb h2;omega
structure Gap (z:Zone) (a:Rec) (x:List UInt8):Prop where
 mem:a∈chainN z
 lt:ltN a.name x
 und:under x z.origin=true
 host:inC z a.data.host
 nxt:(a.data.host=z.origin∧∀n,inC z n→¬ltN a.name n)∨(a.data.host≠z.origin∧ltN x a.data.host∧∀n,inC z n→ltN a.name n→¬ltN n a.data.host)
def Gr1 {x y:List UInt8}:0<Iy x y↔ltN y x:=by
 have h1:=Eg x y;have h2:= @Hr x y;rcases to_N.tri x y with h|h|h
 ·have:=h1.2 h;exact ⟨fun q=>by omega,fun q=>absurd q (to_N.asym h)⟩
 ·have:=h2.2 h;subst h;exact ⟨fun q=>by omega,fun q=>absurd q (to_N.irr _)⟩
 ·refine ⟨fun _=>h,fun _=> ?_⟩;have a1:¬Iy x y<0:=fun q=>to_N.asym h (h1.1 q);have a2:Iy x y≠0:=fun q=>by rw [h2.1 q] at h;exact to_N.irr _ h
  omega
def Fw6 {z:Zone} (ho:ZOk z) (hp:Pl z) {a:Rec} {x:List UInt8} (ha:a∈chainN z):F4 a z.origin x=true↔Gap z a x∧(Hc x a.name && M2 a)=false:=by
 obtain ⟨i,hi⟩:=Dp.1 ha;have hn:=Zj ho hp hi;have ht:=(Nm ha).typ;have h5:(!Hc x a.name|| !M2 a)=true↔(Hc x a.name && M2 a)=false:=by cases Hc x a.name<;>cases M2 a<;>simp
 unfold F4;simp only [Av];rw [h5];simp only [decide_eq_true_eq,Gr1];constructor
 ·rintro ⟨⟨⟨⟨_,hu⟩,hl⟩,hh⟩,hb⟩;refine ⟨⟨ha,hl,hu,?_,?_⟩,hb⟩
  ·rcases hn with ⟨_,e,f⟩|⟨b,_,e,h2,_⟩
   ·rw [e];exact Cv4 ho
   ·exact h2
  ·rcases hn with ⟨_,e,f⟩|⟨b,_,e,h2,h3,h4,f⟩
   ·exact .inl ⟨e,f⟩
   ·refine .inr ⟨h3,Classical.byContradiction fun q=> ?_,f⟩;have h6:0≤Iy x a.data.host:=by have:=Eg x a.data.host;exact Int.not_lt.1 fun w=>q (this.1 w)
    simp [h3,h6] at hh
 ·rintro ⟨⟨_,hl,hu,_,hx⟩,hb⟩;refine ⟨⟨⟨⟨ht,hu⟩,hl⟩,?_⟩,hb⟩;rcases hx with ⟨e,_⟩|⟨h3,h4,_⟩
  ·simp [e]
  ·have:=(Eg x a.data.host).2 h4;have h6:¬0≤Iy x a.data.host:=by omega
   simp [h6]
def Fj5 {z:Zone} (ho:ZOk z) (hp:Pl z) {x:List UInt8} (hu:under x z.origin=true) (hx:¬inC z x):∃a,Gap z a x:=by
 have hc:=Ag5 ho;have h0:=Ay hc.pos;obtain ⟨i,a,hi,hle,hnx⟩:=mw (fun a:Rec=>¬ltN x a.name) (chainN z) ⟨_,h0,by rw [hc.first _ h0];exact Ex3 hu⟩;have ha:=A4 hi;have hl:ltN a.name x:=by
  rcases to_N.tri a.name x with q|q|q
  ·exact q
  ·exact absurd (q▸Qx ha) hx
  ·exact absurd q hle
 have hn:=Zj ho hp hi;refine ⟨a,ha,hl,hu,?_,?_⟩
 ·rcases hn with ⟨_,e,f⟩|⟨b,_,e,h2,_⟩
  ·rw [e];exact Cv4 ho
  ·exact h2
 ·rcases hn with ⟨_,e,f⟩|⟨b,h1,e,h2,h3,h4,f⟩
  ·exact .inl ⟨e,f⟩
  ·refine .inr ⟨h3,?_,f⟩;have:=hnx b h1;rw [e];exact F7.1 this
def Vg {z:Zone} {a:Rec} {x n:List UInt8} (g:Gap z a x) (hn:inC z n) (h:ltN a.name n):ltN x a.data.host∧¬ltN n a.data.host∧ltN x n:=by
 rcases g.nxt with ⟨_,f⟩|⟨h1,h2,f⟩
 ·exact absurd h (f n hn)
 ·have h3:=f n hn h;refine ⟨h2,h3,?_⟩;rcases to_N.tri a.data.host n with q|q|q
  ·exact to_N.tr _ _ _ h2 q
  ·exact q▸h2
  ·exact absurd q h3
def Fj4 {z:Zone} {a:Rec} {x:List UInt8} (g:Gap z a x):¬inC z x:=fun h=>to_N.irr _ (Vg g h g.lt).2.2
def Hg8 {z:Zone} {x:List UInt8} (hc:cutN z x=[]) {r:Rec} (hr:r∈z.recs) (h:C7 z r=true):under x r.name=false:=
 ((Ms z x z.recs [] (.inl rfl)).1 hc).2 r hr h
def Eb8 {z:Zone} {a:Rec} {x:List UInt8} (ho:ZOk z) (g:Gap z a x):exB z x=true↔Hc a.data.host x=true:=by
 constructor
 ·intro h;obtain ⟨r,r1,r2,r3,r4,_⟩:=(J5 z x).1 h;have hi:inC z r.name:=⟨r3,r,r1,rfl⟩;have hne:r.name≠x:=fun e=>Fj4 g (by rw [←e];exact hi);have hl:=Px r4 hne;obtain ⟨h1,h2,_⟩:=Vg g hi (to_N.tr _ _ _ g.lt hl);have h3:=Pw (Vb ho g.host) r4 (to_N.asym h1) h2;have h4:a.data.host≠x:=fun e=>by rw [e] at h1;exact to_N.irr _ h1
  unfold Hc;simp [h3,h4]
 ·intro h;unfold Hc at h;simp only [Av,decide_eq_true_eq] at h;obtain ⟨h1,r,hr,hn⟩:=g.host;exact (J5 z x).2 ⟨r,hr,ho.under hr,by rw [hn];exact h1,by rw [hn];exact h.2,g.und⟩
def Sl {x b:List UInt8} (hx:vld x=true) (hb:vld b=true):under x (Eb x b)=true∧under b (Eb x b)=true∧∀d,under x d=true→under b d=true→(lbl d).length≤(lbl (Eb x b)).length:=by
 have e:Eb x b=jn ((lbl x).drop ((lbl x).length - Ky (lbl x) (lbl b))):=by unfold Eb;rw [if_pos ⟨hx,hb⟩]
 obtain ⟨v,w⟩:=Jt hx ((lbl x).length - Ky (lbl x) (lbl b));rw [←e] at v w;refine ⟨Bw.2 ⟨hx,v,by rw [w];exact List.drop_suffix _ _⟩,Bw.2 ⟨hb,v,by rw [w];exact (V3 _ _ _ (by omega)).2 (by omega)⟩,fun d h1 h2=> ?_⟩;obtain ⟨_,_,s1⟩:=Bw.1 h1;obtain ⟨_,_,s2⟩:=Bw.1 h2;have hl:=s1.length_le;have ed:lbl d=(lbl x).drop ((lbl x).length - (lbl d).length):=Dr.1 s1;have h3:=(V3 (lbl x) (lbl b) ((lbl x).length - (lbl d).length) (by omega)).1 (by rw [←ed];exact s2);rw [w,B3];omega
def Gx8 {n a b:List UInt8} (ha:under n a=true) (hb:under n b=true):Cb3 a<Cb3 b↔(lbl a).length<(lbl b).length:=by
 have va:=(Bw.1 ha).2.1;have vb:=(Bw.1 hb).2.1;rw [←og ha hb];unfold Cb3;rw [if_pos va,if_pos vb];have two:∀c:List UInt8,vld c=true→c≠[46]→2≤c.length:=fun c hc h=>by
  rcases vld_cases hc with ⟨h1,_⟩|⟨h1,h2,h3,_⟩
  ·exact absurd h1 h
  ·have:=Gd h2 h1;rw [←h3] at this;exact this
 have one:([46]:List UInt8).length=1:=rfl;by_cases h1:a=[46]<;>by_cases h2:b=[46]
 ·rw [if_pos h1,if_pos h2,h1,h2];omega
 ·have:=two b vb h2;rw [if_pos h1,if_neg h2,h1];omega
 ·have:=two a va h1;rw [if_neg h1,if_pos h2,h2];omega
 ·rw [if_neg h1,if_neg h2];omega
def Dr3 {z:Zone} {a:Rec} {x:List UInt8} (ho:ZOk z) (g:Gap z a x):dj a x=encN z x:=by
 have vx:=(Bw.1 g.und).1;have ia:=Qx g.mem;obtain ⟨c1,c2,c3⟩:=Sl vx (Vb ho ia);obtain ⟨d1,d2,d3⟩:=Sl vx (Vb ho g.host);obtain ⟨_,e1,e2⟩:=Hk0 ho g.und;have hex:∀{n c:List UInt8},inC z n→under x c=true→under n c=true→(lbl z.origin).length≤(lbl c).length→(lbl c).length≤(lbl (encN z x)).length:=fun {n c} hn h1 h2 h3=>by obtain ⟨_,_,s1⟩:=Bw.1 h1;obtain ⟨_,vo,s2⟩:=Bw.1 g.und;have hco:under c z.origin=true:=Bw.2 ⟨(Bw.1 h1).2.1,vo,Uq s2 s1 h3⟩;obtain ⟨q1,r,q2,q3⟩:=hn;exact Cl5 h1 ((J5 z c).2 ⟨r,q2,ho.under q2,by rw [q3];exact q1,by rw [q3];exact h2,hco⟩)
 have up1:=hex ia c1 c2 (c3 _ g.und (P9 ho ia));have up2:=hex g.host d1 d2 (d3 _ g.und (P9 ho g.host));have low:(lbl (encN z x)).length≤(lbl (Eb x a.name)).length∨(lbl (encN z x)).length≤(lbl (Eb x a.data.host)).length:=by
  obtain ⟨r,r1,r2,r3,r4,_⟩:=(J5 z (encN z x)).1 e2;have hi:inC z r.name:=⟨r3,r,r1,rfl⟩;have le:∀{n d:List UInt8},under n d=true→¬ltN n d:=fun {n d} h=>by
   by_cases q:n=d
   ·rw [q];exact to_N.irr _
   ·exact to_N.asym (Px h q)
  by_cases h:ltN a.name r.name
  ·right;obtain ⟨h1,h2,_⟩:=Vg g hi h;exact d3 _ e1 (Pw (Vb ho g.host) r4 (fun q=>le e1 (to_N.tr _ _ _ h1 q)) h2)
  ·left;refine c3 _ e1 (Pw (Vb ho ia) e1 (fun q=> ?_) (to_N.asym g.lt));rcases to_N.tri r.name (encN z x) with w|w|w
   ·exact le r4 w
   ·rw [←w] at q;exact h q
   ·exact h (to_N.tr _ _ _ q w)
 have fin:∀{c:List UInt8},under x c=true→(lbl c).length≤(lbl (encN z x)).length→(lbl (encN z x)).length≤(lbl c).length→c=encN z x:=fun {c} h1 h2 h3=>by obtain ⟨_,v1,s1⟩:=Bw.1 h1;obtain ⟨_,v2,s2⟩:=Bw.1 e1;exact (Hw (Bw.2 ⟨v2,v1,Uq s1 s2 h2⟩) h3).symm
 unfold dj;have hl:=Gx8 c1 d1;by_cases h:Cb3 (Eb x a.name)<Cb3 (Eb x a.data.host)
 ·rw [if_pos h];have:=hl.1 h;exact fin d1 up2 (by omega)
 ·rw [if_neg h];have:¬(lbl (Eb x a.name)).length<(lbl (Eb x a.data.host)).length:=fun q=>h (hl.2 q);exact fin c1 up1 (by omega)
end Go.X.G
/- nsec: what the chain proves is what the zone says, and the chain proves it. -/
namespace Go.X.G
open Go Go.X
def Tz {e:List UInt8} (h:starOk e=true):vld (starN e)=true∧lbl (starN e)=[42]::lbl e:=by
 have es:starN e=Oy e:=by unfold starN;rw [if_pos h]
 unfold starOk at h;simp only [Av,A6,decide_eq_false_iff_not] at h;obtain ⟨⟨h1,h2⟩,h3⟩:=h;rw [es];refine ⟨h3,?_⟩;have g:Fh true ([42]::lbl e)=true:=by have:=Ml (K0 h1) h2;show (L1 [42] && (!decide (([42]:List UInt8)=[42])||true) && Fh false (lbl e))=true;rw [this,Vv];simp
 have ef:Oy e=flat ([42]::lbl e):=by
  rw [Jx];unfold Oy;rcases vld_cases h1 with ⟨r1,r2⟩|⟨_,_,r3,_⟩
  ·rw [if_pos r1,r2];rfl
  ·have hne:e≠[46]:=fun q=>by rw [q,Hm] at r3;simp [flat] at r3
   rw [if_neg hne]
   conv=>lhs;rw [r3]
   rfl
 have hl:=Gy h3;rw [ef] at hl;have:=(Bf5 g hl).2;unfold jn at this;rw [if_neg (by simp),←ef] at this;exact this
def Dc7 {e:List UInt8} (h:starOk e=true):under (starN e) e=true:=by
 obtain ⟨h1,h2⟩:=Tz h;have hv:vld e=true:=by unfold starOk at h;simp only [Av] at h;exact h.1.1
 exact Bw.2 ⟨h1,hv,by rw [h2];exact List.suffix_cons _ _⟩
def Em0 {e d:List UInt8} (h:starOk e=true) (hu:under (starN e) d=true) (hne:d≠starN e):under e d=true:=by
 obtain ⟨h1,h2⟩:=Tz h;have hv:vld e=true:=by unfold starOk at h;simp only [Av] at h;exact h.1.1
 obtain ⟨_,vd,s⟩:=Bw.1 hu;rw [h2,List.suffix_cons_iff] at s;rcases s with s|s
 ·exact absurd (Lq vd h1 (by rw [s,h2])) hne
 ·exact Bw.2 ⟨hv,vd,s⟩
def Em1 {x e:List UInt8} (hu:under x e=true) (hne:x≠e):starOk e=true:=by
 obtain ⟨vx,ve,s⟩:=Bw.1 hu;have hlt:(lbl e).length<(lbl x).length:=by
  rcases Nat.lt_or_ge (lbl e).length (lbl x).length with h|h
  ·exact h
  ·exact absurd (Hw hu h) hne
 have ed:lbl e=(lbl x).drop ((lbl x).length - (lbl e).length):=Dr.1 s;obtain ⟨k,hk⟩:∃k,(lbl x).length - (lbl e).length=k+1:=⟨(lbl x).length - (lbl e).length - 1,by omega⟩;rw [hk] at ed;have gx:=K0 vx;have h2:(lbl e)[0]? ≠some [42]:=by
  intro q;have:=gx;rw [←Bh (k+1) (lbl x),Kf,←ed] at this;simp only [Av] at this;have h3:((lbl x).take (k+1)).isEmpty=false:=by
   cases hx:lbl x with
   |nil=>rw [hx] at hlt;simp at hlt
   |cons p r=>simp
  rw [h3] at this;cases he:lbl e with
  |nil=>rw [he] at q;simp at q
  |cons p r=>
   rw [he] at q this;simp only [B6,Aq] at q;subst q;simp [Fh] at this
 unfold starOk;simp only [Av,A6,decide_eq_false_iff_not];refine ⟨⟨ve,h2⟩,?_⟩;have g:Fh true ([42]::lbl e)=true:=by have:=Ml (K0 ve) h2;show (L1 [42] && (!decide (([42]:List UInt8)=[42])||true) && Fh false (lbl e))=true;rw [this,Vv];simp
 have hlen:(flat ([42]::lbl e)).length≤254:=by
  rcases vld_cases vx with ⟨_,r2⟩|⟨r1,_,r3,r4⟩
  ·rw [r2] at hlt;simp at hlt
  ·have e1:flat (lbl x)=flat ((lbl x).take (k+1))++flat (lbl e):=by rw [ed,←Ly,Bh]
   have h4:2≤(flat ((lbl x).take (k+1))).length:=by
    refine Gd ?_ ?_
    ·have:=gx;rw [←Bh (k+1) (lbl x),Kf] at this;simp only [Av] at this;exact this.1
    ·intro q;have:=congrArg List.length q;rw [Ap] at this;simp only [Bf] at this;omega
   have h5:=congrArg List.length e1;rw [Ab,←r3] at h5;rw [Jx];simp only [Ab,A5,Bf];omega
 have hv:=(Bf5 g hlen).1;have ef:Oy e=jn ([42]::lbl e):=by
  unfold jn;rw [if_neg (by simp),Jx];unfold Oy;rcases vld_cases ve with ⟨r1,r2⟩|⟨r0,_,r3,_⟩
  ·rw [if_pos r1,r2];rfl
  ·have hne:e≠[46]:=fun q=>r0 (by rw [q];exact Hm);rw [if_neg hne]
   conv=>lhs;rw [r3]
   rfl
 rw [ef];exact hv
def Dm6 (z:Zone) (q:Ques):Prop:=under q.name z.origin=true∧(cutN z q.name=[]∨(cutN z q.name=q.name∧q.typ=43))∧Bz3 z q.name=none
def Ds4 {z:Zone} {q:Ques} (h:Dm6 z q):findM z q=if exB z q.name=true then {saysM (allR z q.name) q.typ with owner:=q.name} else (Ws z q).getD ⟨6,q.name,false,[],[]⟩:=by obtain ⟨h1,h2,h3⟩:=h;unfold findM;rw [if_pos h1,if_neg (by rintro ⟨a,b⟩;rcases h2 with c|⟨c,d⟩;exact a c;exact b.elim (fun e=>e c) (fun e=>e d))];unfold Bv1;rw [h3]
def find_cases (z:Zone) (q:Ques) (ho:ZOk z):(((findM z q).kind=0∨(findM z q).kind=3∨(findM z q).kind=4)∧(findM z q).wild=false)∨Dm6 z q:=by
 by_cases h1:under q.name z.origin=true
 ·by_cases h2:cutN z q.name≠[]∧(cutN z q.name≠q.name∨q.typ≠43)
  ·left;unfold findM;rw [if_pos h1,if_pos h2];exact ⟨.inr (.inr rfl),rfl⟩
  ·cases hr:Bz3 z q.name with
   |none=>
    right;refine ⟨h1,?_,hr⟩;by_cases h3:cutN z q.name=[]
    ·exact .inl h3
    ·right;constructor
     ·exact Classical.byContradiction fun w=>h2 ⟨h3, .inl w⟩
     ·exact Classical.byContradiction fun w=>h2 ⟨h3, .inr w⟩
   |some x=>
    left;unfold findM;rw [if_pos h1,if_neg h2];unfold Bv1;rw [hr];simp only;unfold Bz3 at hr;cases hr2:Ex1 z q.name with
    |none=>rw [hr2] at hr;cases hr
    |some u=>
     rw [hr2] at hr;simp only [A7,Aq] at hr;obtain ⟨r0,rest,hf⟩:=Bm7 hr2;unfold jk at hr;rw [hf] at hr;subst hr;exact ⟨.inr (.inl rfl),rfl⟩
 ·left;unfold findM;rw [if_neg h1];exact ⟨.inl rfl,rfl⟩
def nw {l:List Rec} {t:Int} (h:(saysM l t).kind=5):(l≠[]→t≠255)∧∀r∈l,r.typ≠t∧(r.typ=5→t=47∨t=46):=by
 rcases says_kind l t with ⟨k,_⟩|⟨_,k⟩|⟨k,_⟩
 ·rw [k] at h;cases h
 ·have ha:Gs4 l t=none:=by
   cases e:Gs4 l t with
   |none=>rfl
   |some c=>unfold saysM at h;rw [e] at h;cases h
  unfold typedR at k;constructor
  ·intro h1 h2;rw [if_pos h2] at k;exact h1 k
  ·intro r hr;by_cases h2:t=255
   ·rw [if_pos h2] at k;rw [k] at hr;cases hr
   ·rw [if_neg h2,F3] at k;have h3:r.typ≠t:=by simpa using k r hr
    refine ⟨h3,fun h5=> ?_⟩;unfold Gs4 at ha;split at ha
    ·rename_i hd;unfold Fc5 at hd;simp only [An,decide_eq_true_eq] at hd;omega
    ·rw [Hj7] at ha;have:=ha r hr;simp [h5] at this
 ·rw [k] at h;cases h
def ep {z:Zone} {n:List UInt8} {r:Rec}:r∈allR z n↔r∈z.recs∧r.name=n:=by unfold allR;rw [Bz,decide_eq_true_eq]
def Ct0 {z:Zone} {n:List UInt8}:allR z n≠[]↔∃r∈z.recs,r.name=n:=by
 constructor
 ·intro h;obtain ⟨r,hr⟩:=Ep _ h;exact ⟨r,ep.1 hr⟩
 ·rintro ⟨r,hr⟩ h;have:=ep.2 hr;rw [h] at this;cases this
def o8 (z:Zone) (y:List UInt8):Prop:=∀r∈z.recs,under y r.name=true→r.name≠y→C7 z r=false∧r.typ≠39
def Fx1 {z:Zone} {x:List UInt8} (ho:ZOk z) (hu:under x z.origin=true) (hc:cutN z x=[]∨cutN z x=x) (hr:Bz3 z x=none):o8 z x:=by
 intro r h1 h2 h3;constructor
 ·rw [C5];intro h4;obtain ⟨k1,k2⟩:=Ms z x z.recs [] (.inl rfl);by_cases h5:cutN z x=[]
  ·have:=(k1 h5).2 r h1 h4;rw [h2] at this;cases this
  ·obtain ⟨_,_,_,k3⟩:=k2 h5;have:=k3 r h1 h4 h2;change (lbl (cutN z x)).length≤_ at this;rw [hc.resolve_left h5] at this;exact h3 (Hw h2 this).symm
 ·intro h4;have h5:Ex1 z x=none:=by
   unfold Bz3 at hr;cases e:Ex1 z x with
   |none=>rfl
   |some u=>rw [e] at hr;cases hr
  unfold Ex1 at h5;rw [Hj7] at h5;have hm:r.name∈(upN z.origin x).drop 1:=by
   obtain ⟨i,hi⟩:=Dp.1 ((Mj hu).2 ⟨h2,ho.under h1⟩);refine Dp.2 ⟨i - 1,?_⟩;rw [A8];have h7:i≠0:=fun e=>by rw [e,Ox (by omega),cg (Bw.1 hu).1] at hi;simp only [Aq] at hi;exact h3 hi.symm
   rw [show 1+(i - 1)=i by omega];exact hi
  have:=h5 r.name hm;unfold dnB at this;have h8:r∈findR z.recs r.name 39:=Kh.2 ⟨h1,rfl,h4⟩;have:=List.length_pos_of_mem h8;simp_all
end Go.X.G
/- nsec: the chain of a zone proves all that the zone says; so do the records of Needed. -/
namespace Go.X.G
open Go Go.X
def Az4 {z:Zone} {a:Rec} (ho:ZOk z) (h:IsC z a) (h5:a.name=z.origin):O0 a 6=true:=by obtain ⟨s,s1,s2,s3⟩:=ho.soaR;exact Fj3 ho h s1 (by rw [s2,h5]) s3 (fun q=>by obtain ⟨y,y1,y2,y3⟩:=(V4 z a.name).1 q;exact absurd (y3.trans h5) (Mh.1 y2).2.1)
def Cn0 {z:Zone} {a:Rec} {x:List UInt8} (ho:ZOk z) (g:Gap z a x) (hc:o8 z x):(Hc x a.name && M2 a)=false:=by
 rw [C5];intro h;simp only [Av] at h;obtain ⟨h1,h2⟩:=h;unfold Hc at h1;simp only [Av,decide_eq_true_eq] at h1;have ic:=Nm g.mem;have cl:∀r∈z.recs,r.name=a.name→C7 z r=false∧r.typ≠39:=fun r r1 r2=>hc r r1 (by rw [r2];exact h1.2) (by rw [r2];exact fun e=>h1.1 e.symm);unfold M2 at h2;simp only [An,Av,A6] at h2;rcases h2 with h2|⟨h2,h3⟩
 ·obtain ⟨⟨r,r1,r2,r3⟩,_⟩:=jm ho ic (by decide) (by decide) h2;exact (cl r r1 r2).2 r3
 ·obtain ⟨⟨r,r1,r2,r3⟩,_⟩:=jm ho ic (by decide) (by decide) h2;by_cases h5:a.name=z.origin
  ·rw [Az4 ho ic h5] at h3;cases h3
  ·have:C7 z r=true:=Mh.2 ⟨r3,by rw [r2];exact h5,ho.under r1⟩;rw [(cl r r1 r2).1] at this;cases this
def V8 {z:Zone} {x:List UInt8} (ho:ZOk z) (hp:Pl z) (hu:under x z.origin=true) (hn:¬inC z x) (hc:o8 z x):∃a∈chainN z,Gap z a x∧F4 a z.origin x=true:=by obtain ⟨a,g⟩:=Fj5 ho hp hu hn;exact ⟨a,g.mem,g,(Fw6 ho hp g.mem).2 ⟨g,Cn0 ho g hc⟩⟩
def Y9 {z:Zone} {x e:List UInt8} (hc:o8 z x) (h1:under x e=true) (h2:x≠e) (h3:starOk e=true):o8 z (starN e):=by intro r r1 r2 r3;have h4:=Em0 h3 r2 r3;refine hc r r1 (J0 h1 h4) (fun q=> ?_);rw [q] at h4;exact h2 (Q2 h1 h4)
def Cn1 {z:Zone} {x:List UInt8} (hc:o8 z x):Ng z x=false:=by rw [C5];intro h;unfold Ng at h;rw [Bm] at h;obtain ⟨c,h1,h2⟩:=h;simp only [Av,decide_eq_true_eq] at h2;have:=(hc c h1 h2.2 h2.1.2).1;rw [h2.1.1] at this;cases this
def U8 {z:Zone} {q:Ques} (ho:ZOk z) (h:Dm6 z q):o8 z q.name:=Fx1 ho h.1 (h.2.1.imp_right And.left) h.2.2
def Cl4 {z:Zone} {x:List UInt8} (ho:ZOk z) (hu:under x z.origin=true) (hex:exB z x=false):under x (encN z x)=true∧x≠encN z x∧starOk (encN z x)=true∧under (encN z x) z.origin=true:=by
 obtain ⟨_,e1,e2⟩:=Hk0 ho hu;have hne:x≠encN z x:=fun e=>by rw [←e,hex] at e2;cases e2
 exact ⟨e1,hne,Em1 e1 hne,Tp e2⟩
def Cl0 {z:Zone} {x:List UInt8} (ho:ZOk z) (hp:Pl z) {l:List Rec} (hc:o8 z x) (hu:under x z.origin=true) (hex:exB z x=false) (hk:∀a∈chainN z,F4 a z.origin x=true→a∈l):starN (encN z x)∈starsN l z.origin x:=by
 have hn:¬inC z x:=fun h=>by have:=Gl1 ho h;rw [hex] at this;cases this
 obtain ⟨a,ha,g,hcv⟩:=V8 ho hp hu hn hc;obtain ⟨_,_,hs,_⟩:=Cl4 ho hu hex;refine L4.2 ⟨a,hk a ha hcv,?_⟩;unfold Xf;have hb:Hc a.data.host x=false:=by rw [C5];intro q;have:=(Eb8 ho g).2 q;rw [hex] at this;cases this
 rw [Dr3 ho g,hcv,hb,hs];rfl
def Ev2 (z:Zone) (x:List UInt8):Prop:=starOk (encN z x)=true∧allR z (starN (encN z x))≠[]
def Bf2 {z:Zone} {q:Ques} (h:Ev2 z q.name):Ws z q=some {saysM ((allR z (starN (encN z q.name))).map (Sj q.name)) q.typ with owner:=starN (encN z q.name),wild:=true}:=by unfold Ws;exact if_pos h
def Bf3 {z:Zone} {q:Ques} (h:¬Ev2 z q.name):Ws z q=none:=by unfold Ws;exact if_neg h
def Td {l:List Rec} {t:Int}:(saysM l t).kind≠0∧(saysM l t).kind≠4∧(saysM l t).kind≠3∧(saysM l t).kind≠6:=by rcases says_kind l t with ⟨k,_⟩|⟨k,_⟩|⟨k,_⟩<;>rw [k]<;>decide
inductive MidC (z:Zone) (q:Ques):Prop
 |here (h:exB z q.name=true) (e:findM z q={saysM (allR z q.name) q.typ with owner:=q.name})
 |wild (h:exB z q.name=false) (u:Ev2 z q.name) (e:findM z q={saysM ((allR z (starN (encN z q.name))).map (Sj q.name)) q.typ with owner:=starN (encN z q.name),wild:=true})
 |none (h:exB z q.name=false) (u:¬Ev2 z q.name) (e:findM z q=⟨6,q.name,false,[],[]⟩)
def mid_c {z:Zone} {q:Ques} (h:Dm6 z q):MidC z q:=by
 have e:=Ds4 h;rcases Ak (exB z q.name) with h1|h1
 ·rw [h1,if_pos rfl] at e;exact .here h1 e
 ·rw [h1,if_neg (by simp)] at e;by_cases h2:Ev2 z q.name
  ·rw [Bf2 h2] at e;exact .wild h1 h2 e
  ·rw [Bf3 h2] at e;exact .none h1 h2 e
def bn {z:Zone} {q:Ques} (h:Dm6 z q):((findM z q).kind≠0∧(findM z q).kind≠4∧(findM z q).kind≠3)∧(exB z q.name=true→Pt (findM z q) q.name=q.name∧l6 z (findM z q) q.name=[])∧(exB z q.name=false→(Ev2 z q.name→Pt (findM z q) q.name=starN (encN z q.name)∧l6 z (findM z q) q.name=[])∧(¬Ev2 z q.name→Pt (findM z q) q.name=q.name∧l6 z (findM z q) q.name=starN (encN z q.name))):=by
 unfold Pt l6;rcases mid_c h with ⟨h1,e⟩|⟨h1,u,e⟩|⟨h1,u,e⟩
 ·have s:=Td (l:=allR z q.name) (t:=q.typ);have w:=Mx (allR z q.name) q.typ;rw [e];refine ⟨⟨s.1,s.2.1,s.2.2.1⟩,fun _=>⟨?_,?_⟩,fun q2=>(by rw [h1] at q2;cases q2)⟩
  ·rw [if_neg];simp only [w];simp
  ·rw [if_neg];exact s.2.2.2
 ·have s:=Td (l:=(allR z (starN (encN z q.name))).map (Sj q.name)) (t:=q.typ);rw [e];refine ⟨⟨s.1,s.2.1,s.2.2.1⟩,fun q2=>(by rw [h1] at q2;cases q2),fun _=>⟨fun _=>⟨?_,?_⟩,fun q2=>absurd u q2⟩⟩
  ·rw [if_pos rfl]
  ·rw [if_neg];exact s.2.2.2
 ·rw [e];exact ⟨by simp,fun q2=>(by rw [h1] at q2;cases q2),fun _=>⟨fun q2=>absurd q2 u,fun _=>⟨rfl,rfl⟩⟩⟩
def Gx7 {z:Zone} {q:Ques} (h:Dm6 z q):Dm6 z ⟨q.name,43⟩:=⟨h.1,h.2.1.imp_right (fun w=>⟨w.1,rfl⟩),h.2.2⟩
def Dm0 {z:Zone} {q:Ques} (hc:Ip z=0) (h:Dm6 z q):neededN z q.name=(chainN z).filter (Rh z q.name (Pt (findM z q) q.name) (l6 z (findM z q) q.name)):=by
 obtain ⟨a1,a2,a3⟩:=bn h;obtain ⟨⟨b0,b4,b5⟩,b2,b3⟩:=bn (Gx7 h);unfold neededN;rw [if_pos hc,if_neg (by rintro (w|w|w);exact b0 w;exact b4 w;exact b5 w)];rcases Ak (exB z q.name) with h1|h1
 ·rw [(a2 h1).1,(a2 h1).2,(b2 h1).1,(b2 h1).2]
 ·by_cases u:Ev2 z q.name
  ·rw [((a3 h1).1 u).1,((a3 h1).1 u).2,((b3 h1).1 u).1,((b3 h1).1 u).2]
  ·rw [((a3 h1).2 u).1,((a3 h1).2 u).2,((b3 h1).2 u).1,((b3 h1).2 u).2]
def Dl9 {z:Zone} {n:List UInt8}:∀a∈neededN z n,a∈chainN z:=by
 intro a ha;unfold neededN at ha;split at ha
 ·split at ha
  ·cases ha
  ·exact (Bz.1 ha).1
 ·cases ha
def ot (z:Zone) (q:Ques) (l:List Rec):Prop:=∀a∈chainN z,Rh z q.name (Pt (findM z q) q.name) (l6 z (findM z q) q.name) a=true→a∈l
def P8 {z:Zone} {q:Ques} {l:List Rec} (h:ot z q l):∀a∈chainN z,F4 a z.origin q.name=true→a∈l:=fun a ha hc=>h a ha (by unfold Rh;rw [hc];simp)
def mf {z:Zone} {q:Ques} {l:List Rec} (h:ot z q l):∀a∈chainN z,a.name=Pt (findM z q) q.name→a∈l:=fun a ha hc=>h a ha (by unfold Rh;simp [hc])
def Af7 {z:Zone} {q:Ques} {l:List Rec} (ho:ZOk z) (hp:Pl z) (h:(findM z q).kind=6) (hk:ot z q l):Ol l z.origin q.name=true:=by
 rcases find_cases z q ho with ⟨w,_⟩|hm
 ·omega
 have ow:=bn hm;rcases mid_c hm with ⟨h1,e⟩|⟨h1,u,e⟩|⟨h1,u,e⟩
 ·rw [e] at h;exact absurd h Td.2.2.2
 ·rw [e] at h;exact absurd h Td.2.2.2
 ·have hc:=U8 ho hm;have hs:=Cl0 ho hp hc hm.1 h1 (P8 hk);obtain ⟨e1,e2,e3,e4⟩:=Cl4 ho hm.1 h1;have st:=((ow.2.2 h1).2 u).2;have hni:¬inC z (starN (encN z q.name)):=fun w=>u ⟨e3,Ct0.2 w.2⟩;obtain ⟨b,hb,_,hcv⟩:=V8 ho hp (J0 (Dc7 e3) e4) hni (Y9 hc e1 e2 e3);have hne:starN (encN z q.name)≠[]:=gy (Tz e3).1;have hbl:b∈l:=hk b hb (by unfold Rh;rw [st,hcv];simp [hne]);unfold Ol Gr2;rw [Bm];refine ⟨_,hs,?_⟩;rw [Bm];exact ⟨b,hbl,hcv⟩
def Af5 {z:Zone} {q:Ques} {l:List Rec} (ho:ZOk z) (hp:Pl z) (h:(findM z q).wild=true) (hk:ot z q l):Hj l z.origin q.name (findM z q).owner=true:=by
 rcases find_cases z q ho with ⟨_,w⟩|hm
 ·rw [h] at w;cases w
 rcases mid_c hm with ⟨h1,e⟩|⟨h1,u,e⟩|⟨h1,u,e⟩
 ·rw [e] at h;have:=Mx (allR z q.name) q.typ;exact absurd h (by simp only [this];simp)
 ·have hs:=Cl0 ho hp (U8 ho hm) hm.1 h1 (P8 hk);rw [e];unfold Hj;exact decide_eq_true hs
 ·rw [e] at h;cases h
def Ac5 {z:Zone} {a:Rec} {t:Int} (ho:ZOk z) (h:IsC z a) (h46:t≠46) (h47:t≠47) (h255:t≠255) (hr:∀r∈z.recs,r.name=a.name→r.typ≠t∧r.typ≠5) (h6:t=43→O0 a 6=false) (h2:t≠43→O0 a 2=true→O0 a 6=true):P5 a t=true:=by
 have k1:O0 a t=false:=by rw [C5];intro w;obtain ⟨⟨r,r1,r2,r3⟩,_⟩:=jm ho h h46 h47 w;exact (hr r r1 r2).1 r3
 have k2:O0 a 5=false:=by rw [C5];intro w;obtain ⟨⟨r,r1,r2,r3⟩,_⟩:=jm ho h (by decide) (by decide) w;exact (hr r r1 r2).2 r3
 unfold P5;rw [if_neg (by simp [h.typ,h255,k1,k2])];split
 ·rename_i w;rw [h6 w];rfl
 ·rename_i w;cases e2:O0 a 2 with
  |false=>simp
  |true=>rw [h2 w e2];rfl
def Af6 {z:Zone} {q:Ques} {l:List Rec} (ho:ZOk z) (hp:Pl z) (h:(findM z q).kind=5) (h46:q.typ≠46) (h47:q.typ≠47) (h43:q.typ≠43∨q.name≠z.origin) (hk:ot z q l):Y6 l z.origin q=true:=by
 rcases find_cases z q ho with ⟨w,_⟩|hm
 ·omega
 have ow:=bn hm;have hc:=U8 ho hm;unfold Y6;rw [hm.1,Qs,Bm];rcases mid_c hm with ⟨h1,e⟩|⟨h1,u,e⟩|⟨h1,u,e⟩
 ·have own:=(ow.2.1 h1).1;rw [e] at h;obtain ⟨f1,f2⟩:=nw (l:=allR z q.name) (t:=q.typ) h;have hn:q.name∈namesN z:=by have:=Lz z q.name;rw [h1] at this;exact of_decide_eq_true this
  by_cases hw:∃r∈z.recs,r.name=q.name
  ·have hi:inC z q.name:=⟨(js hn).1,hw⟩;obtain ⟨a,ha,an⟩:=Qj ho hp hi;have ic:=Nm ha;refine ⟨a,mf hk a ha (by rw [own,an]),?_⟩;have:P5 a q.typ=true:=by
    refine Ac5 ho ic h46 h47 (f1 (Ct0.2 hw)) (fun r r1 r2=> ?_) (fun t=> ?_) (fun t t2=> ?_)
    ·obtain ⟨g1,g2⟩:=f2 r (ep.2 ⟨r1,r2.trans an⟩);exact ⟨g1,fun w=>(g2 w).elim h47 h46⟩
    ·rw [C5];intro w;obtain ⟨⟨s,s1,s2,s3⟩,_⟩:=jm ho ic (by decide) (by decide) w;refine h43.elim (fun v=>v t) (fun v=>v ?_);rw [←an,←s2];exact Bb8 ho s1 s3
    ·by_cases h5:a.name=z.origin
     ·exact Az4 ho ic h5
     ·exfalso;obtain ⟨⟨r,r1,r2,r3⟩,_⟩:=jm ho ic (by decide) (by decide) t2;have hcu:C7 z r=true:=Mh.2 ⟨r3,by rw [r2];exact h5,ho.under r1⟩;rcases hm.2.1 with w|⟨_,w⟩
      ·have:=Hg8 w r1 hcu;rw [r2,an,Kx (Bw.1 hm.1).1] at this;cases this
      ·exact t w
   unfold Fv0;rw [this,an];simp
  ·obtain ⟨a,ha,g,hcv⟩:=V8 ho hp hm.1 (fun w=>hw w.2) hc;refine ⟨a,P8 hk a ha hcv,?_⟩;unfold Fv0;rw [hcv,(Eb8 ho g).1 h1];rfl
 ·have own:=((ow.2.2 h1).1 u).1;rw [e] at h;obtain ⟨f1,f2⟩:=nw (l:=(allR z (starN (encN z q.name))).map (Sj q.name)) (t:=q.typ) h;obtain ⟨e1,e2,e3,e4⟩:=Cl4 ho hm.1 h1;have hcs:=Y9 hc e1 e2 e3;have hi:inC z (starN (encN z q.name)):=⟨Cn1 hcs,Ct0.1 u.2⟩;obtain ⟨a,ha,an⟩:=Qj ho hp hi;have ic:=Nm ha;have hs:=Cl0 ho hp hc hm.1 h1 (P8 hk);obtain ⟨_,sl⟩:=Tz e3;refine ⟨a,mf hk a ha (by rw [own,an]),?_⟩;have:P5 a q.typ=true:=by
   refine Ac5 ho ic h46 h47 (f1 (by simpa using u.2)) (fun r r1 r2=> ?_) (fun t=> ?_) (fun t t2=> ?_)
   ·obtain ⟨g1,g2⟩:=f2 (Sj q.name r) (Dj.2 ⟨r,ep.2 ⟨r1,r2.trans an⟩,rfl⟩);exact ⟨g1,fun w=>(g2 w).elim h47 h46⟩
   ·rw [C5];intro w;obtain ⟨⟨s,s1,s2,s3⟩,_⟩:=jm ho ic (by decide) (by decide) w;have h5:=Bb8 ho s1 s3;rw [s2,an] at h5;obtain ⟨_,_,sx⟩:=Bw.1 e4;have:=sx.length_le;rw [←h5,sl,A5] at this;omega
   ·exfalso;obtain ⟨⟨r,r1,r2,r3⟩,_⟩:=jm ho ic (by decide) (by decide) t2;have:=Dk8 ho r1 (.inl r3);rw [r2,an,sl] at this;exact this rfl
  have hx:Hj l z.origin q.name a.name=true:=by unfold Hj;rw [an];exact decide_eq_true hs
  unfold Fv0;rw [this,hx];simp
 ·rw [e] at h;cases h
def Og (z:Zone) (q:Ques):ot z q (chainN z):=fun a ha _=>ha
def Bq9 {z:Zone} {q:Ques} (hc:Ip z=0) (h:Dm6 z q):ot z q (neededN z q.name):=fun a ha hk=>by rw [Dm0 hc h];exact Bz.2 ⟨ha,hk⟩
end Go.X.G
/- nsec: the laws NsecComplete and NsecSound. -/
namespace Go.X.G
open Go Go.X
def Dh6 (x c:Rec):Bool:=decide (c.name=x.name) && !decide (c.typ=47) && !decide (c.typ=46)
def Dg5 (z:Zone) (i:Nat) (x:Rec) (hx:z.recs[i]? =some x) (hl:z.recs.length≤1000000) (p1:PV):Cc2.ev S (z.recs.length+1) [z.pv,p1, .i .i64 (i:Int)]=some (.yld 2 [.b (z.recs.any (Dh6 x))]):=by
 have key:Cc2.ev S (z.recs.length+1) [z.pv,p1, .i .i64 (i:Int)]=some (.yld 2 [.b (false||z.recs.any (Dh6 x))]):=by
  refine E8 z.recs (fun j (g:Bool)=>[.b g, .i .i64 (j:Int)]) (fun j g r=> .yld 2 [.b (g||r.any (Dh6 x))]) (fun _ _=>True) false rfl trivial (by omega) (fun j g c r hd hj hc _=> ?_) (fun g _=> ?_)
  ·left;refine ⟨g||Dh6 x c,?_,trivial,by rw [List.any_cons,Bool.or_assoc]⟩;unfold Dh6;cases g
   ·by_cases h1:c.name=x.name
    ·by_cases h2:c.typ=47
     ·simp (disch:=omega) only [S1,hx,hc,h1,h2,EVC,xe,EVP,EV,simprocAttr]
      try simp
     ·by_cases h3:c.typ=46
      ·simp (disch:=omega) only [S1,hx,hc,h1,h3,EVC,xe,EVP,EV,simprocAttr]
       try simp
      ·simp (disch:=omega) only [S1,hx,hc,h1,h2,h3,EVC,xe,EVP,EV,simprocAttr]
       try simp
    ·simp (disch:=omega) only [S1,hx,hc,h1,EVC,xe,EVP,EV,simprocAttr]
     try simp [h1]
   ·simp (disch:=omega) only [S1,hx,hc,EVC,xe,EVP,EV,simprocAttr]
    try simp
  ·simp (disch:=omega) only [S1,EVC,xe,EVP,EV,simprocAttr];simp [Out.goes]
 simpa using key
def Ij8 (z:Zone):Bool:=z.recs.all fun x=>z.recs.any (Dh6 x)
def Dg6 (z:Zone) (hl:z.recs.length≤1000000) (p1:PV):Eb3.ev S (z.recs.length+1) [z.pv,p1]=some (if Ij8 z=true then .yld 0 [] else .ret [.b false]):=by
 refine Fg z.recs (fun i=>[.i .i64 (i:Int)]) (fun i r=>if (r.all fun x=>z.recs.any (Dh6 x))=true then .yld 0 [] else .ret [.b false]) rfl (by omega) (fun i c r hd hi hc=> ?_) ?_
 ·have k:=Dg5 z i c hc hl p1;rcases Ak (z.recs.any (Dh6 c)) with h|h
  ·left;rw [h] at k;refine ⟨?_,by rw [pk,h,Qs]⟩;simp (disch:=omega) only [S1,k,EVC,xe,EVP,EV,simprocAttr]
  ·right;rw [h] at k;rw [pk,h,Bool.false_and];simp (disch:=omega) only [S1,k,EVC,xe,EVP,EV,simprocAttr];simp [Out.goes]
 ·simp (disch:=omega) only [S1,EVC,xe,EVP,EV,simprocAttr];simp [Out.goes]
def jy (z:Zone):Bool:=decide (z.recs.length≤60) && decide (Ip z=0) && Ij8 z
def Bj2 (z:Zone) (hz:z.wf):S Cy3 1 [z.pv]=some [.b (jy z)]:=by
 unfold jy;refine Hd7 (N:=z.recs.length+1) rfl ?_;by_cases hl:z.recs.length≤60
 ·have k2:=o9 z hz (by omega);by_cases h:Ip z=0
  ·rw [h] at k2;have l0:=fun p1=>Dg6 z (by omega) p1;rcases Ak (Ij8 z) with h3|h3<;>rw [h3] at l0 ⊢<;>simp (disch:=omega) only [S1,k2,l0,Cz,C2,EVC,xe,EVP,EV,simprocAttr]<;>simp [hl,h]
  ·simp (disch:=omega) only [S1,k2,h,Cz,C2,EVC,xe,EVP,EV,simprocAttr]
   try simp [h]
 ·have hl':(z.recs.length:Int)>60:=by omega
  simp (disch:=omega) only [S1,hl',Cz,C2,EVC,xe,EVP,EV,simprocAttr]
  try simp [hl]
def Dg4 {z:Zone} (h:jy z=true):z.recs.length≤60∧Ip z=0∧Pl z:=by unfold jy at h;simp only [Av,decide_eq_true_eq] at h;refine ⟨h.1.1,h.1.2,fun r hr=> ?_⟩;have:=By.1 h.2 r hr;rw [Bm] at this;obtain ⟨c,hc,hp⟩:=this;unfold Dh6 at hp;simp only [Av,A6,decide_eq_true_eq,decide_eq_false_iff_not] at hp;exact ⟨c,hc,hp.1.1,hp.1.2,hp.2⟩
def Qw (l:List Rec) (z:Zone) (q:Ques) (r:Res) (hw:∀a∈l,a.wf) (hl:l.length≤1000000) (hz:z.origin.length≤9223372036854775807) (hn:q.name.length≤9223372036854775807)
  (c1:r.wild=true→Hj l z.origin q.name r.owner=true) (c2:r.kind=6→Ol l z.origin q.name=true)
  (c3:r.kind=5→q.typ≠46→q.typ≠47→(q.typ≠43∨q.name≠z.origin)→Y6 l z.origin q=true):S Bq2 4 [Ag l,z.pv,q.pv,r.pv]=some [.b true]:=by
 refine Hd5 (N:=1) rfl ?_;have k1:=Wd l z.origin q.name r.owner hw hl hz hn;have k2:=Rt l z.origin q.name hw hl hz hn;have k3:=o5 l z.origin q hw hl hz hn;rcases Ak r.wild with hwi|hwi
 ·rw [c1 hwi] at k1;by_cases h6:r.kind=6
  ·rw [c2 h6] at k2;simp (disch:=omega) only [O8,k1,hwi,k2,h6,F0,Cz,C2,EVM,EVR,EVC,xe,EVP,EV,simprocAttr]
  ·by_cases h5:r.kind=5
   ·by_cases h47:q.typ=47
    ·simp (disch:=omega) only [O8,k1,hwi,h5,h47,F0,Cz,C2,EVM,EVR,EVC,xe,EVP,EV,simprocAttr]
    ·by_cases h46:q.typ=46
     ·simp (disch:=omega) only [O8,k1,hwi,h5,h46,F0,Cz,C2,EVM,EVR,EVC,xe,EVP,EV,simprocAttr]
     ·by_cases h43:q.typ=43
      ·by_cases ho:q.name=z.origin
       ·rw [ho] at k1;simp (disch:=omega) only [O8,k1,hwi,h5,h43,ho,F0,Cz,C2,EVM,EVR,EVC,xe,EVP,EV,simprocAttr]
       ·rw [c3 h5 h46 h47 (.inr ho)] at k3;simp (disch:=omega) only [O8,k1,hwi,k3,h5,h43,ho,F0,Cz,C2,EVM,EVR,EVC,xe,EVP,EV,simprocAttr]
      ·rw [c3 h5 h46 h47 (.inl h43)] at k3;simp (disch:=omega) only [O8,k1,hwi,k3,h5,h46,h47,h43,F0,Cz,C2,EVM,EVR,EVC,xe,EVP,EV,simprocAttr]
   ·simp (disch:=omega) only [O8,k1,hwi,h6,h5,F0,Cz,C2,EVM,EVR,EVC,xe,EVP,EV,simprocAttr]
 ·by_cases h6:r.kind=6
  ·rw [c2 h6] at k2;simp (disch:=omega) only [O8,hwi,k2,h6,F0,Cz,C2,EVM,EVR,EVC,xe,EVP,EV,simprocAttr]
  ·by_cases h5:r.kind=5
   ·by_cases h47:q.typ=47
    ·simp (disch:=omega) only [O8,hwi,h5,h47,F0,Cz,C2,EVM,EVR,EVC,xe,EVP,EV,simprocAttr]
    ·by_cases h46:q.typ=46
     ·simp (disch:=omega) only [O8,hwi,h5,h46,F0,Cz,C2,EVM,EVR,EVC,xe,EVP,EV,simprocAttr]
     ·by_cases h43:q.typ=43
      ·by_cases ho:q.name=z.origin
       ·simp (disch:=omega) only [O8,hwi,h5,h43,ho,F0,Cz,C2,EVM,EVR,EVC,xe,EVP,EV,simprocAttr]
       ·rw [c3 h5 h46 h47 (.inr ho)] at k3;simp (disch:=omega) only [O8,hwi,k3,h5,h43,ho,F0,Cz,C2,EVM,EVR,EVC,xe,EVP,EV,simprocAttr]
      ·rw [c3 h5 h46 h47 (.inl h43)] at k3;simp (disch:=omega) only [O8,hwi,k3,h5,h46,h47,h43,F0,Cz,C2,EVM,EVR,EVC,xe,EVP,EV,simprocAttr]
   ·simp (disch:=omega) only [O8,hwi,h6,h5,F0,Cz,C2,EVM,EVR,EVC,xe,EVP,EV,simprocAttr]
def Dm1 {z:Zone} (n:List UInt8) (hl:z.recs.length≤1000):(neededN z n).length≤1000000:=by
 have hcl:=Wk hl;unfold neededN;split
 ·split
  ·simp
  ·exact C9 (Dw _ _) hcl
 ·simp
def law_NsecComplete (z:Zone) (q:Ques) (hz:z.wf) (hq:q.wf):S Gx5 2 [z.pv,q.pv]=some [.b true]:=by
 refine Iq0 (N:=1) rfl ?_;have ka:=By0;by_cases hnl:q.name.length≤300
 ·have kp:=Bj2 z hz;rcases Ak (jy z) with h|h
  ·rw [h] at kp;obtain ⟨hl,hc,hp⟩:=Dg4 h;have ho:=V9 hc;have g1:=hz.origin;unfold Q8 at g1;have hw:∀a∈chainN z,a.wf:=Er1 hz;have k1:=Wg z hz (by omega);rw [if_pos hc] at k1;have k2:=Ch5 z q hz (by omega) (by omega);have k3:=By5 z q.name hz (fun _=>hw) (by omega) (by omega);have m1:=Qw (chainN z) z q (findM z q) hw (Wk (by omega)) g1 (by omega) (fun w=>Af5 ho hp w (Og z q)) (fun w=>Af7 ho hp w (Og z q)) (fun w a b c=>Af6 ho hp w a b c (Og z q));have kk:(findM z q).wild=true∨(findM z q).kind=6∨(findM z q).kind=5→ot z q (neededN z q.name):=fun w=>by
    rcases find_cases z q ho with ⟨v1,v2⟩|hm
    ·rcases w with w|w
     ·rw [v2] at w;cases w
     ·omega
    ·exact Bq9 hc hm
   have m2:=Qw (neededN z q.name) z q (findM z q) (fun a ha=>hw a (Dl9 a ha)) (Dm1 _ (by omega)) g1 (by omega) (fun w=>Af5 ho hp w (kk (.inl w))) (fun w=>Af7 ho hp w (kk (.inr (.inl w)))) (fun w a b c=>Af6 ho hp w a b c (kk (.inr (.inr w))));generalize findM z q=r at*;generalize neededN z q.name=nl at*;generalize chainN z=l at*;simp (disch:=omega) only [Hk6,ka,kp,k1,k2,k3,m1,m2,F0,Cz,C2,EVM,EVR,EVC,xe,EVP,EV,simprocAttr]
  ·rw [h] at kp;simp (disch:=omega) only [Hk6,ka,kp,F0,Cz,C2,EVM,EVR,EVC,xe,EVP,EV,simprocAttr]
 ·have hl':(q.name.length:Int)>300:=by omega
  simp (disch:=omega) only [Hk6,ka,hl',F0,Cz,C2,EVM,EVR,EVC,xe,EVP,EV,simprocAttr]
end Go.X.G
