/- nsec: what the chain of a checked zone is; the law NsecOrder. -/
import Derived.Test.YtjakmljndnkplaaGreatDoorProveNegativeG13
import Derived.Test.YtjakmljndnkplaaGreatDoorProveNegativeG11
import Derived.Test.YtjakmljndnkplaaGreatDoorProveNegativeG12
import Derived.Test.YtjakmljndnkplaaGreatDoorProveNegativeG9
open BitVec renaming getLsbD_and->Of,getLsbD_not->Ik8
open Bool renaming eq_false_or_eq_true->Bm,and_eq_true->Bp,false_eq_true->B5,or_eq_true->Ck,not_eq_true'->Cf,eq_false_iff->Ef,and_eq_false_iff->H2,false_or->I9,true_and->N0
open Classical renaming not_not->Hp
open Int renaming toNat_natCast->Fq,lt_irrefl->Nt
open List renaming getElem?_eq_some_iff->Br,length_append->Bt,getElem?_eq_getElem->B0,mem_cons->Cj,mem_of_getElem?->Cq,append_assoc->Cv,length_take->Cw,length_cons->Cy,getElem?_append_right->Cz,pairwise_cons->Cd,mem_filter->Cg,getElem?_drop->Cl,mem_append->Cn,getElem?_append_left->Cp,all_eq_true->Cr,mem_singleton->C0,length_pos_iff->C1,length_nil->C3,take_append_drop->C7,getElem?_map->C9,any_eq_true->Dj,length_drop->Dy,getElem?_cons_zero->Db,nil_append->Dc,take_add_one->Dr,length_filter_le->D4,drop_drop->D6,mem_map->Ev,length_singleton->Ew,take_length->Eh,getElem_mem->Er,mem_iff_getElem?->Et,pairwise_iff_getElem->E1,length_map->E9,append_nil->Fj,suffix_iff_eq_drop->Fy,mem_range->Fh,filter_cons_of_pos->F5,flatMap_cons->Gj,exists_mem_of_ne_nil->Gb,filter_eq_nil_iff->Hb,take_append_of_le_length->Hm,getElem?_set_self->M0,mem_filterMap->Oc,findIdx?_cons->Od,set_append_right->P1,getLast?_eq_getElem?->Q3,getElem?_eq_none_iff->Q4,mem_of_getLast?->Rn,getElem?_set_ne->Rr,foldl_cons->nd,filterMap_cons->Ff5,find?_eq_none->Ik6
open Nat renaming le_refl->B7,mul_le_mul_right->C4,zero_le->Df,le_trans->Dt,sub_self->Mt
open Option renaming bind_some->B3,map_some->Cc,getD_some->Dd
open Option.some renaming injEq->Bn
set_option maxHeartbeats 1000000
set_option linter.defProp false
set_option linter.unusedVariables false
set_option linter.unusedSimpArgs false
namespace Go.X.G
open Go Go.X
def Af:=And.intro xe<|And.intro EVP EV
def Ad:=And.intro EVC<|And.intro xe<|And.intro EVP EV
def Ac:=And.intro EVM<|And.intro EVC<|And.intro xe<|And.intro EVP EV
def bv (x:Int):BitVec 64:=BitVec.ofInt 64 x
def Az9 (v:BitVec 64):bv (IntKind.u64.wrap (v.toNat:Int))=v:=by have h:=v.isLt;rw[Gl6 (by omega) (by omega)];unfold bv;rw[BitVec.ofInt_natCast,BitVec.ofNat_toNat,BitVec.setWidth_eq]
def Hs6 (x y:Int):bv (anB x y)=bv x &&& ~~~ bv y:=Az9 _
def Hs7 (x y:Int):bv (adB x y)=bv x &&& bv y:=Az9 _
def Gf6 (g t:Int):bv (bitO g t)=bv g|||bv (shO t):=Az9 _
def Ab0 (k:Nat):∀(l:List Int) (g:Int),(bv (l.foldl bitO g)).getLsbD k=((bv g).getLsbD k||l.any fun t=>(bv (shO t)).getLsbD k)
 |[],g=>by simp
 |t::l,g=>by rw[nd,Ab0 k l,Gf6,BitVec.getLsbD_or,List.any_cons,Bool.or_assoc]
def Hs8 (v:BitVec 64) (k:Nat):bit (IntKind.u64.wrap (v.toNat:Int)) k=if v.getLsbD k=true then 1 else 0:=by
 have h:=v.isLt;rw[Gl6 (by omega) (by omega)];unfold bit;have e:(((v.toNat / 2 ^ k % 2:Nat)):Int)=(v.toNat:Int) / 2 ^ k % 2:=by rw[Int.natCast_emod,Int.natCast_ediv];simp
 rw[<-e,BitVec.getLsbD,Nat.testBit_eq_decide_div_mod_eq];by_cases h1:v.toNat / 2 ^ k % 2=1
 .rw[h1];simp
 .have:v.toNat / 2 ^ k % 2=0:=by omega
  rw[this];simp
def Bv7 (x y:Int) (k:Nat):bit (orB x y) k=if(bv x).getLsbD k||(bv y).getLsbD k then 1 else 0:=by unfold orB;rw[show IntKind.u64.bits=64 from rfl,Hs8,BitVec.getLsbD_or];rfl
def Ih3 (x:Int):bit (orB x ax) 47=1:=by rw[Bv7,show (bv ax).getLsbD 47=true by kernel_rfl,Bool.or_true];rfl
def Ih4 (x:Int):bit (orB x ax) 46=1:=by rw[Bv7,show (bv ax).getLsbD 46=true by kernel_rfl,Bool.or_true];rfl
def Ag9 {z:Zone} {n:List UInt8} (h:tyO z n≠0):∃r∈z.recs,r.name=n:=by
 cases e:typesR z.recs n with
 |nil=>
  exfalso;apply h;unfold tyO;rw[e]
  kernel_rfl
 |cons t l=>
  have:t∈typesR z.recs n:=by rw[e];exact .head _
  simp only[typesR,Ev,Cg,Bp,decide_eq_true_eq] at this;obtain⟨r,⟨hr,hn,_⟩,_⟩:=this;exact⟨r,hr,hn⟩
def Cq3 {z:Zone} {n:List UInt8} {r:Rec} (hr:r∈z.recs) (hn:r.name=n) (hk:knw r.typ=true) (k:Nat) (h1:(bv (shO r.typ)).getLsbD k=true) (h2:(bv ax).getLsbD k=false):(bv (tyO z n)).getLsbD k=true:=by
 unfold tyO;rw[Hs6,Of,Ik8,h2,Ab0];have hlt:k<64:=BitVec.lt_of_getLsbD h1;have:(typesR z.recs n).any (fun t=>(bv (shO t)).getLsbD k)=true:=by rw[Dj];refine⟨r.typ,?_,h1⟩;simp only[typesR,Ev,Cg,Bp,decide_eq_true_eq];exact⟨r,⟨hr,hn,hk⟩,rfl⟩
 rw[this];simp[hlt]
def By0 {z:Zone} (ho:ZOk z):tyO z z.origin≠0:=by
 obtain⟨r,hr,hn,ht⟩:=ho.soaR;have h:=Cq3 hr hn (by rw[ht];kernel_rfl) 6 (by rw[ht];kernel_rfl) (by kernel_rfl);intro e;rw[e] at h;have h2:(bv 0).getLsbD 6=false:=by kernel_rfl
 rw[h2] at h;cases h
def Dx9 (g:List Rec) (i j:Nat) (a:Rec) (hi:i<g.length) (ha:g[j]? =some a):(lnk g i)[j]? =some (if 0<i∧j=i - 1 then Gj6 (g[i]'hi).name a else a):=by
 unfold lnk;by_cases h0:0<i
 .have a1:g[i - 1]? =some (g[i - 1]'(by omega)):=B0 (by omega);have a2:g[i]? =some (g[i]'hi):=B0 hi;rw[if_pos h0,a1,a2];simp only;by_cases hj:j=i - 1
  .subst hj;rw[if_pos ⟨h0,rfl⟩,M0 (by omega)];rw[a1] at ha;injection ha with ha;rw[ha]
  .rw[if_neg (by omega),Rr (by omega),ha]
 .rw[if_neg h0,if_neg (by omega),ha]
def nxt (g:List Rec) (j:Nat) (a:Rec):Rec:=match g[j+1]? with
 |some b=>Gj6 b.name a
 |none=>a
def At3:∀(k i:Nat) (g:List Rec),g.length=i+k->∀(j:Nat) (a:Rec),g[j]? =some a->(Dy0 k i g)[j]? =some (if i<=j+1 then nxt g j a else a)
 |0,i,g,hl,j,a,ha=>by
  show g[j]? =_;rw[ha];by_cases h:i<=j+1
  .rw[if_pos h];have:g[j+1]? =none:=by rw[Q4];omega
   unfold nxt;rw[this]
  .rw[if_neg h]
 |k+1,i,g,hl,j,a,ha=>by
  show (Dy0 k (i+1) (lnk g i))[j]? =_;have hi:i<g.length:=by omega
  have hj:=Dx9 g i j a hi ha;rw[At3 k (i+1) (lnk g i) (by rw[j5];omega) j _ hj];by_cases h1:0<i∧j=i - 1
  .rw[if_neg (by omega),if_pos h1,if_pos (by omega)];unfold nxt;have e:j+1=i:=by omega
   rw[e,B0 hi]
  .rw[if_neg h1];by_cases h2:i<=j+1
   .have h3:i+1<=j+1:=by omega
    rw[if_pos h2,if_pos h3];unfold nxt;cases hb:g[j+1]? with
    |none=>
     have:(lnk g i)[j+1]? =none:=by rw[Q4] at hb ⊢;rw[j5];exact hb
     rw[this]
    |some b=>
     rw[Dx9 g i (j+1) b hi hb,if_neg (by omega)]
   .rw[if_neg h2,if_neg (by omega)]
def At2:∀(k i:Nat) (g:List Rec),(Dy0 k i g).length=g.length
 |0,_,_=>rfl
 |k+1,i,g=>by show (Dy0 k (i+1) (lnk g i)).length=_;rw[At2,j5]
def Ml (z:Zone):(chainN z).length=(chain0 z (S3 z)).length:=At2 _ _ _
def Vk {z:Zone} {j:Nat} {a:Rec} (h:(chain0 z (S3 z))[j]? =some a):(chainN z)[j]? =some (nxt (chain0 z (S3 z)) j a):=by unfold chainN;rw[At3 _ 0 _ (by omega) j a h,if_pos (by omega)]
def Qf {z:Zone} {ttl:Int} {a:Rec} (h:a∈chain0 z ttl):∃n∈namesN z,tyO z n≠0∧a=⟨n,47,ttl,⟨false,0,0,z.origin,[],[],0,0,0,0,0,0,chBits z n⟩⟩:=by
 unfold chain0 at h;rw[Oc] at h;obtain⟨n,hn,ha⟩:=h;unfold Mm at ha;split at ha
 .cases ha
 .rename_i h0;injection ha with ha;exact⟨n,hn,h0,ha.symm⟩
def Tm (z:Zone) (ttl:Int):(chain0 z ttl).Pairwise fun a b=>ltN a.name b.name:=by
 unfold chain0;have h:(namesN z).Pairwise ltN:=K8 _;generalize namesN z=l at*
 induction l with
 |nil=>exact .nil
 |cons n l ih=>
  obtain⟨h1,h2⟩:=Cd.1 h;rw[Ff5];split
  .exact ih h2
  .rename_i b hb;refine Cd.2 ⟨fun w hw=> ?_,ih h2⟩;rw[Oc] at hw;obtain⟨m,hm,hw⟩:=hw;have e:∀{x:List UInt8} {y:Rec},Mm z ttl x=some y->y.name=x:=by
    intro x y hy;unfold Mm at hy;split at hy
    .cases hy
    .injection hy with hy;rw[<-hy]
   rw[e hb,e hw];exact h1 m hm
def Bg3 {z:Zone} (ho:ZOk z):∃r,namesN z=z.origin::r:=by
 have hm:z.origin∈namesN z:=by have:=Nl z z.origin;rw[ho.exO] at this;simpa using this
 have hs:(namesN z).Pairwise ltN:=K8 _;have hu:∀x∈namesN z,under x z.origin=true:=fun x hx=>Xk (by rw[<-Nl];simpa using hx);generalize namesN z=l at*;cases l with
 |nil=>cases hm
 |cons x r=>
  refine⟨r,?_⟩;congr 1;rcases Cj.1 hm with e|hm
  .exact e.symm
  .have h1:=(Cd.1 hs).1 _ hm;apply Classical.byContradiction;intro hne;exact to_N.asym h1 (Sk (hu x (.head _)) hne)
def Ax2 {z:Zone} (ho:ZOk z):∃a,(chain0 z (S3 z))[0]? =some a∧a.name=z.origin:=by obtain⟨r,hr⟩:=Bg3 ho;unfold chain0;rw[hr,Ff5];unfold Mm;rw[if_neg (By0 ho)];exact⟨_,rfl,rfl⟩
structure ChainOk (z:Zone) (l:List Rec):Prop where
 pos:0<l.length
 first:∀a,l[0]? =some a->a.name=z.origin
 last:∀a,l[l.length - 1]? =some a->a.data.host=z.origin
 each:∀a∈l,a.typ=47∧bit a.data.bits 47=1∧bit a.data.bits 46=1∧(∃r∈z.recs,r.name=a.name)∧under a.name z.origin=true
 next:∀i a b,l[i]? =some a->l[i+1]? =some b->a.data.host=b.name∧ltN a.name b.name
def Lr (g:List Rec) (j:Nat) (a:Rec):(nxt g j a).name=a.name:=by unfold nxt;split<;>rfl
def Dv0 (g:List Rec) (j:Nat) (a:Rec):(nxt g j a).typ=a.typ:=by unfold nxt;split<;>rfl
def An0 (g:List Rec) (j:Nat) (a:Rec):(nxt g j a).data.bits=a.data.bits:=by unfold nxt;split<;>rfl
def I6 {z:Zone} {j:Nat} {b:Rec} (h:(chainN z)[j]? =some b):∃a,(chain0 z (S3 z))[j]? =some a∧b=nxt (chain0 z (S3 z)) j a:=by have hlt:=(Br.1 h).1;rw[Ml] at hlt;have e:=B0 hlt;refine⟨_,e,?_⟩;rw[Vk e] at h;injection h with h;exact h.symm
def Bq8 {z:Zone} (ho:ZOk z):ChainOk z (chainN z):=by
 obtain⟨a0,h0,n0⟩:=Ax2 ho;have hp:0<(chain0 z (S3 z)).length:=(Br.1 h0).1;refine⟨by rw[Ml];exact hp,fun a ha=> ?_,fun a ha=> ?_,fun b hb=> ?_,fun i a b ha hb=> ?_⟩
 .rw[Vk h0] at ha;injection ha with ha;rw[<-ha,Lr];exact n0
 .rw[Ml] at ha;obtain⟨c,hc,rfl⟩:=I6 ha;have:(chain0 z (S3 z))[(chain0 z (S3 z)).length - 1+1]? =none:=by rw[Q4];omega
  unfold nxt;rw[this];obtain⟨n,_,_,e⟩:=Qf (Cq hc);rw[e]
 .obtain⟨j,hj⟩:=Et.1 hb;obtain⟨c,hc,rfl⟩:=I6 hj;obtain⟨n,hn,h1,e⟩:=Qf (Cq hc);rw[Lr,Dv0,An0,e];exact⟨rfl,Ih3 _,Ih4 _,Ag9 h1,Xk (by rw[<-Nl];simpa using hn)⟩
 .obtain⟨c,hc,rfl⟩:=I6 ha;obtain⟨d,hd,rfl⟩:=I6 hb;rw[Lr,Lr];constructor
  .unfold nxt;rw[hd];rfl
  .have hs:=Tm z (S3 z);rw[E1] at hs;obtain⟨h1,e1⟩:=Br.1 hc;obtain⟨h2,e2⟩:=Br.1 hd;have:=hs i (i+1) h1 h2 (by omega);rw[e1,e2] at this;exact this
def P5 (n:List UInt8) (r:Rec):Rec:={r with name:=n}
def Am2 (l:List Rec) (n:List UInt8) (i:Nat) (c:Rec) (r g:List Rec) (hd:l.drop i=c::r) (hi:i<l.length) (hc:l[i]? =some c) (hg:g=(l.take i).map (P5 n)++l.drop i):
  g[i]? =some c∧g.length=l.length∧g.set i {c with name:=n}=(l.take (i+1)).map (P5 n)++l.drop (i+1):=by
 have hA:((l.take i).map (P5 n)).length=i:=by rw[E9,Cw];omega
 have hd1:l.drop (i+1)=r:=by rw[<-D6 (i:=1) (j:=i),hd];rfl
 have ht:(l.take (i+1)).map (P5 n)=(l.take i).map (P5 n)++[P5 n c]:=by rw[Dr,hc,List.map_append];rfl
 rw[ht,hd1];rw[hd] at hg;have hlen:l.length=i+(r.length+1):=by have:=congrArg List.length hd;rw[Dy,Cy] at this;omega
 generalize (l.take i).map (P5 n)=A at*;subst hg;refine⟨?_,?_,?_⟩
 .rw[Cz (by omega),hA];simp
 .rw[Bt,Cy,hA];omega
 .rw[P1 _ _ (by omega),hA];simp[P5]
def Fg4 (z:Zone) (q:Ques) (l:List Rec) (p2 p3 p4 p5:PV) (N:Nat) (hN:l.length<N) (hl:l.length<=1000000):
  Fy5.ev S N [z.pv,q.pv,p2,p3,p4,p5,B6 l]=some (.yld 0 [B6 (l.map (P5 q.name))]):=by
 refine E7 l (fun i (g:List Rec)=>[B6 g,.i .i64 (i:Int)]) (fun i g r=> .yld 0 [B6 (l.map (P5 q.name))]) (fun i g=>g=(l.take i).map (P5 q.name)++l.drop i) l (by simp(disch:=omega)only[Ac,simprocAttr]) (by simp) hN (fun i g c r hd hi hc hI=> ?_) (fun g hI=> ?_)
 .left;obtain⟨h1,h2,h3⟩:=Am2 l q.name i c r g hd hi hc hI;refine⟨g.set i {c with name:=q.name},?_,h3,rfl⟩;have hs:M8 16 0 [.s q.name] (B6 g) (.i .i64 (i:Int))=some (B6 (g.set i {c with name:=q.name})):=by have:=pp g .i64 (i:Int) q.name c (by omega) (by rw[Fq];exact h1);rwa[Fq] at this
  generalize g.set i {c with name:=q.name}=g' at*;simp(disch:=omega)only[Bx7,h1,hs,EVM,EVC,EVR,Af,simprocAttr]
 .have e:g=l.map (P5 q.name):=by rw[hI];simp
  rw[<-e];simp(disch:=omega)only[Bx7,EVM,EVC,EVR,Af,simprocAttr]
  try simp[Out.goes]
def R7 (z:Zone) (q:Ques):Option Res:=
 if starOk (encN z q.name)=true∧allR z (starN (encN z q.name))≠[] then
  some {saysM ((allR z (starN (encN z q.name))).map (P5 q.name)) q.typ with owner:=starN (encN z q.name),wild:=true}
 else none
def Xy (z:Zone) (n:List UInt8):(allR z n).length<=z.recs.length:=D4 _ _
def lv (z:Zone) (n:List UInt8):(encN z n).length<=254:=by
 unfold encN;rcases Bm (under n z.origin) with hu|hu
 .rw[if_pos hu];cases h:Bs0 z n with
  |none=>simp
  |some e=>exact H4 (Ct.1 (Py hu h).1).2.1
 .rw[if_neg (by simp[hu])];simp
def By5:starOk []=false:=by decide
def Fg3 (z:Zone) (q:Ques) (hz:z.wf) (hl:z.recs.length<=1000) (hq:q.name.length<=9223372036854775807):S Eg8 2 [z.pv,q.pv]=some (N4 (R7 z q)):=by
 refine Ic0 (N:=2000) rfl ?_;have k1:=Og z q.name hz hl hq;have el:=lv z q.name;have k2:=Tt (encN z q.name) (by omega);have k3:=An2 z (starN (encN z q.name)) (by omega);have al:=Xy z (starN (encN z q.name));unfold R7;by_cases h1:encN z q.name=[]
 .rw[h1] at k1 ⊢;rw[By5,if_neg (by simp)];simp(disch:=omega)only[Bx7,k1,N4,EVM,EVC,EVR,Af,simprocAttr]
  try simp
 .have h2:decide (encN z q.name≠[])=true:=by simp[h1]
  rw[h2] at k1;rcases Bm (starOk (encN z q.name)) with h3|h3
  .rw[h3] at k2;by_cases h4:allR z (starN (encN z q.name))=[]
   .rw[if_neg (by simp[h4])];rw[h4] at k3;simp(disch:=omega)only[Bx7,k1,k2,k3,N4,EVM,EVC,EVR,Af,simprocAttr]
    try simp
   .rw[if_pos ⟨h3,h4⟩];have h5:¬((allR z (starN (encN z q.name))).length:Int)=0:=by have:=C1.2 h4;omega
    have k4:=fun p2 p3 p4 p5=>Fg4 z q (allR z (starN (encN z q.name))) p2 p3 p4 p5 2000 (by omega) (by omega);have k5:=Cg9 ((allR z (starN (encN z q.name))).map (P5 q.name)) q.typ (by rw[E9];omega);generalize (allR z (starN (encN z q.name))).map (P5 q.name)=ml at*;generalize allR z (starN (encN z q.name))=al at*;simp(disch:=omega)only[Bx7,k1,k2,k3,k4,k5,h5,N4,EVM,EVC,EVR,Af,simprocAttr]
  .rw[h3] at k2;rw[if_neg (by simp[h3])];generalize allR z (starN (encN z q.name))=al at*;simp(disch:=omega)only[Bx7,k1,k2,k3,N4,EVM,EVC,EVR,Af,simprocAttr]
   try simp
def bd (z:Zone) (q:Ques):Res:=
 match jj z q.name with
 |some x=>x
 |none=>if exB z q.name=true then {saysM (allR z q.name) q.typ with owner:=q.name} else(R7 z q).getD ⟨6,q.name,false,[],[]⟩
def findM (z:Zone) (q:Ques):Res:=
 if under q.name z.origin=true then
  if cutN z q.name≠[]∧(cutN z q.name≠q.name∨q.typ≠43) then ⟨4,cutN z q.name,false,[],findR z.recs (cutN z q.name) 2⟩ else bd z q
 else Gm5
def Av4 (z:Zone) (q:Ques) (hz:z.wf) (hl:z.recs.length<=1000) (hq:q.name.length<=9223372036854775807):S Bg8 2 [z.pv,q.pv]=some [(findM z q).pv]:=by
 refine Ig1 (N:=1) rfl ?_;have g1:=hz.origin;unfold T6 at g1;have k0:=Fl q.name z.origin hq g1;have k1:=Bt3 z q.name hz (by omega) hq;have k2:=J2 z (cutN z q.name) 2 (by omega);have k4:=cr z q.name hz hl;have k5:=An2 z q.name (by omega);have al:=Xy z q.name;have k6:=Cg9 (allR z q.name) q.typ (by omega);have k7:=Fg3 z q hz hl hq;unfold findM;rcases Bm (under q.name z.origin) with hu|hu
 .rw[if_pos hu];rw[hu] at k0;have k3:=nr z q.name hz (by omega) hu;have tail:∀p3 p4,T.ev S 1 Az4 [z.pv,q.pv,.b true,p3,p4]=some (.ret [(bd z q).pv]):=by
   intro p3 p4;unfold bd;cases hr:jj z q.name with
   |some x=>
    rw[hr] at k3;simp only[N4] at k3;simp(disch:=omega)only[ik,k3,EVM,EVC,EVR,Af,simprocAttr]
   |none=>
    rw[hr] at k3;simp only[N4] at k3;rcases Bm (exB z q.name) with he|he
    .rw[he] at k4;simp only[he,if_true];generalize saysM (allR z q.name) q.typ=sm at*;generalize allR z q.name=ar at*;simp(disch:=omega)only[ik,k3,k4,k5,k6,EVM,EVC,EVR,Af,simprocAttr]
    .rw[he] at k4;simp only[he,B5,if_false];cases hw:R7 z q with
     |some x=>
      rw[hw] at k7;simp only[N4] at k7;simp(disch:=omega)only[ik,k3,k4,k7,EVM,EVC,EVR,Af,simprocAttr]
      try rfl
     |none=>
      rw[hw] at k7;simp only[N4] at k7;simp(disch:=omega)only[ik,k3,k4,k7,EVM,EVC,EVR,Af,simprocAttr]
      try rfl
  by_cases h1:cutN z q.name=[]
  .rw[h1] at k1;rw[if_neg (by simp[h1])];simp(disch:=omega)only[↓tail,ik,k0,k1,ne_eq,not_true,decide_false,EVM,EVC,EVR,Af,simprocAttr]
  .have h2:decide (cutN z q.name≠[])=true:=by simp[h1]
   rw[h2] at k1;by_cases h3:cutN z q.name=q.name
   .by_cases h4:q.typ=43
    .rw[if_neg (by simp[h3,h4])];rw[h3] at k1;simp(disch:=omega)only[↓tail,ik,k0,k1,h4,EVM,EVC,EVR,Af,simprocAttr]
    .rw[if_pos ⟨h1,.inr h4⟩];rw[h3] at k1 k2 ⊢;generalize findR z.recs q.name 2=fr at*;simp(disch:=omega)only[ik,k0,k1,k2,h4,EVM,EVC,EVR,Af,simprocAttr]
   .rw[if_pos ⟨h1,.inl h3⟩];generalize findR z.recs (cutN z q.name) 2=fr at*;simp(disch:=omega)only[ik,k0,k1,k2,h3,EVM,EVC,EVR,Af,simprocAttr]
 .rw[if_neg (by simp[hu])];rw[hu] at k0;simp(disch:=omega)only[ik,k0,EVM,EVC,EVR,Af,simprocAttr]
def Cl1 {z:Zone} {n u:List UInt8} (h:Cl2 z n=some u):∃r rest,findR z.recs u 39=r::rest:=by
 unfold Cl2 at h;have:=List.find?_some h;unfold dnB at this;cases hf:findR z.recs u 39 with
 |nil=>rw[hf] at this;simp at this
 |cons r rest=>exact⟨r,rest,rfl⟩
def rc {z:Zone} {n:List UInt8} (h:n∈namesN z):Oz z n=false∧under n z.origin=true:=by obtain⟨r,hr,h1,h2,h3,h4⟩:=(P8 z n).1 h;refine⟨?_,h4⟩;rw[Ef];intro hn;unfold Oz at hn h2;rw[Dj] at hn;obtain⟨c,hc,h5⟩:=hn;simp only[Bp,decide_eq_true_eq] at h5;obtain⟨⟨c1,c2⟩,c3⟩:=h5;rw[List.any_eq_false] at h2;refine h2 c hc ?_;simp only[Bp,decide_eq_true_eq];refine⟨⟨c1,fun e=> ?_⟩,Lm h3 c3⟩;rw[<-e] at h3;exact c2 (Uq h3 c3)
def Bf9 {z:Zone} {n:List UInt8} (ho:ZOk z) (hu:under n z.origin=true) (hx:exB z n=false) (hc:cutN z n=[]∨cutN z n=n):∀r∈z.recs,under r.name n=false:=by
 intro r hr;rcases Bm (under r.name n) with h|h
 .exfalso;have h1:=ho.under hr;have hh:Oz z r.name=true:=by
   rcases Bm (Oz z r.name) with e|e
   .exact e
   .have:=(L1 z n).2 ⟨r,hr,h1,e,h,hu⟩;rw[hx] at this;cases this
  rw[Gx7] at hh;simp only[Bp,decide_eq_true_eq] at hh;obtain⟨c1,_,_,_,_,c2⟩:=ww ho hh.1;obtain⟨_,g2⟩:=Pb z r.name z.recs [] (.inl rfl);obtain⟨_,g3,_,_⟩:=g2 hh.1;obtain⟨x,hxm,x1,x2⟩:=g3.resolve_left hh.1;change x.name=cutN z r.name at x2;generalize cutN z r.name=c at*;obtain⟨_,_,s1⟩:=Ct.1 c1;obtain⟨_,vn,s2⟩:=Ct.1 h;obtain⟨_,vc,_⟩:=Ct.1 c1;by_cases hl:(lbl n).length<=(lbl c).length
  .have hcn:under c n=true:=Ct.2 ⟨vc,vn,X1 s2 s1 hl⟩;obtain⟨y,y1,y2,y3,y4,_⟩:=(L1 z c).1 c2;have:=(L1 z n).2 ⟨y,y1,y2,y3,Lm y4 hcn,hu⟩;rw[hx] at this;cases this
  .have hnc:under n c=true:=Ct.2 ⟨vn,vc,X1 s1 s2 (by omega)⟩;obtain⟨k1,k2⟩:=Pb z n z.recs [] (.inl rfl);rcases hc with hc|hc
   .have:=(k1 hc).2 x hxm x1;rw[x2,hnc] at this;cases this
   .by_cases hc0:cutN z n=[]
    .have:=(k1 hc0).2 x hxm x1;rw[x2,hnc] at this;cases this
    .obtain⟨_,_,_,k3⟩:=k2 hc0;have:=k3 x hxm x1 (by rw[x2];exact hnc);change (lbl (cutN z n)).length<=_ at this;rw[hc,x2] at this;omega
 .exact h
def Pd (z:Zone) (n:List UInt8) (t:Int):Nat:=(z.recs.filter fun r=>decide (r.name=n) && (decide (t=255)||decide (r.typ=t))).length
def Nn (z:Zone) (n:List UInt8) (t:Int):Pd z n t=(typedR (allR z n) t).length:=by
 unfold Pd typedR allR;split
 .rename_i h;subst h;simp
 .rename_i h;rw[List.filter_filter];congr 1;refine List.filter_congr fun r _=> ?_;simp[h,Bool.and_comm]
def Bn1 (z:Zone) (n:List UInt8):Pd z n 2=(findR z.recs n 2).length:=by unfold Pd findR;congr 1
def o3 {l:List Rec} {t:Int} {x:Rec} (h:x∈typedR l t):x∈l∧(x.typ=t∨t=255):=by
 unfold typedR at h;split at h
 .rename_i e;exact⟨h,.inr e⟩
 .obtain⟨h1,h2⟩:=Cg.1 h;exact⟨h1,.inl (by simpa using h2)⟩
def o0 (l:List Rec) (n:List UInt8) (t:Int):(typedR (l.map (P5 n)) t).length=(typedR l t).length:=by
 unfold typedR;split
 .simp
 .rw[List.filter_map,E9];rfl
structure FindOk (z:Zone) (q:Ques) (r:Res):Prop where
 ans:r.kind=1->r.recs≠[]∧r.recs.length=Pd z r.owner q.typ∧(r.wild=false->r.owner=q.name)∧∀x∈r.recs,x.name=q.name∧(x.typ=q.typ∨q.typ=255)∧{x with name:=r.owner}∈z.recs
 nothing:r.kind=6∨r.wild=true->∀x∈z.recs,under x.name q.name=false
 out:r.kind=0->under q.name z.origin=false
 nodata:r.kind=5->Pd z r.owner q.typ=0
 nx:r.kind=6->r.recs=[]∧r.wild=false
 ref:r.kind=4->under q.name r.owner=true∧r.owner≠z.origin∧r.recs.length=Pd z r.owner 2∧r.recs≠[]∧∀x∈r.recs,x.typ=2
 kinds:r.kind=0∨r.kind=1∨(r.kind=2∧r.recs≠[])∨(r.kind=3∧r.recs≠[])∨r.kind=4∨r.kind=5∨r.kind=6
def says_kind (l:List Rec) (t:Int):((saysM l t).kind=2∧(saysM l t).recs≠[])∨((saysM l t).kind=5∧typedR l t=[])∨((saysM l t).kind=1∧typedR l t≠[]∧(saysM l t).recs=typedR l t):=by
 unfold saysM;split
 .exact .inl ⟨rfl,by simp⟩
 .split
  .rename_i h;exact .inr (.inl ⟨rfl,h⟩)
  .rename_i h;exact .inr (.inr ⟨rfl,h,rfl⟩)
def Mx (l:List Rec) (t:Int):(saysM l t).wild=false:=by
 unfold saysM;split
 .rfl
 .split<;>rfl
def vm (z:Zone) (q:Ques) (ho:ZOk z):FindOk z q (findM z q):=by
 unfold findM;split
 .rename_i hu;split
  .rename_i hc;obtain⟨f1,f2,f3,_⟩:=ww ho hc.1;refine⟨fun h=>by simp at h,fun h=>by simp at h,fun h=>by simp at h,fun h=>by simp at h,fun h=>by simp at h,fun _=>⟨f1,f2,(Bn1 z _).symm,fun e=>f3 (by have e':findR z.recs (cutN z q.name) 2=[]:=e;rw[e'];rfl),fun x hx=>(Mf.1 hx).2.2⟩,by simp⟩
  .rename_i hc;have hc':cutN z q.name=[]∨cutN z q.name=q.name:=by
    by_cases h0:cutN z q.name=[]
    .exact .inl h0
    .refine .inr (Classical.byContradiction fun h1=>hc ⟨h0,.inl h1⟩)
   unfold bd;cases hr:jj z q.name with
   |some x=>
    simp only;unfold jj at hr;cases hr2:Cl2 z q.name with
    |none=>rw[hr2] at hr;cases hr
    |some u=>
     rw[hr2] at hr;simp only[Cc,Bn] at hr;obtain⟨r0,rest,hf⟩:=Cl1 hr2;unfold Sf at hr;rw[hf] at hr;subst hr;exact⟨fun h=>by simp at h,fun h=>by simp at h,fun h=>by simp at h,fun h=>by simp at h,fun h=>by simp at h,fun h=>by simp at h,by simp⟩
   |none=>
    simp only;split
    .rename_i hex;rcases says_kind (allR z q.name) q.typ with⟨k,k'⟩|⟨k,kt⟩|⟨k,kt,kr⟩
     .refine⟨fun h=> ?_,fun h=> ?_,fun h=> ?_,fun h=> ?_,fun h=> ?_,fun h=> ?_,.inr (.inr (.inl ⟨k,k'⟩))⟩<;>simp[k,Mx] at h
     .refine⟨fun h=> ?_,fun h=> ?_,fun h=> ?_,fun _=> ?_,fun h=> ?_,fun h=> ?_,by simp[k]⟩
      .simp[k] at h
      .simp[k,Mx] at h
      .simp[k] at h
      .show Pd z q.name q.typ=0;rw[Nn,kt];rfl
      .simp[k] at h
      .simp[k] at h
     .refine⟨fun _=>⟨?_,?_,fun _=>rfl,?_⟩,fun h=> ?_,fun h=> ?_,fun h=> ?_,fun h=> ?_,fun h=> ?_,by simp[k]⟩
      .show (saysM (allR z q.name) q.typ).recs≠[];rw[kr];exact kt
      .show (saysM (allR z q.name) q.typ).recs.length=Pd z q.name q.typ;rw[kr,Nn]
      .intro x hx;change x∈(saysM (allR z q.name) q.typ).recs at hx;rw[kr] at hx;obtain⟨h1,h2⟩:=o3 hx;obtain⟨h3,h4⟩:=Cg.1 h1;have h5:x.name=q.name:=by simpa using h4
       refine⟨h5,h2,?_⟩;show {x with name:=q.name}∈z.recs;rw[<-h5];exact h3
      .simp[k,Mx] at h
      .simp[k] at h
      .simp[k] at h
      .simp[k] at h
      .simp[k] at h
    .rename_i hex;have hex':exB z q.name=false:=by simpa using hex
     have hno:=Bf9 ho hu hex' hc';unfold R7;split
     .simp only[Dd];generalize starN (encN z q.name)=s;rcases says_kind ((allR z s).map (P5 q.name)) q.typ with⟨k,k'⟩|⟨k,kt⟩|⟨k,kt,kr⟩
      .refine⟨fun h=> ?_,fun _=>hno,fun h=> ?_,fun h=> ?_,fun h=> ?_,fun h=> ?_,.inr (.inr (.inl ⟨k,k'⟩))⟩<;>simp[k] at h
      .refine⟨fun h=> ?_,fun _=>hno,fun h=> ?_,fun _=> ?_,fun h=> ?_,fun h=> ?_,by simp[k]⟩
       .simp[k] at h
       .simp[k] at h
       .show Pd z s q.typ=0;rw[Nn,<-o0 (allR z s) q.name q.typ,kt];rfl
       .simp[k] at h
       .simp[k] at h
      .refine⟨fun _=>⟨?_,?_,fun h=> ?_,?_⟩,fun _=>hno,fun h=> ?_,fun h=> ?_,fun h=> ?_,fun h=> ?_,by simp[k]⟩
       .show (saysM ((allR z s).map (P5 q.name)) q.typ).recs≠[];rw[kr];exact kt
       .show (saysM ((allR z s).map (P5 q.name)) q.typ).recs.length=Pd z s q.typ;rw[kr,Nn,o0]
       .simp at h
       .intro x hx;change x∈(saysM ((allR z s).map (P5 q.name)) q.typ).recs at hx;rw[kr] at hx;obtain⟨h1,h2⟩:=o3 hx;obtain⟨y,h3,rfl⟩:=Ev.1 h1;obtain⟨h4,h5⟩:=Cg.1 h3;have h6:y.name=s:=by simpa using h5
        refine⟨rfl,h2,?_⟩;show {P5 q.name y with name:=s}∈z.recs;rw[<-h6];exact h4
       .simp[k] at h
       .simp[k] at h
       .simp[k] at h
       .simp[k] at h
     .simp only[Option.getD_none];refine⟨fun h=>by simp at h,fun _=>hno,fun h=>by simp at h,fun h=>by simp at h,fun _=>⟨rfl,rfl⟩,fun h=>by simp at h,by simp⟩
 .rename_i hu;have hu':under q.name z.origin=false:=by simpa using hu
  refine⟨fun h=>by simp at h,fun h=>by simp at h,fun _=>hu',fun h=>by simp at h,fun h=>by simp at h,fun h=>by simp at h,by simp⟩
def Gk7 (x y:Int):Eq4 (orB x y):=by have h:=(BitVec.ofInt IntKind.u64.bits x|||BitVec.ofInt IntKind.u64.bits y).isLt;have h2:(2:Nat) ^ IntKind.u64.bits=18446744073709551616:=rfl;unfold orB Eq4;rw[Gl6 (by omega) (by omega)];omega
def El6 {z:Zone} (hz:z.wf):T8 (S3 z):=by
 unfold S3;cases e:findR z.recs z.origin 6 with
 |nil=>unfold T8;simp
 |cons r l=>
  have:r∈findR z.recs z.origin 6:=by rw[e];exact .head _
  exact(hz.recs.2 r (Mf.1 this).1).data.e
def w6 {z:Zone} (hz:z.wf):∀a∈chain0 z (S3 z),a.wf:=fun a ha=>by obtain⟨n,hn,_,rfl⟩:=Qf ha;have hv:=H4 (Ct.1 (Xk (z:=z) (n:=n) (by rw[<-Nl];simpa using hn))).1;exact⟨by unfold T6;simp only;omega,by unfold T8;simp,El6 hz,⟨by unfold Eq4;simp,by unfold Eq4;simp,hz.origin,by unfold T6;simp,by unfold T6;simp,by unfold T8;simp,by unfold T8;simp,by unfold T8;simp,by unfold T8;simp,by unfold T8;simp,by unfold T8;simp,Gk7 _ _⟩⟩
def Dv1 {z:Zone} (hz:z.wf):∀a∈chainN z,a.wf:=fun b hb=>by
 obtain⟨j,hj⟩:=Et.1 hb;obtain⟨c,hc,rfl⟩:=I6 hj;have hw:=w6 hz c (Cq hc);unfold nxt;split
 .rename_i d hd;have hd:=w6 hz d (Cq hd);exact⟨hw.name,hw.typ,hw.ttl,⟨hw.data.hi,hw.data.lo,hd.name,hw.data.mail,hw.data.text,hw.data.a,hw.data.b,hw.data.c,hw.data.d,hw.data.e,hw.data.f,hw.data.bits⟩⟩
 .exact hw
def U5 (z:Zone) (name owner star:List UInt8) (r:Rec):Bool:=decide (r.name=owner)||Hd r z.origin name||(decide (star≠[]) && Hd r z.origin star)
def S2 (x:Res) (name:List UInt8):List UInt8:=if x.wild=true then x.owner else name
def uj (z:Zone) (x:Res) (name:List UInt8):List UInt8:=if x.kind=6 then starN (encN z name) else []
def neededN (z:Zone) (name:List UInt8):List Rec:=
 if Jm z=0 then
  if(findM z ⟨name,43⟩).kind=0∨(findM z ⟨name,43⟩).kind=4∨(findM z ⟨name,43⟩).kind=3 then []
  else(chainN z).filter (U5 z name (S2 (findM z ⟨name,43⟩) name) (uj z (findM z ⟨name,43⟩) name))
 else []
def Cd7 (n:List UInt8):(starN n).length<=254:=by
 unfold starN;split
 .rename_i h;unfold starOk at h;simp only[Bp] at h;exact H4 h.2
 .simp
def Bp9 (z:Zone) (name owner star:List UInt8) (r:Rec) (hr:r.wf) (hz:z.wf) (hn:name.length<=9223372036854775807) (hs:star.length<=9223372036854775807):S Vs 1 [r.pv,.s owner,z.pv,.s name,.s star]=some [.b (!U5 z name owner star r)]:=by
 refine Hz2 (N:=1) rfl ?_;have g1:=hz.origin;unfold T6 at g1;have k1:=Pt r z.origin name hr g1 hn;have k2:=Pt r z.origin star hr g1 hs;unfold U5;by_cases h1:r.name=owner
 .simp(disch:=omega)only[Ag1,h1,F8,Gt,Ad,simprocAttr]
  try simp
 .rcases Bm (Hd r z.origin name) with e1|e1
  .simp(disch:=omega)only[Ag1,h1,k1,e1,F8,Gt,Ad,simprocAttr]
   try simp
  .by_cases h2:star=[]
   .subst h2;simp(disch:=omega)only[Ag1,h1,k1,e1,F8,Gt,Ad,simprocAttr]
    try simp[h1]
   .rcases Bm (Hd r z.origin star) with e2|e2<;>simp(disch:=omega)only[Ag1,h1,h2,k1,k2,e1,e2,F8,Gt,Ad,simprocAttr]<;>simp[h1,h2]
def Vz (z:Zone) (name owner star:List UInt8) (hz:z.wf) (l:List Rec) (hw:∀r∈l,r.wf) (hl:l.length<=1000000) (hn:name.length<=9223372036854775807) (hs:star.length<=9223372036854775807):
  S Ss 1048578 [B6 l,.f Vs [.s owner,z.pv,.s name,.s star]]=some [B6 (l.filter (U5 z name owner star))]:=by
 have:=Vd l Vs [.s owner,z.pv,.s name,.s star] (fun r=> !U5 z name owner star r) hl (fun r hr=>Bp9 z name owner star r (hw r hr) hz hn hs);simpa using this
def wt {z:Zone} (hl:z.recs.length<=1000):(chainN z).length<=1000000:=by have:=Vq z (S3 z);have:=P9 z hl;rw[Ml];omega
def Bp8 (z:Zone) (name:List UInt8) (hz:z.wf) (hw:Jm z=0->∀a∈chainN z,a.wf) (hl:z.recs.length<=1000) (hn:name.length<=9223372036854775807):S Eg4 2 [z.pv,.s name]=some [B6 (neededN z name)]:=by
 refine Iz8 (N:=1) rfl ?_;have k1:=yq z hz hl;unfold neededN;by_cases h:Jm z=0
 .rw[if_pos h] at k1 ⊢;have ho:=Z4 h;have hw:=hw h;have hcl:=wt hl;have k2:=Av4 z ⟨name,43⟩ hz hl hn;have hx:=vm z ⟨name,43⟩ ho;have k3:=Og z name hz hl hn;have el:=lv z name;have k4:=Tt (encN z name) (by omega);have sl:=Cd7 (encN z name);have d1:=Vz z name name (starN (encN z name)) hz (chainN z) hw hcl hn (by omega);generalize findM z ⟨name,43⟩=x at*;have d2:=Vz z name x.owner [] hz (chainN z) hw hcl hn (by simp);have d3:=Vz z name name [] hz (chainN z) hw hcl hn (by simp);generalize chainN z=l at*;unfold S2 uj;by_cases h0:x.kind=0
  .simp(disch:=omega)only[yn,k1,k2,h0,V2,F8,Gt,EVM,EVR,Ad,simprocAttr]
   try simp
  .by_cases h4:x.kind=4
   .simp(disch:=omega)only[yn,k1,k2,h0,h4,V2,F8,Gt,EVM,EVR,Ad,simprocAttr]
    try simp
   .by_cases h3:x.kind=3
    .simp(disch:=omega)only[yn,k1,k2,h0,h4,h3,V2,F8,Gt,EVM,EVR,Ad,simprocAttr]
     try simp
    .rw[if_neg (by simp[h0,h4,h3])];by_cases h6:x.kind=6
     .rw[if_pos h6,(hx.nx h6).2,if_neg (by simp)];generalize starN (encN z name)=st at*;generalize starOk (encN z name)=so at*;generalize List.filter (U5 z name name st) l=fl at*;simp(disch:=omega)only[yn,k1,k2,k3,k4,d1,h0,h4,h3,h6,Ey,Jk,V2,F8,Gt,EVM,EVR,Ad,simprocAttr]
     .rw[if_neg h6];rcases Bm x.wild with e|e
      .rw[if_pos e];generalize List.filter (U5 z name x.owner []) l=fl at*;simp(disch:=omega)only[yn,k1,k2,d2,h0,h4,h3,h6,e,Ey,Jk,V2,F8,Gt,EVM,EVR,Ad,simprocAttr]
      .rw[if_neg (by rw[e];simp)];generalize List.filter (U5 z name name []) l=fl at*;simp(disch:=omega)only[yn,k1,k2,d3,h0,h4,h3,h6,e,Ey,Jk,V2,F8,Gt,EVM,EVR,Ad,simprocAttr]
 .rw[if_neg h] at k1 ⊢;simp(disch:=omega)only[yn,k1,V2,F8,Gt,EVM,EVR,Ad,simprocAttr]
end Go.X.G
/- Sets of records: what the program's and the reference's functions give. -/
namespace Go.X
open Go
structure SetR where
 name:List UInt8
 typ:Int
 ttl:Int
 data:List Dat
 deriving DecidableEq
def Hf (l:List Dat):PV:= .l 13 (l.map Dat.pv)
def SetR.pv (x:SetR):PV:= .a [.s x.name,.i .i64 x.typ,.i .i64 x.ttl,Hf x.data]
def Gf (l:List SetR):PV:= .l 4 (l.map SetR.pv)
def Et0:PV.l 13 []=Hf []:=rfl
def Ez3:PV.l 4 []=Gf []:=rfl
def Cr1 (x:SetR):Dw 0 x.pv=some (.s x.name):=rfl
def Cr0 (x:SetR):Dw 1 x.pv=some (.i .i64 x.typ):=rfl
def Cp9 (x:SetR):Dw 2 x.pv=some (.i .i64 x.ttl):=rfl
def Cp8 (x:SetR):Dw 3 x.pv=some (Hf x.data):=rfl
def Gy4 (x:SetR):U6 4 x.pv=some x.pv:=rfl
def Fs6 (x:SetR):Lz 0 4 x.pv=some x.pv:=rfl
def Dg3 (n:List UInt8) (t u:Int) (d:List Dat):PV.a [.s n,.i .i64 t,.i .i64 u,Hf d]=SetR.pv ⟨n,t,u,d⟩:=rfl
def Gb1 (x:SetR):(⟨x.name,x.typ,x.ttl,x.data⟩:SetR)=x:=rfl
def Gw5 (x:SetR):Kf 4 [x.pv]=some (Gf [x]):=rfl
def Gw9 (x:Dat):Kf 13 [x.pv]=some (Hf [x]):=rfl
def At5 (l:List SetR):G2 (Gf l)=some (.i .i64 (l.length:Int)):=by simp[Gf,G2]
def Em6 (l:List Dat):G2 (Hf l)=some (.i .i64 (l.length:Int)):=by simp[Hf,G2]
def Cg3 (l:List SetR):Jl (Gf l)=some (Gf l):=rfl
def Cg7 (l:List Dat):Jl (Hf l)=some (Hf l):=rfl
def Bj6 (l:List SetR) (k:IntKind) (z:Int) (h:0<=z):H6 4 (Gf l) (.i k z)=(l[z.toNat]?).map SetR.pv:=by simp[Gf,Wz _ _ _ _ h]
def Ep0 (l:List Dat) (k:IntKind) (z:Int) (h:0<=z):H6 13 (Hf l) (.i k z)=(l[z.toNat]?).map Dat.pv:=by simp[Hf,Wz _ _ _ _ h]
def Dt8 (l:List SetR) (x:SetR) (h:l.length+1<=1073741824):Jh 4 (Gf l) (Gf [x])=some (Gf (l++[x])):=by have:=Ts 4 (l.map SetR.pv) [x.pv] (by simpa using h);simpa [Gf] using this
def Ej2 (l:List Dat) (x:Dat) (h:l.length+1<=1073741824):Jh 13 (Hf l) (Hf [x])=some (Hf (l++[x])):=by have:=Ts 13 (l.map Dat.pv) [x.pv] (by simpa using h);simpa [Hf] using this
def Al5 {l:List SetR} {k:IntKind} {z:Int} {x y:SetR} {off:Nat} {vs:List PV} (h0:0<=z) (h3:l[z.toNat]? =some x) (h:O2 x.pv off vs=some y.pv):M8 4 off vs (Gf l) (.i k z)=some (Gf (l.set z.toNat y)):=by
 have h4:(l.map SetR.pv)[z.toNat]? =some x.pv:=by rw[C9,h3];rfl
 simp only[M8,Gf,h0,h4,and_self,if_true,B3,h,Cc];simp[List.map_set]
set_option linter.defProp false in
def xm:=(And.intro @Et0 (And.intro @Ez3 (And.intro @Cr1 (And.intro @Cr0 (And.intro @Cp9 (And.intro @Cp8 (And.intro @Gy4 (And.intro @Fs6 (And.intro @Dg3 (And.intro @Gb1 (And.intro @Gw5 (And.intro @Gw9 (And.intro @At5 (And.intro @Em6 (And.intro @Cg3 (And.intro @Cg7 (And.intro @Bj6 (And.intro @Ep0 (And.intro @Dt8 @Ej2)))))))))))))))))))
end Go.X
namespace Go.X.G
open Go Go.X
def addS (g:List SetR) (r:Rec):List SetR:=
 match g.getLast? with
 |some x=>if x.name=r.name∧x.typ=r.typ then g.dropLast++[⟨x.name,x.typ,if r.ttl<x.ttl then r.ttl else x.ttl,x.data++[r.data]⟩] else g++[⟨r.name,r.typ,r.ttl,[r.data]⟩]
 |none=>[⟨r.name,r.typ,r.ttl,[r.data]⟩]
def Gj3 (l:List Rec):List SetR:=l.foldl addS []
def setsR (l:List Rec):List SetR:=Gj3 (sortR l)
def S9 (g:List SetR):List Dat:=((g.getLast?).map SetR.data).getD []
def Cg0 {g:List SetR} {x:SetR} (h:g.getLast? =some x) (y:SetR):g.set (g.length - 1) y=g.dropLast++[y]:=by obtain⟨a,rfl⟩:=List.getLast?_eq_some_iff.1 h;simp
def Bw7 (g:List SetR) (r:Rec):(addS g r).length<=g.length+1:=by
 unfold addS;split
 .split
  .simp
  .simp
 .simp
def Cf9 (x:SetR) (g:List SetR) (c:Rec) (s:List Rec) (i:Nat) (p0 p2 p3:PV) (d:List Dat) (N:Nat) (hc:s[i]? =some c) (hg:g.getLast? =some x) (hl:g.length<=1000000) (hd:d.length<=1000000) (hi:i<=1000000) (hxd:x.data=d):
  Dp2.ev S N [p0,B6 s,p2,p3,.i .i64 (i:Int),Gf g,Hf d,.i .i64 (g.length:Int)]=some (.yld 1 [Gf (g.dropLast++[⟨x.name,x.typ,if c.ttl<x.ttl then c.ttl else x.ttl,d++[c.data]⟩]),Hf (d++[c.data]),.i .i64 ((i+1:Nat):Int)]):=by
 have hpos:0<g.length:=by cases g<;>simp at hg ⊢
 have e1:((g.length:Int) - 1).toNat=g.length - 1:=by omega
 have hx:g[((g.length:Int) - 1).toNat]? =some x:=by rw[e1,<-Q3];exact hg
 have hw:IntKind.i64.wrap ((g.length:Int) - 1)=(g.length:Int) - 1:=w64 (by omega) (by omega);let y:SetR:=⟨x.name,x.typ,if c.ttl<x.ttl then c.ttl else x.ttl,x.data⟩;let z:SetR:=⟨x.name,x.typ,if c.ttl<x.ttl then c.ttl else x.ttl,d++[c.data]⟩;have s1:M8 4 2 [.i .i64 (if c.ttl<x.ttl then c.ttl else x.ttl)] (Gf g) (.i .i64 ((g.length:Int) - 1))=some (Gf (g.set (g.length - 1) y)):=by rw[<-e1];exact Al5 (by omega) hx rfl
 have hl2:(g.set (g.length - 1) y).length=g.length:=by simp
 have hx2:(g.set (g.length - 1) y)[((g.length:Int) - 1).toNat]? =some y:=by rw[e1,M0 (by omega)]
 have s2:M8 4 3 [Hf (d++[c.data])] (Gf (g.set (g.length - 1) y)) (.i .i64 ((g.length:Int) - 1))=some (Gf (g.dropLast++[z])):=by rw[Al5 (x:=y) (y:=z) (by omega) hx2 rfl,e1,List.set_set,Cg0 hg]
 have hmn:El5 (.i .i64 x.ttl) (.i .i64 c.ttl)=some (.i .i64 (if c.ttl<x.ttl then c.ttl else x.ttl)):=by simp[El5]
 have hy3:Dw 3 y.pv=some (Hf x.data):=rfl;have i1:H6 4 (Gf (g.set (g.length - 1) y)) (.i .i64 ((g.length:Int) - 1))=some y.pv:=by rw[Bj6 _ _ _ (by omega),hx2];rfl
 have n1:G2 (Gf (g.set (g.length - 1) y))=some (.i .i64 (g.length:Int)):=by rw[At5,hl2]
 generalize hG:Gf (g.set (g.length - 1) y)=G at*;generalize hY:y.pv=Y at*;simp(disch:=omega)only[yp,hc,hx,hw,hmn,s1,s2,i1,n1,hy3,xm,Af,simprocAttr]
 try rfl
structure SetsIn (g:List SetR) (i:Nat):Prop where
 len:g.length<=i
 each:∀x∈g,x.data.length<=i
def Gl2 {g:List SetR} {i:Nat} (h:SetsIn g i) (c:Rec):SetsIn (addS g c) (i+1):=by
 refine⟨Dt (Bw7 g c) (by have:=h.len;omega),fun x hx=> ?_⟩;unfold addS at hx;split at hx
 .rename_i y hy;have hym:y∈g:=Rn hy;split at hx
  .rcases Cn.1 hx with hx|hx
   .have:=h.each x (List.dropLast_subset _ hx);omega
   .rw[C0.1 hx];have:=h.each y hym;simp;omega
  .rcases Cn.1 hx with hx|hx
   .have:=h.each x hx;omega
   .rw[C0.1 hx];simp
 .rw[C0.1 hx];simp
def ew (g:List SetR) (c:Rec):S9 (addS g c)=match g.getLast? with
  |some x=>if x.name=c.name∧x.typ=c.typ then x.data++[c.data] else [c.data]
  |none=>[c.data]:=by
 unfold addS S9;split
 .split<;>simp
 .simp
def Ah9:∀(l acc:List Rec),(l.foldl (fun a x=>bz x a) acc).length<=acc.length+l.length
 |[],acc=>by simp
 |x::l,acc=>by have h1:=Ah9 l (bz x acc);have h2:=Bj5 x acc;simp only[nd,Cy];omega
def Ah8 (l:List Rec):(sortR l).length<=l.length:=by simpa [sortR] using Ah9 l []
def Fk7 (l:List Rec) (hw:∀r∈l,r.wf) (hl:l.length<=100000):S Eg6 1 [B6 l]=some [Gf (setsR l)]:=by
 have hs:=Bx0 l hw (by omega);have hsl:(sortR l).length<=1000000:=by have:=Ah8 l;omega
 generalize hsd:sortR l=s at*;obtain⟨N,hN⟩:∃N,N=s.length+1:=⟨_,rfl⟩;refine Ib1 (N:=N) rfl ?_;have key:Fy3.ev S N [B6 l,B6 s]=some (.yld 0 [Gf (s.foldl addS []),Hf (S9 (s.foldl addS []))]):=by
  refine E7 s (fun i (g:List SetR)=>[Gf g,Hf (S9 g),.i .i64 (i:Int)]) (fun i g r=> .yld 0 [Gf (r.foldl addS g),Hf (S9 (r.foldl addS g))]) (fun i g=>SetsIn g i) [] rfl ⟨B7 _,fun x hx=>by cases hx⟩ (by omega) (fun i g c r hd hi hc hI=> ?_) (fun g hI=> ?_)
  .left;refine⟨addS g c,?_,Gl2 hI c,rfl⟩;have hgl:=hI.len;have hilt:(i:Int)<(s.length:Int):=by omega
   cases hg:g.getLast? with
   |none=>
    have hg0:g=[]:=List.getLast?_eq_none_iff.1 hg;subst hg0;have k:=Cf9 ⟨c.name,c.typ,c.ttl,[]⟩ [⟨c.name,c.typ,c.ttl,[]⟩] c s i (B6 l) (Gf []) (Hf (S9 [])) [] N hc rfl (by simp) (by simp) (by omega) rfl;have e1:(([⟨c.name,c.typ,c.ttl,[]⟩]:List SetR).length:Int)=1:=rfl;have e2:([⟨c.name,c.typ,c.ttl,[]⟩]:List SetR).dropLast++[⟨c.name,c.typ,if c.ttl<c.ttl then c.ttl else c.ttl,[]++[c.data]⟩]=addS [] c:=by simp[addS]
    have e3:([]++[c.data]:List Dat)=S9 (addS [] c):=by simp[addS,S9]
    rw[e1,e2,e3] at k;generalize addS [] c=G at*;simp(disch:=omega)only[yp,hc,hilt,k,xm,Af,simprocAttr]
   |some x=>
    have hpos:0<g.length:=by cases g<;>simp at hg ⊢
    have hx:g[((g.length:Int) - 1).toNat]? =some x:=by rw[show ((g.length:Int) - 1).toNat=g.length - 1 by omega,<-Q3];exact hg
    have hxm:x∈g:=Rn hg;have hxd:=hI.each x hxm;have hn0:¬(g.length:Int)=0:=by omega
    have hld:S9 g=x.data:=by simp[S9,hg]
    by_cases hk:x.name=c.name∧x.typ=c.typ
    .have k:=Cf9 x g c s i (B6 l) (Gf g) (Hf (S9 g)) x.data N hc hg (by omega) (by omega) (by omega) rfl;have e2:g.dropLast++[⟨x.name,x.typ,if c.ttl<x.ttl then c.ttl else x.ttl,x.data++[c.data]⟩]=addS g c:=by simp[addS,hg,hk]
     have e3:x.data++[c.data]=S9 (addS g c):=by rw[ew,hg];simp[hk]
     rw[e2,e3,hld] at k;rw[hld];generalize addS g c=G at*;simp(disch:=omega)only[yp,hc,hilt,hx,hn0,hk.1,hk.2,k,xm,Af,simprocAttr]
    .have k:=Cf9 ⟨c.name,c.typ,c.ttl,[]⟩ (g++[⟨c.name,c.typ,c.ttl,[]⟩]) c s i (B6 l) (Gf g) (Hf (S9 g)) [] N hc (by simp) (by simp;omega) (by simp) (by omega) rfl;have e1:((g++[⟨c.name,c.typ,c.ttl,[]⟩]:List SetR).length:Int)=(g.length:Int)+1:=by simp
     have e2:(g++[⟨c.name,c.typ,c.ttl,[]⟩]:List SetR).dropLast++[⟨c.name,c.typ,if c.ttl<c.ttl then c.ttl else c.ttl,[]++[c.data]⟩]=addS g c:=by simp[addS,hg,hk]
     have e3:([]++[c.data]:List Dat)=S9 (addS g c):=by rw[ew,hg];simp[hk]
     rw[e1,e2,e3,hld] at k;rw[hld];generalize addS g c=G at*;by_cases h1:x.name=c.name
     .have h2:¬x.typ=c.typ:=fun h=>hk ⟨h1,h⟩;simp(disch:=omega)only[yp,hc,hilt,hx,hn0,h1,h2,k,xm,Af,simprocAttr]
     .simp(disch:=omega)only[yp,hc,hilt,hx,hn0,h1,k,xm,Af,simprocAttr]
  .simp(disch:=omega)only[yp,xm,Af,simprocAttr];simp[Out.goes]
 simp(disch:=omega)only[yp,hs,key,xm,Af,simprocAttr];simp[setsR,Gj3,hsd]
end Go.X.G
namespace Go.X.G
open Go Go.X
def covR (z:Zone) (n:List UInt8) (t:Int):List Rec:=z.recs.filter fun r=>decide (r.name=n) && decide (r.typ=46) && decide (r.data.a=t)
def Dl7 (z:Zone) (n:List UInt8) (t:Int):(findR z.recs n 46).filter (fun r=> !decide (r.data.a≠t))=covR z n t:=by unfold findR covR;rw[List.filter_filter];refine List.filter_congr fun r _=> ?_;unfold isK;by_cases h1:r.name=n<;>by_cases h2:r.typ=46<;>by_cases h3:r.data.a=t<;>simp[h1,h2,h3]
def lm (z:Zone) (n:List UInt8) (t:Int):(covR z n t).length<=z.recs.length:=D4 _ _
def sigsOf (z:Zone) (n:List UInt8) (t:Int):List Rec:=
 if under n z.origin=false∨exB z n=true then covR z n t
 else if starOk (encN z n)=true then(covR z (starN (encN z n)) t).map (P5 n) else []
def Uf (z:Zone) (n:List UInt8) (t:Int):(sigsOf z n t).length<=z.recs.length:=by
 unfold sigsOf;split
 .exact lm z n t
 .split
  .rw[E9];exact lm z _ t
  .simp
def Br8 (z:Zone) (x:SetR):List Rec:=if x.typ=46 then [] else sigsOf z x.name x.typ
def sigsR (z:Zone) (l:List Rec):List Rec:=(setsR l).flatMap (Br8 z)
def Ez2 (r:Rec) (t:Int):S s4 1 [r.pv,.i .i64 t]=some [.b (decide (r.data.a≠t))]:=by refine Hw4 (N:=1) rfl ?_;by_cases h:r.data.a=t<;>simp(disch:=omega)only[Gp2,h,Ad,simprocAttr]<;>simp
def Al1 (z:Zone) (n:List UInt8) (t:Int) (hl:z.recs.length<=1000):S td 3 [z.pv,.s n,.i .i64 t]=some [B6 (covR z n t)]:=by refine Hz4 (N:=1) rfl ?_;have k1:=J2 z n 46 (by omega);have hl2:=Hl z n 46;have k2:=P0 (findR z.recs n 46) (by omega);have k3:=Vd (findR z.recs n 46) s4 [.i .i64 t] (fun r=>decide (r.data.a≠t)) (by omega) (fun r _=>Ez2 r t);rw[Dl7] at k3;generalize findR z.recs n 46=fl at*;generalize covR z n t=cv at*;simp(disch:=omega)only[Gr1,k1,k2,k3,Ey,Jk,Ad,simprocAttr]
def Il0 (z:Zone) (x:SetR) (l:List Rec) (p2 p3 p4 p5 p6 p7:PV) (N:Nat) (hN:l.length<N) (hl:l.length<=1000000):
  Fy2.ev S N [z.pv,x.pv,p2,p3,p4,p5,p6,p7,B6 l]=some (.yld 0 [B6 (l.map (P5 x.name))]):=by
 refine E7 l (fun i (g:List Rec)=>[B6 g,.i .i64 (i:Int)]) (fun i g r=> .yld 0 [B6 (l.map (P5 x.name))]) (fun i g=>g=(l.take i).map (P5 x.name)++l.drop i) l rfl (by simp) hN (fun i g c r hd hi hc hI=> ?_) (fun g hI=> ?_)
 .left;obtain⟨h1,h2,h3⟩:=Am2 l x.name i c r g hd hi hc hI;refine⟨g.set i {c with name:=x.name},?_,h3,rfl⟩;have hs:M8 16 0 [.s x.name] (B6 g) (.i .i64 (i:Int))=some (B6 (g.set i {c with name:=x.name})):=by have:=pp g .i64 (i:Int) x.name c (by omega) (by rw[Fq];exact h1);rwa[Fq] at this
  have hil:(i:Int)<(l.length:Int):=by omega
  generalize g.set i {c with name:=x.name}=g' at*;simp(disch:=omega)only[Bx3,h1,hs,hil,xm,Ad,simprocAttr]
 .have e:g=l.map (P5 x.name):=by rw[hI];simp
  rw[<-e];simp(disch:=omega)only[Bx3,Nt,xm,Ad,simprocAttr]
  try simp[Out.goes]
def Ih9 (z:Zone) (x:SetR) (hz:z.wf) (hl:z.recs.length<=1000) (hn:x.name.length<=9223372036854775807):S Eg5 2 [z.pv,x.pv]=some [B6 (sigsOf z x.name x.typ)]:=by
 refine Ib0 (N:=2000) rfl ?_;have g1:=hz.origin;unfold T6 at g1;have k1:=Fl x.name z.origin hn g1;have k2:=cr z x.name hz hl;have k3:=Og z x.name hz hl hn;have el:=lv z x.name;have k4:=Tt (encN z x.name) (by omega);have k5:=Al1 z x.name x.typ hl;have k6:=Al1 z (starN (encN z x.name)) x.typ hl;have cl:=lm z (starN (encN z x.name)) x.typ;have k7:=fun p2 p3 p4 p5 p6 p7=>Il0 z x (covR z (starN (encN z x.name)) x.typ) p2 p3 p4 p5 p6 p7 2000 (by omega) (by omega);unfold sigsOf;generalize covR z (starN (encN z x.name)) x.typ=cs at*;generalize covR z x.name x.typ=cn at*;rcases Bm (under x.name z.origin) with h1|h1
 .rcases Bm (exB z x.name) with h2|h2
  .rw[if_pos (.inr h2)];simp(disch:=omega)only[Bx3,k1,k2,k5,h1,h2,xm,Ad,simprocAttr]
  .rw[if_neg (by simp[h1,h2])];generalize starN (encN z x.name)=st at*;rcases Bm (starOk (encN z x.name)) with h3|h3
   .rw[if_pos h3];generalize cs.map (P5 x.name)=cm at*;simp(disch:=omega)only[Bx3,k1,k2,k3,k4,k6,k7,h1,h2,h3,xm,Ad,simprocAttr]
   .rw[if_neg (by simp[h3])];simp(disch:=omega)only[Bx3,k1,k2,k3,k4,h1,h2,h3,xm,Ad,simprocAttr]
 .rw[if_pos (.inl h1)];simp(disch:=omega)only[Bx3,k1,k5,h1,xm,Ad,simprocAttr]
def Al4:∀(l:List Rec) (g:List SetR),(l.foldl addS g).length<=g.length+l.length
 |[],_=>B7 _
 |r::l,g=>by have h1:=Al4 l (addS g r);have h2:=Bw7 g r;rw[nd,Cy];omega
def Al3 (l:List Rec):(setsR l).length<=l.length:=by have h1:=Al4 (sortR l) [];have h2:=Ah8 l;unfold setsR Gj3;rw[C3] at h1;omega
def Gl1 {P:List UInt8->Prop} {g:List SetR} {r:Rec} (hg:∀x∈g,P x.name) (hr:P r.name):∀x∈addS g r,P x.name:=by
 intro x hx;unfold addS at hx;split at hx
 .rename_i y hy;split at hx
  .rcases Cn.1 hx with h|h
   .exact hg x (List.dropLast_subset _ h)
   .rw[C0.1 h];exact hg y (Rn hy)
  .rcases Cn.1 hx with h|h
   .exact hg x h
   .rw[C0.1 h];exact hr
 .rw[C0.1 hx];exact hr
def ir {P:List UInt8->Prop}:∀(l:List Rec) (g:List SetR),(∀x∈g,P x.name)->(∀r∈l,P r.name)->∀x∈l.foldl addS g,P x.name
 |[],_,hg,_=>hg
 |r::l,g,hg,hl=>ir l (addS g r) (Gl1 hg (hl r (.head _))) (fun y hy=>hl y (.tail _ hy))
def Al2 (l:List Rec) (hw:∀r∈l,r.wf):∀x∈setsR l,x.name.length<=9223372036854775807:=
 ir (P:=fun n=>n.length<=9223372036854775807) (sortR l) [] (by simp) (fun r hr=>by have:=(hw r (((Ud l).2 r).1 hr).mem).name;unfold T6 at this;exact this)
def Xz (z:Zone) (l:List Rec) (hz:z.wf) (hl:z.recs.length<=60) (hw:∀r∈l,r.wf) (hll:l.length<=100000):S Bg7 2 [z.pv,B6 l]=some [B6 (sigsR z l)]:=by
 have k1:=Fk7 l hw (by omega);have hn:=Al2 l hw;have hs:=Al3 l;unfold sigsR;generalize setsR l=s at*;refine If6 (N:=s.length+1) rfl ?_;have key:Fb0.ev S (s.length+1) [z.pv,B6 l,Gf s]=some (.yld 0 [B6 ([]++s.flatMap (Br8 z))]):=by
  refine E7 s (fun i (g:List Rec)=>[B6 g,.i .i64 (i:Int)]) (fun i g r=> .yld 0 [B6 (g++r.flatMap (Br8 z))]) (fun i g=>g.length<=i*60) [] rfl (Df _) (by omega) (fun i g c r hd hi hc hI=> ?_) (fun g hI=> ?_)
  .left;refine⟨g++Br8 z c,?_,?_,by rw[Gj,Cv]⟩
   .have ko:=Ih9 z c hz (by omega) (hn c (Cq hc));have sl:=Uf z c.name c.typ;have hil:(i:Int)<(s.length:Int):=by omega
    unfold Br8;generalize sigsOf z c.name c.typ=so at*;by_cases h:c.typ=46
    .rw[if_pos h,Fj];simp(disch:=omega)only[Ew5,hc,hil,h,xm,Ad,simprocAttr]
    .rw[if_neg h];simp(disch:=omega)only[Ew5,hc,hil,h,ko,xm,Ad,simprocAttr]
   .have sl:=Uf z c.name c.typ;unfold Br8;rw[Bt];split
    .exact Dt hI (C4 _ (Nat.le_succ i))
    .omega
  .simp(disch:=omega)only[Ew5,Nt,xm,Ad,simprocAttr];simp[Out.goes]
 rw[Dc] at key;generalize s.flatMap (Br8 z)=out at*;simp(disch:=omega)only[Ew5,k1,key,xm,Ad,simprocAttr]
def Ks (z:Zone) (l:List Rec) (hl:z.recs.length<=60):(sigsR z l).length<=l.length*60:=by
 have h:∀s:List SetR,(s.flatMap (Br8 z)).length<=s.length*60:=fun s=>by
  induction s with
  |nil=>simp
  |cons x s ih=>
   rw[Gj,Bt,Cy];have:(Br8 z x).length<=60:=by
    unfold Br8;split
    .simp
    .exact Dt (Uf z _ _) hl
   omega
 have h1:=h (setsR l);have h2:=Al3 l;unfold sigsR;omega
def Cf5 (z:Zone) (l:List Rec) (hl:z.recs.length<=60) (hll:l.length<=16000):(sigsR z l).length<=960000:=by have:=Ks z l hl;omega
def Jv:Zone:=⟨[120,46],[⟨[120,46],2,9,⟨false,0,0,[110,46],[],[],0,0,0,0,0,0,0⟩⟩,
 ⟨[120,46],6,9,⟨false,0,0,[110,46],[109,46],[],3,0,0,0,5,0,0⟩⟩,
 ⟨[120,46],47,5,⟨false,0,0,[42,46,120,46],[],[],0,0,0,0,0,0,211106232533060⟩⟩,
 ⟨[42,46,120,46],1,9,⟨false,0,1,[],[],[],0,0,0,0,0,0,0⟩⟩,
 ⟨[42,46,120,46],46,9,⟨false,0,0,[120,46],[],[115],1,1,9,9,0,0,0⟩⟩,
 ⟨[42,46,120,46],47,5,⟨false,0,0,[120,46],[],[],0,0,0,0,0,0,211106232532994⟩⟩]⟩
def Hk0:Rec:=⟨[97,46,120,46],46,9,⟨false,0,0,[120,46],[],[115],1,1,9,9,0,0,0⟩⟩
def zm:S Gv2 0 []=some [Jv.pv]:=(Q8 ext_mono).2 ⟨3,by kernel_rfl⟩
def Ez0:Jv.wf:=by refine⟨by unfold T6;decide,by decide,fun r hr=> ?_⟩;simp only[Jv,Cj,List.mem_nil_iff,or_false] at hr;rcases hr with rfl|rfl|rfl|rfl|rfl|rfl<;>(constructor<;>(try constructor))<;>simp[Eq4,T8,T6]
def Ek2 (l:List Rec) (x:Rec) (hl:l.length<=100000000):∃k:Int,(0<=k↔x∈l)∧S Ar9 2 [B6 l,x.pv]=some [.i .i64 k]:=by
 have key:Dc8.ev S (l.length+1) [B6 l,x.pv]=some (match l.findIdx? (·=x) with|some j=> .ret [.i .i64 ((0+j:Nat):Int)]|none=> .yld 0 []):=by
  refine Gx l (fun i=>[.i .i64 (i:Int)]) (fun i r=>match r.findIdx? (·=x) with|some j=> .ret [.i .i64 ((i+j:Nat):Int)]|none=> .yld 0 []) rfl (by omega) (fun i c r hd hi hc=> ?_) ?_
  .by_cases h:x=c
   .right;subst h;simp(disch:=omega)only[oz,hc,Ad,simprocAttr];simp[Od,Out.goes]
   .left;have h':¬c=x:=fun e=>h e.symm;simp(disch:=omega)only[oz,hc,h,Ad,simprocAttr];refine⟨trivial,?_⟩;simp only[Od,h',decide_false,B5,if_false];cases r.findIdx? (·=x) with
    |none=>rfl
    |some j=>simp;omega
  .simp(disch:=omega)only[oz,Ad,simprocAttr];simp[Out.goes]
 cases h:l.findIdx? (·=x) with
 |none=>
  rw[h] at key;refine⟨-1,⟨fun q=>by omega,fun q=> ?_⟩,?_⟩
  .rw[List.findIdx?_eq_none_iff] at h;have:=h x q;simp at this
  .refine Fw2 (N:=l.length+1) rfl ?_;simp(disch:=omega)only[oz,key,Ad,simprocAttr]
 |some j=>
  rw[h] at key;refine⟨((0+j:Nat):Int),⟨fun _=> ?_,fun _=>by omega⟩,?_⟩
  .rw[List.findIdx?_eq_some_iff_getElem] at h;obtain⟨h1,h2,_⟩:=h;simp at h2;rw[<-h2];exact Er _
  .refine Fw2 (N:=l.length+1) rfl ?_;simp(disch:=omega)only[oz,key,Ad,simprocAttr]
def Wv (l:List Rec) (x:Rec) (hl:l.length<=100000000):S Dv6 2 [B6 l,x.pv]=some [.b (decide (x∈l))]:=by refine Iz9 (N:=1) rfl ?_;obtain⟨k,h1,h2⟩:=Ek2 l x hl;simp(disch:=omega)only[Iq3,h2,Ad,simprocAttr];simp[h1]
def outD (z:Zone) (n:List UInt8):List Rec:=(neededN z n).filter fun r=>decide (r∈z.recs)
def denialN (z:Zone) (n:List UInt8):List Rec:=outD z n++sigsR z (outD z n)
def Dv2 (z:Zone) (hl:z.recs.length<=60):(namesN z).length<=16000:=by
 have h1:=Sy (Fk2 z);have h2:∀l:List Rec,(l.flatMap fun r=>upN z.origin r.name).length<=256*l.length:=by
  intro l
  induction l with
  |nil=>simp
  |cons x r ih=>
   have:=ix z.origin x.name;rw[Gj,Bt,Cy];omega
 have h3:=h2 (z.recs.filter fun r=>under r.name z.origin && !Oz z r.name);have h4:=D4 (fun r=>under r.name z.origin && !Oz z r.name) z.recs;show (setN (Fk2 z)).length<=16000;unfold Fk2 at h1 ⊢;omega
def Bg2 {z:Zone} (n:List UInt8) (hl:z.recs.length<=60):(neededN z n).length<=16000:=by
 have h1:(chainN z).length<=16000:=by have h0:=Vq z (S3 z);have h2:=Dv2 z hl;rw[Ml];omega
 unfold neededN;split
 .split
  .simp
  .exact Dt (D4 _ _) h1
 .simp
def Bg1 {z:Zone} (hz:z.wf) (n:List UInt8):∀r∈neededN z n,r.wf:=by
 intro r hr;unfold neededN at hr;split at hr
 .split at hr
  .cases hr
  .exact Dv1 hz r (Cg.1 hr).1
 .cases hr
def Aj1 {z:Zone} (hz:z.wf) (n:List UInt8):∀r∈outD z n,r.wf:=fun r hr=>Bg1 hz n r (Cg.1 hr).1
def Br1 (z:Zone) (q:Ques) (hz:z.wf) (hl:z.recs.length<=60) (hq:q.name.length<=9223372036854775807):S Eh8 2 [z.pv,q.pv]=some [B6 (denialN z q.name)]:=by
 have k1:=Bp8 z q.name hz (fun _=>Dv1 hz) (by omega) hq;have hnl:=Bg2 q.name hl;have how:=Aj1 hz q.name;have hol:(outD z q.name).length<=16000:=Dt (D4 _ _) hnl;have k2:=Xz z (outD z q.name) hz (by omega) how (by omega);have hsl:=Cf5 z (outD z q.name) hl hol;unfold denialN;have eo:outD z q.name=(neededN z q.name).filter fun r=>decide (r∈z.recs):=rfl;generalize outD z q.name=out at*;generalize neededN z q.name=nl at*;refine If3 (N:=nl.length+1) rfl ?_;have key:Fz7.ev S (nl.length+1) [z.pv,q.pv,B6 nl]=some (.yld 0 [B6 ([]++nl.filter fun r=>decide (r∈z.recs))]):=by
  refine E7 nl (fun i (g:List Rec)=>[B6 g,.i .i64 (i:Int)]) (fun i g r=> .yld 0 [B6 (g++r.filter fun r=>decide (r∈z.recs))]) (fun i g=>g.length<=i) [] rfl (Df _) (by omega) (fun i g c r hd hi hc hI=> ?_) (fun g hI=> ?_)
  .left;have kc:=Wv z.recs c (by omega);have hil:(i:Int)<(nl.length:Int):=by omega
   by_cases h:c∈z.recs
   .refine⟨g++[c],?_,by simp;omega,by rw[F5 (by simp[h]),Cv];rfl⟩;have h':decide (c∈z.recs)=true:=by simp[h]
    rw[h'] at kc;simp(disch:=omega)only[Ew3,hc,hil,kc,Ac,simprocAttr]
   .refine⟨g,?_,by omega,by rw[List.filter_cons_of_neg (by simp[h])]⟩;have h':decide (c∈z.recs)=false:=by simp[h]
    rw[h'] at kc;simp(disch:=omega)only[Ew3,hc,hil,kc,Ac,simprocAttr]
  .simp(disch:=omega)only[Ew3,Nt,Ac,simprocAttr];simp[Out.goes]
 rw[Dc,<-eo] at key;generalize sigsR z out=sg at*;simp(disch:=omega)only[Ew3,k1,k2,key,Ac,simprocAttr]
def Il2:Rec:=⟨[120,46],47,5,⟨false,0,0,[42,46,120,46],[],[],0,0,0,0,0,0,211106232533060⟩⟩
def Dx3:Rec:=⟨[42,46,120,46],47,5,⟨false,0,0,[120,46],[],[],0,0,0,0,0,0,211106232532994⟩⟩
def zh:Jm Jv=0:=by kernel_rfl
def zg:namesN Jv=[[120,46],[42,46,120,46]]:=by unfold namesN;rw[<-rf];kernel_rfl
def Bz1:cutsN Jv=[]:=by unfold cutsN;rw[<-rf];kernel_rfl
def zl:chainN Jv=[Il2,Dx3]:=by
 have e:chain0 Jv (S3 Jv)=[Gj6 [120,46] Il2,Dx3]:=by
  unfold chain0;rw[zg];unfold Mm chBits;rw[Bz1]
  kernel_rfl
 have e2:chainN Jv=Dy0 2 0 [Gj6 [120,46] Il2,Dx3]:=by unfold chainN;rw[e];rfl
 exact e2.trans (by kernel_rfl)
def Bz0:findM Jv ⟨[97,46,120,46],43⟩=⟨5,[42,46,120,46],true,[],[]⟩:=by kernel_rfl
def By9:neededN Jv [97,46,120,46]=[Dx3]:=by
 unfold neededN;rw[if_pos zh,Bz0,zl]
 kernel_rfl
def Cf1:denialN Jv [97,46,120,46]=[Dx3]:=by
 unfold denialN outD;rw[By9]
 kernel_rfl
def yh {z:Zone} (ho:ZOk z) {r:Rec} (hr:r∈z.recs):knw r.typ=true:=by have:=ho.valid r hr;unfold T5 at this;simp only[Bp] at this;exact this.1.1.1.2
def Bt0 {z:Zone} (ho:ZOk z) {r:Rec} (hr:r∈z.recs) (h:r.typ=6):r.name=z.origin:=by have:=ho.recs r hr;unfold Um at this;simp only[Bp,Cf,H2,decide_eq_false_iff_not,ne_eq,Hp] at this;exact this.1.1.2.resolve_left (fun q=>q h)
def Bt1 {z:Zone} (ho:ZOk z) {r:Rec} (hr:r∈z.recs):Up z r=true:=by have:=ho.recs r hr;unfold Um at this;simp only[Bp] at this;exact this.2
def Ev4 {z:Zone} (ho:ZOk z) {r:Rec} (hr:r∈z.recs) (h:r.typ=2∨r.typ=39):(lbl r.name)[0]? ≠some [42]:=by intro h2;have:=Bt1 ho hr;unfold Up at this;rw[if_pos ⟨h2,h⟩] at this;cases this
def Fb5 {t:Int} (h:knw t=true):0<=t∧t<=63:=by rcases knw_cases h with rfl|rfl|rfl|rfl|rfl|rfl|rfl|rfl|rfl|rfl|rfl|rfl|rfl|rfl<;>decide
def own_bits {k:Nat} (hk:k<64):(bv ax).getLsbD k=true↔k=46∨k=47:=by
 have key:(List.range 64).all (fun k=>(bv ax).getLsbD k==(k==46||k==47))=true:=by kernel_rfl
 have:=eq_of_beq (Cr.1 key k (Fh.2 hk));rw[this];simp
def Am4 {k:Nat} (hk:k<64):(bv Eq6).getLsbD k=true↔k=2∨k=43:=by
 have key:(List.range 64).all (fun k=>(bv Eq6).getLsbD k==(k==2||k==43))=true:=by kernel_rfl
 have:=eq_of_beq (Cr.1 key k (Fh.2 hk));rw[this];simp
def Fv9 {t:Int} (h:knw t=true) {k:Nat} (hk:k<64):(bv (shO t)).getLsbD k=decide (t=(k:Int)):=by
 have key:(List.range 64).all (fun k=>(bv (shO t)).getLsbD k==decide (t=(k:Int)))=true:=by rcases knw_cases h with rfl|rfl|rfl|rfl|rfl|rfl|rfl|rfl|rfl|rfl|rfl|rfl|rfl|rfl<;>kernel_rfl
 exact eq_of_beq (Cr.1 key k (Fh.2 hk))
def Ag8 {z:Zone} (ho:ZOk z) {n:List UInt8} {k:Nat} (hk:k<64) (h2:(bv ax).getLsbD k=false):(bv (tyO z n)).getLsbD k=true↔∃r∈z.recs,r.name=n∧r.typ=(k:Int):=by
 constructor
 .intro h;unfold tyO at h;rw[Hs6,Of,Ik8,h2,Ab0] at h;have h0:(bv 0).getLsbD k=false:=by have e:bv 0=0#64:=rfl;rw[e];simp
  rw[h0] at h;simp only[I9,Bp,Dj] at h;obtain⟨⟨t,ht,hb⟩,_⟩:=h;simp only[typesR,Ev,Cg,Bp,decide_eq_true_eq] at ht;obtain⟨r,⟨hr,hn,hkn⟩,rfl⟩:=ht;rw[Fv9 hkn hk] at hb;exact⟨r,hr,hn,of_decide_eq_true hb⟩
 .rintro⟨r,hr,hn,ht⟩;have hkn:=yh ho hr;exact Cq3 hr hn hkn k (by rw[Fv9 hkn hk];simpa using ht) h2
structure IsC (z:Zone) (a:Rec):Prop where
 typ:a.typ=47
 nam:a.name∈namesN z
 hid:Oz z a.name=false
 own:∃r∈z.recs,r.name=a.name
 bits:a.data.bits=chBits z a.name
def Qd {z:Zone} {a:Rec} (h:a∈chainN z):IsC z a:=by
 obtain⟨i,hi⟩:=Et.1 h;obtain⟨b,hb,e⟩:=I6 hi;obtain⟨n,hn,ht,eb⟩:=Qf (Cq hb);have en:a.name=n:=by rw[e,Lr,eb]
 refine⟨by rw[e,Dv0,eb],by rw[en];exact hn,by rw[en];exact(rc hn).1,by rw[en];exact Ag9 ht,?_⟩;rw[en,e,An0,eb]
def Gx8 {z:Zone} {a:Rec} (ho:ZOk z) (h:IsC z a) {r:Rec} (hr:r∈z.recs) (hn:r.name=a.name) {t:Int} (ht:r.typ=t) (hc:a.name∈cutsN z->t=2∨t=43):Rm a t=true:=by
 have hkn:=yh ho hr;rw[ht] at hkn;have hrg:=Fb5 hkn;obtain⟨k,rfl⟩:∃k:Nat,t=(k:Int):=⟨t.toNat,by omega⟩;have hk:k<64:=by omega
 have key:bit (chBits z a.name) k=1:=by
  unfold chBits;rw[Bv7,if_pos];by_cases h2:(bv ax).getLsbD k=true
  .rw[h2,Bool.or_true]
  .have h2':(bv ax).getLsbD k=false:=by simpa using h2
   have h3:=(Ag8 ho hk h2').2 ⟨r,hr,hn,ht⟩;by_cases hcu:a.name∈cutsN z
   .rw[if_pos hcu,Hs7,Of,h3,(Am4 hk).2 (by have:=hc hcu;omega)];rfl
   .rw[if_neg hcu,h3];rfl
 unfold Rm;rw[h.bits,Fq,key];simp;omega
def Ep3 {z:Zone} {a:Rec} (ho:ZOk z) (h:IsC z a) {t:Int} (ht:Rm a t=true):t=46∨t=47∨((∃r∈z.recs,r.name=a.name∧r.typ=t)∧(a.name∈cutsN z->t=2∨t=43)):=by
 unfold Rm at ht;simp only[Bp,decide_eq_true_eq] at ht;obtain⟨⟨h0,h1⟩,h2⟩:=ht;obtain⟨k,rfl⟩:∃k:Nat,t=(k:Int):=⟨t.toNat,by omega⟩;have hk:k<64:=by omega
 rw[Fq,h.bits] at h2;unfold chBits at h2;rw[Bv7] at h2;by_cases h3:(bv ax).getLsbD k=true
 .rcases (own_bits hk).1 h3 with rfl|rfl
  .exact .inl rfl
  .exact .inr (.inl rfl)
 .have h3':(bv ax).getLsbD k=false:=by simpa using h3
  rw[h3',Bool.or_false] at h2;right;right;by_cases hcu:a.name∈cutsN z
  .rw[if_pos hcu,Hs7,Of] at h2;split at h2
   .rename_i h4;simp only[Bp] at h4;refine⟨(Ag8 ho hk h3').1 h4.1,fun _=> ?_⟩;have:=(Am4 hk).1 h4.2;omega
   .omega
  .rw[if_neg hcu] at h2;split at h2
   .rename_i h4;exact⟨(Ag8 ho hk h3').1 h4,fun q=>absurd q hcu⟩
   .omega
def rx {z:Zone} {a:Rec} (ho:ZOk z) (h:IsC z a) {t:Int} (h1:t≠46) (h2:t≠47) (ht:Rm a t=true):(∃r∈z.recs,r.name=a.name∧r.typ=t)∧(a.name∈cutsN z->t=2∨t=43):=
 ((Ep3 ho h ht).resolve_left h1).resolve_left h2
def inC (z:Zone) (n:List UInt8):Prop:=Oz z n=false∧∃r∈z.recs,r.name=n
def Pl (z:Zone):Prop:=∀r∈z.recs,∃x∈z.recs,x.name=r.name∧x.typ≠47∧x.typ≠46
def Ty {z:Zone} {n:List UInt8} (ho:ZOk z) (h:inC z n):under n z.origin=true:=by obtain⟨_,r,hr,rfl⟩:=h;exact ho.under hr
def Zq {z:Zone} {n:List UInt8} (ho:ZOk z) (h:inC z n):vld n=true:=(Ct.1 (Ty ho h)).1
def u9 {z:Zone} {n:List UInt8} (ho:ZOk z) (h:inC z n):n∈namesN z:=by obtain⟨h1,r,hr,rfl⟩:=h;have hu:=ho.under hr;exact(P8 z r.name).2 ⟨r,hr,hu,h1,Mw (Ct.1 hu).1,hu⟩
def Fb7 {z:Zone} {n:List UInt8} (ho:ZOk z) (h:inC z n):exB z n=true:=(L1 z n).2 ((P8 z n).1 (u9 ho h))
def Dq4 {z:Zone} (ho:ZOk z):inC z z.origin:=by obtain⟨r,hr,hn,_⟩:=ho.soaR;exact⟨fk z,r,hr,hn⟩
def Pm {z:Zone} {a:Rec} (h:a∈chainN z):inC z a.name:=⟨(Qd h).hid,(Qd h).own⟩
def Tz {z:Zone} {n:List UInt8} (ho:ZOk z) (hp:Pl z) (h:inC z n):∃a∈chainN z,a.name=n:=by
 have hn:=u9 ho h;obtain⟨h1,r,hr,rfl⟩:=h;obtain⟨x,hx,xn,x1,x2⟩:=hp r hr;have hkn:=yh ho hx;have hrg:=Fb5 hkn;obtain⟨k,hk⟩:∃k:Nat,x.typ=(k:Int):=⟨x.typ.toNat,by omega⟩;have hk64:k<64:=by omega
 have hb:(bv ax).getLsbD k=false:=by rw[Ef];intro q;have:=(own_bits hk64).1 q;omega
 have hb2:=(Ag8 ho hk64 hb).2 ⟨x,hx,xn,hk⟩;have hne:tyO z r.name≠0:=by intro e;rw[e] at hb2;have e0:bv 0=0#64:=rfl;rw[e0] at hb2;simp at hb2
 have hm:(⟨r.name,47,S3 z,⟨false,0,0,z.origin,[],[],0,0,0,0,0,0,chBits z r.name⟩⟩:Rec)∈chain0 z (S3 z):=Oc.2 ⟨r.name,hn,by unfold Mm;rw[if_neg hne]⟩;obtain⟨i,hi⟩:=Et.1 hm;exact⟨_,Cq (Vk hi),Lr _ _ _⟩
def uy {α:Type} (P:α->Prop):∀(l:List α),(∃a,l[0]? =some a∧P a)->∃i a,l[i]? =some a∧P a∧∀b,l[i+1]? =some b->¬P b
 |[],h=>by simp at h
 |a::r,h=>by
  obtain⟨a',e,ha⟩:=h;simp only[Db,Bn] at e;subst e;by_cases hr:∃b,r[0]? =some b∧P b
  .obtain⟨i,c,h1,h2,h3⟩:=uy P r hr;exact⟨i+1,c,by simpa using h1,h2,fun b hb=>h3 b (by simpa using hb)⟩
  .exact⟨0,a,by simp,ha,fun b hb hp=>hr ⟨b,by simpa using hb,hp⟩⟩
def V8 (z:Zone):(chainN z).Pairwise fun a b=>ltN a.name b.name:=by rw[E1];intro i j hi hj hij;obtain⟨a,ha,ea⟩:=I6 (B0 hi);obtain⟨b,hb,eb⟩:=I6 (B0 hj);rw[ea,eb,Lr,Lr];obtain⟨hi',ea'⟩:=Br.1 ha;obtain⟨hj',eb'⟩:=Br.1 hb;have:=E1.1 (Tm z (S3 z)) i j hi' hj' hij;rw[ea',eb'] at this;exact this
def Z5 {z:Zone} {i j:Nat} {a b:Rec} (hi:(chainN z)[i]? =some a) (hj:(chainN z)[j]? =some b) (h:ltN a.name b.name):i<j:=by
 obtain⟨hi',ea⟩:=Br.1 hi;obtain⟨hj',eb⟩:=Br.1 hj;rcases Nat.lt_trichotomy i j with q|q|q
 .exact q
 .subst q;rw[hi] at hj;cases hj;exact absurd h (to_N.irr _)
 .have:=E1.1 (V8 z) j i hj' hi' q;rw[ea,eb] at this;exact absurd this (to_N.asym h)
def Fw6 {z:Zone} {n:List UInt8} (hu:under n z.origin=true):¬ltN n z.origin:=by
 by_cases h:n=z.origin
 .rw[h];exact to_N.irr _
 .exact to_N.asym (Sk hu h)
def f9 {z:Zone} (ho:ZOk z) (hp:Pl z) {i:Nat} {a:Rec} (hi:(chainN z)[i]? =some a):
  ((chainN z)[i+1]? =none∧a.data.host=z.origin∧∀n,inC z n->¬ltN a.name n)∨
  ∃b,(chainN z)[i+1]? =some b∧a.data.host=b.name∧inC z a.data.host∧a.data.host≠z.origin∧ltN a.name a.data.host∧∀n,inC z n->ltN a.name n->¬ltN n a.data.host:=by
 have hc:=Bq8 ho;cases hb:(chainN z)[i+1]? with
 |none=>
  left;have h1:(chainN z).length<=i+1:=Q4.1 hb;have h2:=(Br.1 hi).1;have e:i=(chainN z).length - 1:=by omega
  refine⟨rfl,hc.last a (by rw[<-e];exact hi),fun n hn hl=> ?_⟩;obtain⟨c,hcm,rfl⟩:=Tz ho hp hn;obtain⟨j,hj⟩:=Et.1 hcm;have:=Z5 hi hj hl;have:=(Br.1 hj).1;omega
 |some b=>
  right;obtain⟨e,hl⟩:=hc.next i a b hi hb;have hbi:=Pm (Cq hb);have ha:=Pm (Cq hi);rw[e];refine⟨b,rfl,rfl,hbi,fun q=> ?_,hl,fun n hn h1 h2=> ?_⟩
  .rw[q] at hl;exact Fw6 (Ty ho ha) hl
  .obtain⟨c,hcm,rfl⟩:=Tz ho hp hn;obtain⟨j,hj⟩:=Et.1 hcm;have:=Z5 hi hj h1;have:=Z5 hj hb h2;omega
structure Gap (z:Zone) (a:Rec) (x:List UInt8):Prop where
 mem:a∈chainN z
 lt:ltN a.name x
 und:under x z.origin=true
 host:inC z a.data.host
 nxt:(a.data.host=z.origin∧∀n,inC z n->¬ltN a.name n)∨(a.data.host≠z.origin∧ltN x a.data.host∧∀n,inC z n->ltN a.name n->¬ltN n a.data.host)
def Hr5 {x y:List UInt8}:0<Ky x y↔ltN y x:=by
 have h1:=Gq x y;have h2:= @Jc x y;rcases to_N.tri x y with h|h|h
 .have:=h1.2 h;exact⟨fun q=>by omega,fun q=>absurd q (to_N.asym h)⟩
 .have:=h2.2 h;subst h;exact⟨fun q=>by omega,fun q=>absurd q (to_N.irr _)⟩
 .refine⟨fun _=>h,fun _=> ?_⟩;have a1:¬Ky x y<0:=fun q=>to_N.asym h (h1.1 q);have a2:Ky x y≠0:=fun q=>by rw[h2.1 q] at h;exact to_N.irr _ h
  omega
def Gd6 {z:Zone} (ho:ZOk z) (hp:Pl z) {a:Rec} {x:List UInt8} (ha:a∈chainN z):Hd a z.origin x=true↔Gap z a x∧(I7 x a.name && Ph a)=false:=by
 obtain⟨i,hi⟩:=Et.1 ha;have hn:=f9 ho hp hi;have ht:=(Qd ha).typ;have h5:(!I7 x a.name|| !Ph a)=true↔(I7 x a.name && Ph a)=false:=by cases I7 x a.name<;>cases Ph a<;>simp
 unfold Hd;simp only[Bp];rw[h5];simp only[decide_eq_true_eq,Hr5];constructor
 .rintro⟨⟨⟨⟨_,hu⟩,hl⟩,hh⟩,hb⟩;refine⟨⟨ha,hl,hu,?_,?_⟩,hb⟩
  .rcases hn with⟨_,e,f⟩|⟨b,_,e,h2,_⟩
   .rw[e];exact Dq4 ho
   .exact h2
  .rcases hn with⟨_,e,f⟩|⟨b,_,e,h2,h3,h4,f⟩
   .exact .inl ⟨e,f⟩
   .refine .inr ⟨h3,Classical.byContradiction fun q=> ?_,f⟩;have h6:0<=Ky x a.data.host:=by have:=Gq x a.data.host;exact Int.not_lt.1 fun w=>q (this.1 w)
    simp[h3,h6] at hh
 .rintro⟨⟨_,hl,hu,_,hx⟩,hb⟩;refine⟨⟨⟨⟨ht,hu⟩,hl⟩,?_⟩,hb⟩;rcases hx with⟨e,_⟩|⟨h3,h4,_⟩
  .simp[e]
  .have:=(Gq x a.data.host).2 h4;have h6:¬0<=Ky x a.data.host:=by omega
   simp[h6]
def Gy0 {z:Zone} (ho:ZOk z) (hp:Pl z) {x:List UInt8} (hu:under x z.origin=true) (hx:¬inC z x):∃a,Gap z a x:=by
 have hc:=Bq8 ho;have h0:=B0 hc.pos;obtain⟨i,a,hi,hle,hnx⟩:=uy (fun a:Rec=>¬ltN x a.name) (chainN z) ⟨_,h0,by rw[hc.first _ h0];exact Fw6 hu⟩;have ha:=Cq hi;have hl:ltN a.name x:=by
  rcases to_N.tri a.name x with q|q|q
  .exact q
  .exact absurd (q▸Pm ha) hx
  .exact absurd q hle
 have hn:=f9 ho hp hi;refine⟨a,ha,hl,hu,?_,?_⟩
 .rcases hn with⟨_,e,f⟩|⟨b,_,e,h2,_⟩
  .rw[e];exact Dq4 ho
  .exact h2
 .rcases hn with⟨_,e,f⟩|⟨b,h1,e,h2,h3,h4,f⟩
  .exact .inl ⟨e,f⟩
  .refine .inr ⟨h3,?_,f⟩;have:=hnx b h1;rw[e];exact Hp.1 this
def Zx {z:Zone} {a:Rec} {x n:List UInt8} (g:Gap z a x) (hn:inC z n) (h:ltN a.name n):ltN x a.data.host∧¬ltN n a.data.host∧ltN x n:=by
 rcases g.nxt with⟨_,f⟩|⟨h1,h2,f⟩
 .exact absurd h (f n hn)
 .have h3:=f n hn h;refine⟨h2,h3,?_⟩;rcases to_N.tri a.data.host n with q|q|q
  .exact to_N.tr _ _ _ h2 q
  .exact q▸h2
  .exact absurd q h3
def Gx9 {z:Zone} {a:Rec} {x:List UInt8} (g:Gap z a x):¬inC z x:=fun h=>to_N.irr _ (Zx g h g.lt).2.2
def Il1 {z:Zone} {x:List UInt8} (hc:cutN z x=[]) {r:Rec} (hr:r∈z.recs) (h:Em z r=true):under x r.name=false:=
 ((Pb z x z.recs [] (.inl rfl)).1 hc).2 r hr h
def Fb8 {z:Zone} {a:Rec} {x:List UInt8} (ho:ZOk z) (g:Gap z a x):exB z x=true↔I7 a.data.host x=true:=by
 constructor
 .intro h;obtain⟨r,r1,r2,r3,r4,_⟩:=(L1 z x).1 h;have hi:inC z r.name:=⟨r3,r,r1,rfl⟩;have hne:r.name≠x:=fun e=>Gx9 g (by rw[<-e];exact hi);have hl:=Sk r4 hne;obtain⟨h1,h2,_⟩:=Zx g hi (to_N.tr _ _ _ g.lt hl);have h3:=Sj (Zq ho g.host) r4 (to_N.asym h1) h2;have h4:a.data.host≠x:=fun e=>by rw[e] at h1;exact to_N.irr _ h1
  unfold I7;simp[h3,h4]
 .intro h;unfold I7 at h;simp only[Bp,decide_eq_true_eq] at h;obtain⟨h1,r,hr,hn⟩:=g.host;exact(L1 z x).2 ⟨r,hr,ho.under hr,by rw[hn];exact h1,by rw[hn];exact h.2,g.und⟩
def V7 {x b:List UInt8} (hx:vld x=true) (hb:vld b=true):under x (F9 x b)=true∧under b (F9 x b)=true∧∀d,under x d=true->under b d=true->(lbl d).length<=(lbl (F9 x b)).length:=by
 have e:F9 x b=jn ((lbl x).drop ((lbl x).length - My (lbl x) (lbl b))):=by unfold F9;rw[if_pos ⟨hx,hb⟩]
 obtain⟨v,w⟩:=Ll hx ((lbl x).length - My (lbl x) (lbl b));rw[<-e] at v w;refine⟨Ct.2 ⟨hx,v,by rw[w];exact List.drop_suffix _ _⟩,Ct.2 ⟨hb,v,by rw[w];exact(Zs _ _ _ (by omega)).2 (by omega)⟩,fun d h1 h2=> ?_⟩;obtain⟨_,_,s1⟩:=Ct.1 h1;obtain⟨_,_,s2⟩:=Ct.1 h2;have hl:=s1.length_le;have ed:lbl d=(lbl x).drop ((lbl x).length - (lbl d).length):=Fy.1 s1;have h3:=(Zs (lbl x) (lbl b) ((lbl x).length - (lbl d).length) (by omega)).1 (by rw[<-ed];exact s2);rw[w,Dy];omega
def Hh9 {n a b:List UInt8} (ha:under n a=true) (hb:under n b=true):Dy7 a<Dy7 b↔(lbl a).length<(lbl b).length:=by
 have va:=(Ct.1 ha).2.1;have vb:=(Ct.1 hb).2.1;rw[<-xw ha hb];unfold Dy7;rw[if_pos va,if_pos vb];have two:∀c:List UInt8,vld c=true->c≠[46]->2<=c.length:=fun c hc h=>by
  rcases vld_cases hc with⟨h1,_⟩|⟨h1,h2,h3,_⟩
  .exact absurd h1 h
  .have:=H8 h2 h1;rw[<-h3] at this;exact this
 have one:([46]:List UInt8).length=1:=rfl;by_cases h1:a=[46]<;>by_cases h2:b=[46]
 .rw[if_pos h1,if_pos h2,h1,h2];omega
 .have:=two b vb h2;rw[if_pos h1,if_neg h2,h1];omega
 .have:=two a va h1;rw[if_neg h1,if_pos h2,h2];omega
 .rw[if_neg h1,if_neg h2];omega
def Ep7 {z:Zone} {a:Rec} {x:List UInt8} (ho:ZOk z) (g:Gap z a x):lq a x=encN z x:=by
 have vx:=(Ct.1 g.und).1;have ia:=Pm g.mem;obtain⟨c1,c2,c3⟩:=V7 vx (Zq ho ia);obtain⟨d1,d2,d3⟩:=V7 vx (Zq ho g.host);obtain⟨_,e1,e2⟩:=Ik9 ho g.und;have hex:∀{n c:List UInt8},inC z n->under x c=true->under n c=true->(lbl z.origin).length<=(lbl c).length->(lbl c).length<=(lbl (encN z x)).length:=fun {n c} hn h1 h2 h3=>by obtain⟨_,_,s1⟩:=Ct.1 h1;obtain⟨_,vo,s2⟩:=Ct.1 g.und;have hco:under c z.origin=true:=Ct.2 ⟨(Ct.1 h1).2.1,vo,X1 s2 s1 h3⟩;obtain⟨q1,r,q2,q3⟩:=hn;exact Dh5 h1 ((L1 z c).2 ⟨r,q2,ho.under q2,by rw[q3];exact q1,by rw[q3];exact h2,hco⟩)
 have up1:=hex ia c1 c2 (c3 _ g.und (Ty ho ia));have up2:=hex g.host d1 d2 (d3 _ g.und (Ty ho g.host));have low:(lbl (encN z x)).length<=(lbl (F9 x a.name)).length∨(lbl (encN z x)).length<=(lbl (F9 x a.data.host)).length:=by
  obtain⟨r,r1,r2,r3,r4,_⟩:=(L1 z (encN z x)).1 e2;have hi:inC z r.name:=⟨r3,r,r1,rfl⟩;have le:∀{n d:List UInt8},under n d=true->¬ltN n d:=fun {n d} h=>by
   by_cases q:n=d
   .rw[q];exact to_N.irr _
   .exact to_N.asym (Sk h q)
  by_cases h:ltN a.name r.name
  .right;obtain⟨h1,h2,_⟩:=Zx g hi h;exact d3 _ e1 (Sj (Zq ho g.host) r4 (fun q=>le e1 (to_N.tr _ _ _ h1 q)) h2)
  .left;refine c3 _ e1 (Sj (Zq ho ia) e1 (fun q=> ?_) (to_N.asym g.lt));rcases to_N.tri r.name (encN z x) with w|w|w
   .exact le r4 w
   .rw[<-w] at q;exact h q
   .exact h (to_N.tr _ _ _ q w)
 have fin:∀{c:List UInt8},under x c=true->(lbl c).length<=(lbl (encN z x)).length->(lbl (encN z x)).length<=(lbl c).length->c=encN z x:=fun {c} h1 h2 h3=>by obtain⟨_,v1,s1⟩:=Ct.1 h1;obtain⟨_,v2,s2⟩:=Ct.1 e1;exact(I2 (Ct.2 ⟨v2,v1,X1 s1 s2 h2⟩) h3).symm
 unfold lq;have hl:=Hh9 c1 d1;by_cases h:Dy7 (F9 x a.name)<Dy7 (F9 x a.data.host)
 .rw[if_pos h];have:=hl.1 h;exact fin d1 up2 (by omega)
 .rw[if_neg h];have:¬(lbl (F9 x a.name)).length<(lbl (F9 x a.data.host)).length:=fun q=>h (hl.2 q);exact fin c1 up1 (by omega)
def W2 {e:List UInt8} (h:starOk e=true):vld (starN e)=true∧lbl (starN e)=[42]::lbl e:=by
 have es:starN e=Q7 e:=by unfold starN;rw[if_pos h]
 unfold starOk at h;simp only[Bp,Cf,decide_eq_false_iff_not] at h;obtain⟨⟨h1,h2⟩,h3⟩:=h;rw[es];refine⟨h3,?_⟩;have g:G9 true ([42]::lbl e)=true:=by have:=Pq (M4 h1) h2;show (Ox [42] && (!decide (([42]:List UInt8)=[42])||true) && G9 false (lbl e))=true;rw[this,Y9];simp
 have ef:Q7 e=flat ([42]::lbl e):=by
  rw[Lk];unfold Q7;rcases vld_cases h1 with⟨r1,r2⟩|⟨_,_,r3,_⟩
  .rw[if_pos r1,r2];rfl
  .have hne:e≠[46]:=fun q=>by rw[q,Jz] at r3;simp[flat] at r3
   rw[if_neg hne]
   conv=>lhs;rw[r3]
   rfl
 have hl:=H4 h3;rw[ef] at hl;have:=(Cq0 g hl).2;unfold jn at this;rw[if_neg (by simp),<-ef] at this;exact this
def Ey5 {e:List UInt8} (h:starOk e=true):under (starN e) e=true:=by
 obtain⟨h1,h2⟩:=W2 h;have hv:vld e=true:=by unfold starOk at h;simp only[Bp] at h;exact h.1.1
 exact Ct.2 ⟨h1,hv,by rw[h2];exact List.suffix_cons _ _⟩
def Ft3 {e d:List UInt8} (h:starOk e=true) (hu:under (starN e) d=true) (hne:d≠starN e):under e d=true:=by
 obtain⟨h1,h2⟩:=W2 h;have hv:vld e=true:=by unfold starOk at h;simp only[Bp] at h;exact h.1.1
 obtain⟨_,vd,s⟩:=Ct.1 hu;rw[h2,List.suffix_cons_iff] at s;rcases s with s|s
 .exact absurd (Nb vd h1 (by rw[s,h2])) hne
 .exact Ct.2 ⟨hv,vd,s⟩
def Ft4 {x e:List UInt8} (hu:under x e=true) (hne:x≠e):starOk e=true:=by
 obtain⟨vx,ve,s⟩:=Ct.1 hu;have hlt:(lbl e).length<(lbl x).length:=by
  rcases Nat.lt_or_ge (lbl e).length (lbl x).length with h|h
  .exact h
  .exact absurd (I2 hu h) hne
 have ed:lbl e=(lbl x).drop ((lbl x).length - (lbl e).length):=Fy.1 s;obtain⟨k,hk⟩:∃k,(lbl x).length - (lbl e).length=k+1:=⟨(lbl x).length - (lbl e).length - 1,by omega⟩;rw[hk] at ed;have gx:=M4 vx;have h2:(lbl e)[0]? ≠some [42]:=by
  intro q;have:=gx;rw[<-C7 (k+1) (lbl x),Mc,<-ed] at this;simp only[Bp] at this;have h3:((lbl x).take (k+1)).isEmpty=false:=by
   cases hx:lbl x with
   |nil=>rw[hx] at hlt;simp at hlt
   |cons p r=>simp
  rw[h3] at this;cases he:lbl e with
  |nil=>rw[he] at q;simp at q
  |cons p r=>
   rw[he] at q this;simp only[Db,Bn] at q;subst q;simp[G9] at this
 unfold starOk;simp only[Bp,Cf,decide_eq_false_iff_not];refine⟨⟨ve,h2⟩,?_⟩;have g:G9 true ([42]::lbl e)=true:=by have:=Pq (M4 ve) h2;show (Ox [42] && (!decide (([42]:List UInt8)=[42])||true) && G9 false (lbl e))=true;rw[this,Y9];simp
 have hlen:(flat ([42]::lbl e)).length<=254:=by
  rcases vld_cases vx with⟨_,r2⟩|⟨r1,_,r3,r4⟩
  .rw[r2] at hlt;simp at hlt
  .have e1:flat (lbl x)=flat ((lbl x).take (k+1))++flat (lbl e):=by rw[ed,<-Ng,C7]
   have h4:2<=(flat ((lbl x).take (k+1))).length:=by
    refine H8 ?_ ?_
    .have:=gx;rw[<-C7 (k+1) (lbl x),Mc] at this;simp only[Bp] at this;exact this.1
    .intro q;have:=congrArg List.length q;rw[Cw] at this;simp only[C3] at this;omega
   have h5:=congrArg List.length e1;rw[Bt,<-r3] at h5;rw[Lk];simp only[Bt,Cy,C3];omega
 have hv:=(Cq0 g hlen).1;have ef:Q7 e=jn ([42]::lbl e):=by
  unfold jn;rw[if_neg (by simp),Lk];unfold Q7;rcases vld_cases ve with⟨r1,r2⟩|⟨r0,_,r3,_⟩
  .rw[if_pos r1,r2];rfl
  .have hne:e≠[46]:=fun q=>r0 (by rw[q];exact Jz);rw[if_neg hne]
   conv=>lhs;rw[r3]
   rfl
 rw[ef];exact hv
def Eq7 (z:Zone) (q:Ques):Prop:=under q.name z.origin=true∧(cutN z q.name=[]∨(cutN z q.name=q.name∧q.typ=43))∧jj z q.name=none
def Er8 {z:Zone} {q:Ques} (h:Eq7 z q):findM z q=if exB z q.name=true then {saysM (allR z q.name) q.typ with owner:=q.name} else(R7 z q).getD ⟨6,q.name,false,[],[]⟩:=by obtain⟨h1,h2,h3⟩:=h;unfold findM;rw[if_pos h1,if_neg (by rintro⟨a,b⟩;rcases h2 with c|⟨c,d⟩;exact a c;exact b.elim (fun e=>e c) (fun e=>e d))];unfold bd;rw[h3]
def find_cases (z:Zone) (q:Ques) (ho:ZOk z):(((findM z q).kind=0∨(findM z q).kind=3∨(findM z q).kind=4)∧(findM z q).wild=false)∨Eq7 z q:=by
 by_cases h1:under q.name z.origin=true
 .by_cases h2:cutN z q.name≠[]∧(cutN z q.name≠q.name∨q.typ≠43)
  .left;unfold findM;rw[if_pos h1,if_pos h2];exact⟨.inr (.inr rfl),rfl⟩
  .cases hr:jj z q.name with
   |none=>
    right;refine⟨h1,?_,hr⟩;by_cases h3:cutN z q.name=[]
    .exact .inl h3
    .right;constructor
     .exact Classical.byContradiction fun w=>h2 ⟨h3,.inl w⟩
     .exact Classical.byContradiction fun w=>h2 ⟨h3,.inr w⟩
   |some x=>
    left;unfold findM;rw[if_pos h1,if_neg h2];unfold bd;rw[hr];simp only;unfold jj at hr;cases hr2:Cl2 z q.name with
    |none=>rw[hr2] at hr;cases hr
    |some u=>
     rw[hr2] at hr;simp only[Cc,Bn] at hr;obtain⟨r0,rest,hf⟩:=Cl1 hr2;unfold Sf at hr;rw[hf] at hr;subst hr;exact⟨.inr (.inl rfl),rfl⟩
 .left;unfold findM;rw[if_neg h1];exact⟨.inl rfl,rfl⟩
def vh {l:List Rec} {t:Int} (h:(saysM l t).kind=5):(l≠[]->t≠255)∧∀r∈l,r.typ≠t∧(r.typ=5->t=47∨t=46):=by
 rcases says_kind l t with⟨k,_⟩|⟨_,k⟩|⟨k,_⟩
 .rw[k] at h;cases h
 .have ha:Fk3 l t=none:=by
   cases e:Fk3 l t with
   |none=>rfl
   |some c=>unfold saysM at h;rw[e] at h;cases h
  unfold typedR at k;constructor
  .intro h1 h2;rw[if_pos h2] at k;exact h1 k
  .intro r hr;by_cases h2:t=255
   .rw[if_pos h2] at k;rw[k] at hr;cases hr
   .rw[if_neg h2,Hb] at k;have h3:r.typ≠t:=by simpa using k r hr
    refine⟨h3,fun h5=> ?_⟩;unfold Fk3 at ha;split at ha
    .rename_i hd;unfold Gm2 at hd;simp only[Ck,decide_eq_true_eq] at hd;omega
    .rw[Ik6] at ha;have:=ha r hr;simp[h5] at this
 .rw[k] at h;cases h
def mf {z:Zone} {n:List UInt8} {r:Rec}:r∈allR z n↔r∈z.recs∧r.name=n:=by unfold allR;rw[Cg,decide_eq_true_eq]
def Ej4 {z:Zone} {n:List UInt8}:allR z n≠[]↔∃r∈z.recs,r.name=n:=by
 constructor
 .intro h;obtain⟨r,hr⟩:=Gb _ h;exact⟨r,mf.1 hr⟩
 .rintro⟨r,hr⟩ h;have:=mf.2 hr;rw[h] at this;cases this
def xr (z:Zone) (y:List UInt8):Prop:=∀r∈z.recs,under y r.name=true->r.name≠y->Em z r=false∧r.typ≠39
def Gf1 {z:Zone} {x:List UInt8} (ho:ZOk z) (hu:under x z.origin=true) (hc:cutN z x=[]∨cutN z x=x) (hr:jj z x=none):xr z x:=by
 intro r h1 h2 h3;constructor
 .rw[Ef];intro h4;obtain⟨k1,k2⟩:=Pb z x z.recs [] (.inl rfl);by_cases h5:cutN z x=[]
  .have:=(k1 h5).2 r h1 h4;rw[h2] at this;cases this
  .obtain⟨_,_,_,k3⟩:=k2 h5;have:=k3 r h1 h4 h2;change (lbl (cutN z x)).length<=_ at this;rw[hc.resolve_left h5] at this;exact h3 (I2 h2 this).symm
 .intro h4;have h5:Cl2 z x=none:=by
   unfold jj at hr;cases e:Cl2 z x with
   |none=>rfl
   |some u=>rw[e] at hr;cases hr
  unfold Cl2 at h5;rw[Ik6] at h5;have hm:r.name∈(upN z.origin x).drop 1:=by
   obtain⟨i,hi⟩:=Et.1 ((On hu).2 ⟨h2,ho.under h1⟩);refine Et.2 ⟨i - 1,?_⟩;rw[Cl];have h7:i≠0:=fun e=>by rw[e,Q6 (by omega),j9 (Ct.1 hu).1] at hi;simp only[Bn] at hi;exact h3 hi.symm
   rw[show 1+(i - 1)=i by omega];exact hi
  have:=h5 r.name hm;unfold dnB at this;have h8:r∈findR z.recs r.name 39:=Mf.2 ⟨h1,rfl,h4⟩;have:=List.length_pos_of_mem h8;simp_all
def Am5 {z:Zone} {a:Rec} (ho:ZOk z) (h:IsC z a) (h5:a.name=z.origin):Rm a 6=true:=by obtain⟨s,s1,s2,s3⟩:=ho.soaR;exact Gx8 ho h s1 (by rw[s2,h5]) s3 (fun q=>by obtain⟨y,y1,y2,y3⟩:=(Zt z a.name).1 q;exact absurd (y3.trans h5) (Pk.1 y2).2.1)
def Dm2 {z:Zone} {a:Rec} {x:List UInt8} (ho:ZOk z) (g:Gap z a x) (hc:xr z x):(I7 x a.name && Ph a)=false:=by
 rw[Ef];intro h;simp only[Bp] at h;obtain⟨h1,h2⟩:=h;unfold I7 at h1;simp only[Bp,decide_eq_true_eq] at h1;have ic:=Qd g.mem;have cl:∀r∈z.recs,r.name=a.name->Em z r=false∧r.typ≠39:=fun r r1 r2=>hc r r1 (by rw[r2];exact h1.2) (by rw[r2];exact fun e=>h1.1 e.symm);unfold Ph at h2;simp only[Ck,Bp,Cf] at h2;rcases h2 with h2|⟨h2,h3⟩
 .obtain⟨⟨r,r1,r2,r3⟩,_⟩:=rx ho ic (by decide) (by decide) h2;exact(cl r r1 r2).2 r3
 .obtain⟨⟨r,r1,r2,r3⟩,_⟩:=rx ho ic (by decide) (by decide) h2;by_cases h5:a.name=z.origin
  .rw[Am5 ho ic h5] at h3;cases h3
  .have:Em z r=true:=Pk.2 ⟨r3,by rw[r2];exact h5,ho.under r1⟩;rw[(cl r r1 r2).1] at this;cases this
def Z3 {z:Zone} {x:List UInt8} (ho:ZOk z) (hp:Pl z) (hu:under x z.origin=true) (hn:¬inC z x) (hc:xr z x):∃a∈chainN z,Gap z a x∧Hd a z.origin x=true:=by obtain⟨a,g⟩:=Gy0 ho hp hu hn;exact⟨a,g.mem,g,(Gd6 ho hp g.mem).2 ⟨g,Dm2 ho g hc⟩⟩
def f5 {z:Zone} {x e:List UInt8} (hc:xr z x) (h1:under x e=true) (h2:x≠e) (h3:starOk e=true):xr z (starN e):=by intro r r1 r2 r3;have h4:=Ft3 h3 r2 r3;refine hc r r1 (Lm h1 h4) (fun q=> ?_);rw[q] at h4;exact h2 (Uq h1 h4)
def Dm3 {z:Zone} {x:List UInt8} (hc:xr z x):Oz z x=false:=by rw[Ef];intro h;unfold Oz at h;rw[Dj] at h;obtain⟨c,h1,h2⟩:=h;simp only[Bp,decide_eq_true_eq] at h2;have:=(hc c h1 h2.2 h2.1.2).1;rw[h2.1.1] at this;cases this
def Y3 {z:Zone} {q:Ques} (ho:ZOk z) (h:Eq7 z q):xr z q.name:=Gf1 ho h.1 (h.2.1.imp_right And.left) h.2.2
def Dh4 {z:Zone} {x:List UInt8} (ho:ZOk z) (hu:under x z.origin=true) (hex:exB z x=false):under x (encN z x)=true∧x≠encN z x∧starOk (encN z x)=true∧under (encN z x) z.origin=true:=by
 obtain⟨_,e1,e2⟩:=Ik9 ho hu;have hne:x≠encN z x:=fun e=>by rw[<-e,hex] at e2;cases e2
 exact⟨e1,hne,Ft4 e1 hne,Xk e2⟩
def Dg9 {z:Zone} {x:List UInt8} (ho:ZOk z) (hp:Pl z) {l:List Rec} (hc:xr z x) (hu:under x z.origin=true) (hex:exB z x=false) (hk:∀a∈chainN z,Hd a z.origin x=true->a∈l):starN (encN z x)∈starsN l z.origin x:=by
 have hn:¬inC z x:=fun h=>by have:=Fb7 ho h;rw[hex] at this;cases this
 obtain⟨a,ha,g,hcv⟩:=Z3 ho hp hu hn hc;obtain⟨_,_,hs,_⟩:=Dh4 ho hu hex;refine Oc.2 ⟨a,hk a ha hcv,?_⟩;unfold dw;have hb:I7 a.data.host x=false:=by rw[Ef];intro q;have:=(Fb8 ho g).2 q;rw[hex] at this;cases this
 rw[Ep7 ho g,hcv,hb,hs];rfl
def Fv4 (z:Zone) (x:List UInt8):Prop:=starOk (encN z x)=true∧allR z (starN (encN z x))≠[]
def Ck7 {z:Zone} {q:Ques} (h:Fv4 z q.name):R7 z q=some {saysM ((allR z (starN (encN z q.name))).map (P5 q.name)) q.typ with owner:=starN (encN z q.name),wild:=true}:=by unfold R7;exact if_pos h
def Ck8 {z:Zone} {q:Ques} (h:¬Fv4 z q.name):R7 z q=none:=by unfold R7;exact if_neg h
def W4 {l:List Rec} {t:Int}:(saysM l t).kind≠0∧(saysM l t).kind≠4∧(saysM l t).kind≠3∧(saysM l t).kind≠6:=by rcases says_kind l t with⟨k,_⟩|⟨k,_⟩|⟨k,_⟩<;>rw[k]<;>decide
inductive MidC (z:Zone) (q:Ques):Prop
 |here (h:exB z q.name=true) (e:findM z q={saysM (allR z q.name) q.typ with owner:=q.name})
 |wild (h:exB z q.name=false) (u:Fv4 z q.name) (e:findM z q={saysM ((allR z (starN (encN z q.name))).map (P5 q.name)) q.typ with owner:=starN (encN z q.name),wild:=true})
 |none (h:exB z q.name=false) (u:¬Fv4 z q.name) (e:findM z q=⟨6,q.name,false,[],[]⟩)
def mid_c {z:Zone} {q:Ques} (h:Eq7 z q):MidC z q:=by
 have e:=Er8 h;rcases Bm (exB z q.name) with h1|h1
 .rw[h1,if_pos rfl] at e;exact .here h1 e
 .rw[h1,if_neg (by simp)] at e;by_cases h2:Fv4 z q.name
  .rw[Ck7 h2] at e;exact .wild h1 h2 e
  .rw[Ck8 h2] at e;exact .none h1 h2 e
def jr {z:Zone} {q:Ques} (h:Eq7 z q):((findM z q).kind≠0∧(findM z q).kind≠4∧(findM z q).kind≠3)∧(exB z q.name=true->S2 (findM z q) q.name=q.name∧uj z (findM z q) q.name=[])∧(exB z q.name=false->(Fv4 z q.name->S2 (findM z q) q.name=starN (encN z q.name)∧uj z (findM z q) q.name=[])∧(¬Fv4 z q.name->S2 (findM z q) q.name=q.name∧uj z (findM z q) q.name=starN (encN z q.name))):=by
 unfold S2 uj;rcases mid_c h with⟨h1,e⟩|⟨h1,u,e⟩|⟨h1,u,e⟩
 .have s:=W4 (l:=allR z q.name) (t:=q.typ);have w:=Mx (allR z q.name) q.typ;rw[e];refine⟨⟨s.1,s.2.1,s.2.2.1⟩,fun _=>⟨?_,?_⟩,fun q2=>(by rw[h1] at q2;cases q2)⟩
  .rw[if_neg];simp only[w];simp
  .rw[if_neg];exact s.2.2.2
 .have s:=W4 (l:=(allR z (starN (encN z q.name))).map (P5 q.name)) (t:=q.typ);rw[e];refine⟨⟨s.1,s.2.1,s.2.2.1⟩,fun q2=>(by rw[h1] at q2;cases q2),fun _=>⟨fun _=>⟨?_,?_⟩,fun q2=>absurd u q2⟩⟩
  .rw[if_pos rfl]
  .rw[if_neg];exact s.2.2.2
 .rw[e];exact⟨by simp,fun q2=>(by rw[h1] at q2;cases q2),fun _=>⟨fun q2=>absurd q2 u,fun _=>⟨rfl,rfl⟩⟩⟩
def Hh8 {z:Zone} {q:Ques} (h:Eq7 z q):Eq7 z ⟨q.name,43⟩:=⟨h.1,h.2.1.imp_right (fun w=>⟨w.1,rfl⟩),h.2.2⟩
def Ef9 {z:Zone} {q:Ques} (hc:Jm z=0) (h:Eq7 z q):neededN z q.name=(chainN z).filter (U5 z q.name (S2 (findM z q) q.name) (uj z (findM z q) q.name)):=by
 obtain⟨a1,a2,a3⟩:=jr h;obtain⟨⟨b0,b4,b5⟩,b2,b3⟩:=jr (Hh8 h);unfold neededN;rw[if_pos hc,if_neg (by rintro (w|w|w);exact b0 w;exact b4 w;exact b5 w)];rcases Bm (exB z q.name) with h1|h1
 .rw[(a2 h1).1,(a2 h1).2,(b2 h1).1,(b2 h1).2]
 .by_cases u:Fv4 z q.name
  .rw[((a3 h1).1 u).1,((a3 h1).1 u).2,((b3 h1).1 u).1,((b3 h1).1 u).2]
  .rw[((a3 h1).2 u).1,((a3 h1).2 u).2,((b3 h1).2 u).1,((b3 h1).2 u).2]
def An1 {z:Zone} {n:List UInt8}:∀a∈neededN z n,a∈chainN z:=by
 intro a ha;unfold neededN at ha;split at ha
 .split at ha
  .cases ha
  .exact(Cg.1 ha).1
 .cases ha
def Ad1 (z:Zone) (q:Ques) (l:List Rec):Prop:=∀a∈chainN z,U5 z q.name (S2 (findM z q) q.name) (uj z (findM z q) q.name) a=true->a∈l
def Tw {z:Zone} {q:Ques} {l:List Rec} (h:Ad1 z q l):∀a∈chainN z,Hd a z.origin q.name=true->a∈l:=fun a ha hc=>h a ha (by unfold U5;rw[hc];simp)
def u4 {z:Zone} {q:Ques} {l:List Rec} (h:Ad1 z q l):∀a∈chainN z,a.name=S2 (findM z q) q.name->a∈l:=fun a ha hc=>h a ha (by unfold U5;simp[hc])
def Et6 {z:Zone} {q:Ques} {l:List Rec} (ho:ZOk z) (hp:Pl z) (h:(findM z q).kind=6) (hk:Ad1 z q l):Vy l z.origin q.name=true:=by
 rcases find_cases z q ho with⟨w,_⟩|hm
 .omega
 have ow:=jr hm;rcases mid_c hm with⟨h1,e⟩|⟨h1,u,e⟩|⟨h1,u,e⟩
 .rw[e] at h;exact absurd h W4.2.2.2
 .rw[e] at h;exact absurd h W4.2.2.2
 .have hc:=Y3 ho hm;have hs:=Dg9 ho hp hc hm.1 h1 (Tw hk);obtain⟨e1,e2,e3,e4⟩:=Dh4 ho hm.1 h1;have st:=((ow.2.2 h1).2 u).2;have hni:¬inC z (starN (encN z q.name)):=fun w=>u ⟨e3,Ej4.2 w.2⟩;obtain⟨b,hb,_,hcv⟩:=Z3 ho hp (Lm (Ey5 e3) e4) hni (f5 hc e1 e2 e3);have hne:starN (encN z q.name)≠[]:=ol (W2 e3).1;have hbl:b∈l:=hk b hb (by unfold U5;rw[st,hcv];simp[hne]);unfold Vy Hr6;rw[Dj];refine⟨_,hs,?_⟩;rw[Dj];exact⟨b,hbl,hcv⟩
def Et4 {z:Zone} {q:Ques} {l:List Rec} (ho:ZOk z) (hp:Pl z) (h:(findM z q).wild=true) (hk:Ad1 z q l):H9 l z.origin q.name (findM z q).owner=true:=by
 rcases find_cases z q ho with⟨_,w⟩|hm
 .rw[h] at w;cases w
 rcases mid_c hm with⟨h1,e⟩|⟨h1,u,e⟩|⟨h1,u,e⟩
 .rw[e] at h;have:=Mx (allR z q.name) q.typ;exact absurd h (by simp only[this];simp)
 .have hs:=Dg9 ho hp (Y3 ho hm) hm.1 h1 (Tw hk);rw[e];unfold H9;exact decide_eq_true hs
 .rw[e] at h;cases h
def At8 {z:Zone} {a:Rec} {t:Int} (ho:ZOk z) (h:IsC z a) (h46:t≠46) (h47:t≠47) (h255:t≠255) (hr:∀r∈z.recs,r.name=a.name->r.typ≠t∧r.typ≠5) (h6:t=43->Rm a 6=false) (h2:t≠43->Rm a 2=true->Rm a 6=true):Tj a t=true:=by
 have k1:Rm a t=false:=by rw[Ef];intro w;obtain⟨⟨r,r1,r2,r3⟩,_⟩:=rx ho h h46 h47 w;exact(hr r r1 r2).1 r3
 have k2:Rm a 5=false:=by rw[Ef];intro w;obtain⟨⟨r,r1,r2,r3⟩,_⟩:=rx ho h (by decide) (by decide) w;exact(hr r r1 r2).2 r3
 unfold Tj;rw[if_neg (by simp[h.typ,h255,k1,k2])];split
 .rename_i w;rw[h6 w];rfl
 .rename_i w;cases e2:Rm a 2 with
  |false=>simp
  |true=>rw[h2 w e2];rfl
def Et5 {z:Zone} {q:Ques} {l:List Rec} (ho:ZOk z) (hp:Pl z) (h:(findM z q).kind=5) (h46:q.typ≠46) (h47:q.typ≠47) (h43:q.typ≠43∨q.name≠z.origin) (hk:Ad1 z q l):fc l z.origin q=true:=by
 rcases find_cases z q ho with⟨w,_⟩|hm
 .omega
 have ow:=jr hm;have hc:=Y3 ho hm;unfold fc;rw[hm.1,N0,Dj];rcases mid_c hm with⟨h1,e⟩|⟨h1,u,e⟩|⟨h1,u,e⟩
 .have own:=(ow.2.1 h1).1;rw[e] at h;obtain⟨f1,f2⟩:=vh (l:=allR z q.name) (t:=q.typ) h;have hn:q.name∈namesN z:=by have:=Nl z q.name;rw[h1] at this;exact of_decide_eq_true this
  by_cases hw:∃r∈z.recs,r.name=q.name
  .have hi:inC z q.name:=⟨(rc hn).1,hw⟩;obtain⟨a,ha,an⟩:=Tz ho hp hi;have ic:=Qd ha;refine⟨a,u4 hk a ha (by rw[own,an]),?_⟩;have:Tj a q.typ=true:=by
    refine At8 ho ic h46 h47 (f1 (Ej4.2 hw)) (fun r r1 r2=> ?_) (fun t=> ?_) (fun t t2=> ?_)
    .obtain⟨g1,g2⟩:=f2 r (mf.2 ⟨r1,r2.trans an⟩);exact⟨g1,fun w=>(g2 w).elim h47 h46⟩
    .rw[Ef];intro w;obtain⟨⟨s,s1,s2,s3⟩,_⟩:=rx ho ic (by decide) (by decide) w;refine h43.elim (fun v=>v t) (fun v=>v ?_);rw[<-an,<-s2];exact Bt0 ho s1 s3
    .by_cases h5:a.name=z.origin
     .exact Am5 ho ic h5
     .exfalso;obtain⟨⟨r,r1,r2,r3⟩,_⟩:=rx ho ic (by decide) (by decide) t2;have hcu:Em z r=true:=Pk.2 ⟨r3,by rw[r2];exact h5,ho.under r1⟩;rcases hm.2.1 with w|⟨_,w⟩
      .have:=Il1 w r1 hcu;rw[r2,an,Mw (Ct.1 hm.1).1] at this;cases this
      .exact t w
   unfold Gb7;rw[this,an];simp
  .obtain⟨a,ha,g,hcv⟩:=Z3 ho hp hm.1 (fun w=>hw w.2) hc;refine⟨a,Tw hk a ha hcv,?_⟩;unfold Gb7;rw[hcv,(Fb8 ho g).1 h1];rfl
 .have own:=((ow.2.2 h1).1 u).1;rw[e] at h;obtain⟨f1,f2⟩:=vh (l:=(allR z (starN (encN z q.name))).map (P5 q.name)) (t:=q.typ) h;obtain⟨e1,e2,e3,e4⟩:=Dh4 ho hm.1 h1;have hcs:=f5 hc e1 e2 e3;have hi:inC z (starN (encN z q.name)):=⟨Dm3 hcs,Ej4.1 u.2⟩;obtain⟨a,ha,an⟩:=Tz ho hp hi;have ic:=Qd ha;have hs:=Dg9 ho hp hc hm.1 h1 (Tw hk);obtain⟨_,sl⟩:=W2 e3;refine⟨a,u4 hk a ha (by rw[own,an]),?_⟩;have:Tj a q.typ=true:=by
   refine At8 ho ic h46 h47 (f1 (by simpa using u.2)) (fun r r1 r2=> ?_) (fun t=> ?_) (fun t t2=> ?_)
   .obtain⟨g1,g2⟩:=f2 (P5 q.name r) (Ev.2 ⟨r,mf.2 ⟨r1,r2.trans an⟩,rfl⟩);exact⟨g1,fun w=>(g2 w).elim h47 h46⟩
   .rw[Ef];intro w;obtain⟨⟨s,s1,s2,s3⟩,_⟩:=rx ho ic (by decide) (by decide) w;have h5:=Bt0 ho s1 s3;rw[s2,an] at h5;obtain⟨_,_,sx⟩:=Ct.1 e4;have:=sx.length_le;rw[<-h5,sl,Cy] at this;omega
   .exfalso;obtain⟨⟨r,r1,r2,r3⟩,_⟩:=rx ho ic (by decide) (by decide) t2;have:=Ev4 ho r1 (.inl r3);rw[r2,an,sl] at this;exact this rfl
  have hx:H9 l z.origin q.name a.name=true:=by unfold H9;rw[an];exact decide_eq_true hs
  unfold Gb7;rw[this,hx];simp
 .rw[e] at h;cases h
def Bh2 {z:Zone} {q:Ques} (hc:Jm z=0) (h:Eq7 z q):Ad1 z q (neededN z q.name):=fun a ha hk=>by rw[Ef9 hc h];exact Cg.2 ⟨ha,hk⟩
end Go.X.G
/- Chains of aliases; the law LookupChases. -/
namespace Go.X
def Iy (l:List Res):PV:= .l 5 (l.map Res.pv)
def Eb2:PV.l 5 []=Iy []:=rfl
def Gw6 (x:Res):Kf 5 [x.pv]=some (Iy [x]):=rfl
def Em4 (l:List Res):G2 (Iy l)=some (.i .i64 (l.length:Int)):=by simp[Iy,G2]
def kw (l:List Res) (k:IntKind) (z:Int) (h:0<=z):H6 5 (Iy l) (.i k z)=(l[z.toNat]?).map Res.pv:=by simp[Iy,Wz _ _ _ _ h]
def Dt9 (l:List Res) (x:Res) (h:l.length+1<=1073741824):Jh 5 (Iy l) (Iy [x])=some (Iy (l++[x])):=by have:=Ts 5 (l.map Res.pv) [x.pv] (by simpa using h);simpa [Iy] using this
def Cg4 (l:List Res):Jl (Iy l)=some (Iy l):=rfl
def Cr2 (l:List Res):Dw 0 (Iy l)=some (Iy l):=rfl
set_option linter.defProp false in
def Ms:=(And.intro @Eb2 (And.intro @Gw6 (And.intro @Em4 (And.intro @kw (And.intro @Dt9 (And.intro @Cg4 @Cr2))))))
end Go.X
namespace Go.X.G
open Go Go.X
def Y5 (r:Res):Bool:=(decide (r.kind=2)||decide (r.kind=3)) && decide (r.target≠[])
def Lw (z:Zone) (t:Int):Nat->List Res->List (List UInt8)->List UInt8->List Res×Bool
 |0,out,_,_=>(out,false)
 |k+1,out,seen,n=>
  if Y5 (findM z ⟨n,t⟩)=false then(out++[findM z ⟨n,t⟩],true)
  else if out.length=8 then(out++[findM z ⟨n,t⟩],false)
  else if under (findM z ⟨n,t⟩).target z.origin=false then(out++[findM z ⟨n,t⟩],true)
  else if(findM z ⟨n,t⟩).target∈seen then(out++[findM z ⟨n,t⟩],false)
  else Lw z t k (out++[findM z ⟨n,t⟩]) (seen++[(findM z ⟨n,t⟩).target]) (findM z ⟨n,t⟩).target
def L3 (z:Zone) (t:Int) (k:Nat) (out:List Res) (seen:List (List UInt8)) (n:List UInt8):Lw z t (k+1) out seen n=
  if Y5 (findM z ⟨n,t⟩)=false then(out++[findM z ⟨n,t⟩],true)
  else if out.length=8 then(out++[findM z ⟨n,t⟩],false)
  else if under (findM z ⟨n,t⟩).target z.origin=false then(out++[findM z ⟨n,t⟩],true)
  else if(findM z ⟨n,t⟩).target∈seen then(out++[findM z ⟨n,t⟩],false)
  else Lw z t k (out++[findM z ⟨n,t⟩]) (seen++[(findM z ⟨n,t⟩).target]) (findM z ⟨n,t⟩).target:=rfl
def chaseM (z:Zone) (q:Ques):List Res×Bool:=Lw z q.typ 9 [] [q.name] q.name
def Ch8 (n top to:List UInt8):(replN n top to).1.length<=254:=by
 unfold replN;split
 .split
  .split
   .assumption
   .simp
  .simp
 .simp
def X8 (l:List Rec) (t:Int) (h:∀r∈l,r.data.host.length<=9223372036854775807):(saysM l t).target.length<=9223372036854775807:=by
 unfold saysM;cases ha:Fk3 l t with
 |some c=>
  unfold Fk3 at ha;split at ha
  .cases ha
  .exact h c (List.mem_of_find?_eq_some ha)
 |none=>simp only;split<;>simp
def Nh (z:Zone) (q:Ques) (hz:z.wf):(findM z q).target.length<=9223372036854775807:=by
 have hh:∀n,∀r∈allR z n,r.data.host.length<=9223372036854775807:=fun n r hr=>(hz.recs.2 r (Cg.1 hr).1).data.host;unfold findM;split
 .split
  .simp
  .unfold bd;cases h:jj z q.name with
   |some x=>
    show x.target.length<=9223372036854775807;unfold jj at h;cases h2:Cl2 z q.name with
    |none=>rw[h2] at h;cases h
    |some u=>
     rw[h2] at h;simp only[Cc,Bn] at h;rw[<-h];unfold Sf;split
     .rename_i r rest _;have:=Ch8 q.name u r.data.host;simp only[ib];split
      .simp
      .omega
     .simp
   |none=>
    simp only;split
    .exact X8 _ _ (hh _)
    .unfold R7;split
     .simp only[Dd];refine X8 _ _ fun r hr=> ?_;obtain⟨x,hx,rfl⟩:=Ev.1 hr;exact hh _ x hx
     .simp
 .simp
def Bq7 (z:Zone) (q:Ques) (hz:z.wf) (hl:z.recs.length<=1000) (hq:q.name.length<=9223372036854775807):S Dx0 2 [z.pv,q.pv]=some [Iy (chaseM z q).1,.b (chaseM z q).2]:=by
 refine If5 (N:=1000) rfl ?_;have g1:=hz.origin;unfold T6 at g1;have key:Fz9.ev S 1000 [z.pv,q.pv]=some (.ret [Iy (chaseM z q).1,.b (chaseM z q).2]):=by
  refine Lj (α:=List Res×List (List UInt8)×List UInt8) (fun a=>[Iy a.1,C8 a.2.1,.s a.2.2]) (fun a=> .ret [Iy (Lw z q.typ (9 - a.1.length) a.1 a.2.1 a.2.2).1,.b (Lw z q.typ (9 - a.1.length) a.1 a.2.1 a.2.2).2])
   (fun a=>a.1.length<=8∧a.2.1.length<=100∧a.2.1.length=a.1.length+1∧a.2.2.length<=9223372036854775807) (fun a=>9 - a.1.length) ([],[q.name],q.name) ?_ ⟨by simp,by simp,by simp,hq⟩ (by simp) ?_
  .simp(disch:=omega)only[EVM,EVC,EVR,Ms,Af,simprocAttr]
  .rintro⟨out,seen,n⟩ ⟨i1,i2,i3,i4⟩;simp only at i1 i2 i3 i4 ⊢;have hk:9 - out.length=(8 - out.length)+1:=by omega
   have k1:=Av4 z ⟨n,q.typ⟩ hz hl i4;have tt:=Nh z ⟨n,q.typ⟩ hz;rw[hk,L3];generalize hr:findM z ⟨n,q.typ⟩=r at*;have k2:=Fl r.target z.origin tt g1;have k3:=L6 seen r.target (by omega);rcases Bm (Y5 r) with h1|h1
   .rw[if_neg (by simp[h1])];have h1':=h1;unfold Y5 at h1';simp only[Bp,Ck,decide_eq_true_eq,ne_eq] at h1';obtain⟨h2,h3⟩:=h1';have h4:¬(r.kind≠2∧r.kind≠3):=by omega
    by_cases h5:out.length=8
    .right;rw[if_pos h5];have h6:((out++[r]).length:Int)=9:=by simp;omega
     refine⟨?_,rfl⟩;rcases h2 with h2|h2<;>simp(disch:=omega)only[oj,k1,h2,h3,h6,EVM,EVC,EVR,Ms,Af,simprocAttr]
    .rw[if_neg h5];have h6:¬((out++[r]).length:Int)=9:=by simp;omega
     rcases Bm (under r.target z.origin) with h7|h7
     .rw[if_neg (by simp[h7])];rw[h7] at k2;by_cases h8:r.target∈seen
      .right;rw[if_pos h8];refine⟨?_,rfl⟩;rcases h2 with h2|h2<;>simp(disch:=omega)only[oj,k1,k2,k3,h2,h3,h6,h8,EVM,EVC,EVR,Ms,Af,simprocAttr]
      .left;rw[if_neg h8];refine⟨(out++[r],seen++[r.target],r.target),?_,⟨by simp only[Bt,Ew];omega,by simp only[Bt,Ew];omega,by simp only[Bt,Ew];omega,tt⟩,by simp only[Bt,Ew];omega,?_⟩
       .rcases h2 with h2|h2<;>simp(disch:=omega)only[oj,k1,k2,k3,h2,h3,h6,h8,EVM,EVC,EVR,Ms,Af,simprocAttr]
       .have:9 - (out++[r]).length=8 - out.length:=by rw[Bt,Ew];omega
        simp only[this]
     .right;rw[if_pos h7];rw[h7] at k2;refine⟨?_,rfl⟩;rcases h2 with h2|h2<;>simp(disch:=omega)only[oj,k1,k2,h2,h3,h6,EVM,EVC,EVR,Ms,Af,simprocAttr]
   .right;rw[if_pos h1];unfold Y5 at h1;refine⟨?_,rfl⟩;by_cases h2:r.kind=2
    .have h3:r.target=[]:=by simpa [h2] using h1
     simp(disch:=omega)only[oj,k1,h2,h3,EVM,EVC,EVR,Ms,Af,simprocAttr]
    .by_cases h3:r.kind=3
     .have h4:r.target=[]:=by simpa [h3] using h1
      simp(disch:=omega)only[oj,k1,h3,h4,EVM,EVC,EVR,Ms,Af,simprocAttr]
     .simp(disch:=omega)only[oj,k1,h2,h3,EVM,EVC,EVR,Ms,Af,simprocAttr]
 simp(disch:=omega)only[oj,key,EVM,EVC,EVR,Ms,Af,simprocAttr]
def Mh (P:Res->Prop) (z:Zone) (t:Int) (h:∀n,P (findM z ⟨n,t⟩)):∀(k:Nat) (out:List Res) (seen:List (List UInt8)) (n:List UInt8),(∀r∈out,P r)->∀r∈(Lw z t k out seen n).1,P r
 |0,out,seen,n,ho=>ho
 |k+1,out,seen,n,ho=>by
  have ho':∀r∈out++[findM z ⟨n,t⟩],P r:=fun r hr=>by
   rcases Cn.1 hr with hr|hr
   .exact ho r hr
   .rw[C0.1 hr];exact h n
  unfold Lw;split
  .exact ho'
  .split
   .exact ho'
   .split
    .exact ho'
    .split
     .exact ho'
     .exact Mh P z t h k _ _ _ ho'
def f8 (z:Zone) (t:Int):∀(k:Nat) (out:List Res) (seen:List (List UInt8)) (n:List UInt8),(Lw z t k out seen n).1.length<=out.length+k
 |0,out,seen,n=>by simp[Lw]
 |k+1,out,seen,n=>by
  unfold Lw;have hl:(out++[findM z ⟨n,t⟩]).length=out.length+1:=by simp
  split
  .simp only;omega
  .split
   .simp only;omega
   .split
    .simp only;omega
    .split
     .simp only;omega
     .have:=f8 z t k (out++[findM z ⟨n,t⟩]) (seen++[(findM z ⟨n,t⟩).target]) (findM z ⟨n,t⟩).target;omega
end Go.X.G
namespace Go.X.G
open Go Go.X
def replyM (m:Msg) (code:Int):Msg:=⟨m.id,m.op,code,true,false,false,m.rd,false,false,m.cd,m.dok,if m.size≠0 then 1232 else 0,m.q,[],[],[]⟩
def Ch7 (m:Msg) (code:Int):S Ak1 2 [m.pv,.i .i64 code]=some [(replyM m code).pv]:=by
 refine Id1 (N:=1) rfl ?_;unfold replyM;by_cases h:m.size=0
 .simp(disch:=omega)only[Gn3,h,EVM,EVC,EVR,Af,simprocAttr]
  try simp
 .simp(disch:=omega)only[Gn3,h,EVM,EVC,EVR,Af,simprocAttr]
  try simp
def Iy0 (t:Int):Bool:=decide (t=2)||decide (t=15)||decide (t=33)
def hostsF (out:List (List UInt8)):List Rec->List (List UInt8)
 |[]=>out
 |r::rs=>if Iy0 r.typ=true∧r.data.host∉out then hostsF (out++[r.data.host]) rs else hostsF out rs
def Qy:∀(l:List Rec) (out:List (List UInt8)),(hostsF out l).length<=out.length+l.length
 |[],out=>by simp[hostsF]
 |r::rs,out=>by
  simp only[hostsF];split
  .have:=Qy rs (out++[r.data.host]);rw[Bt,Ew] at this;rw[Cy];omega
  .have:=Qy rs out;rw[Cy];omega
def Rw:∀(l:List Rec) (out:List (List UInt8)),(∀r∈l,r.wf)->(∀h∈out,h.length<=9223372036854775807)->∀h∈hostsF out l,h.length<=9223372036854775807
 |[],out,_,ho=>ho
 |r::rs,out,hl,ho=>by
  simp only[hostsF];split
  .refine Rw rs _ (fun x hx=>hl x (.tail _ hx)) fun h hh=> ?_;rcases Cn.1 hh with hh|hh
   .exact ho h hh
   .rw[C0.1 hh];exact(hl r (.head _)).data.host
  .exact Rw rs _ (fun x hx=>hl x (.tail _ hx)) ho
def Df8 (l:List Rec) (hl:l.length<=1000):S Dw8 1 [B6 l]=some [C8 (hostsF [] l)]:=by
 refine Ic9 (N:=2000) rfl ?_;have key:Fz1.ev S 2000 [B6 l]=some (.yld 0 [C8 (hostsF [] l)]):=by
  refine E7 l (fun i (g:List (List UInt8))=>[C8 g,.i .i64 (i:Int)]) (fun i g r=> .yld 0 [C8 (hostsF g r)]) (fun i g=>g.length<=i) [] rfl (Df _) (by omega) (fun i g c r hd hi hc hI=> ?_) (fun g hI=> ?_)
  .left;have k1:=L6 g c.data.host (by omega);refine⟨if Iy0 c.typ=true∧c.data.host∉g then g++[c.data.host] else g,?_,by split<;>(try rw[Bt,Ew])<;>omega,?_⟩
   .unfold Iy0;by_cases h4:c.data.host∈g
    .by_cases h1:c.typ=2
     .simp(disch:=omega)only[ah,hc,h1,h4,k1,EVM,EVC,EVR,Af,simprocAttr];simp
     .by_cases h2:c.typ=15
      .simp(disch:=omega)only[ah,hc,h2,h4,k1,EVM,EVC,EVR,Af,simprocAttr];simp
      .by_cases h3:c.typ=33
       .simp(disch:=omega)only[ah,hc,h3,h4,k1,EVM,EVC,EVR,Af,simprocAttr];simp
       .simp(disch:=omega)only[ah,hc,h1,h2,h3,k1,EVM,EVC,EVR,Af,simprocAttr];simp[h4]
    .by_cases h1:c.typ=2
     .simp(disch:=omega)only[ah,hc,h1,h4,k1,EVM,EVC,EVR,Af,simprocAttr];simp
     .by_cases h2:c.typ=15
      .simp(disch:=omega)only[ah,hc,h2,h4,k1,EVM,EVC,EVR,Af,simprocAttr];simp
      .by_cases h3:c.typ=33
       .simp(disch:=omega)only[ah,hc,h3,h4,k1,EVM,EVC,EVR,Af,simprocAttr];simp
       .simp(disch:=omega)only[ah,hc,h1,h2,h3,k1,EVM,EVC,EVR,Af,simprocAttr];simp
   .simp only[hostsF];split<;>rfl
  .simp(disch:=omega)only[ah,EVM,EVC,EVR,Af,simprocAttr]
   try simp[Out.goes,hostsF]
 simp(disch:=omega)only[ah,key,EVM,EVC,EVR,Af,simprocAttr]
def Bp6 (z:Zone) (h:List UInt8):List Rec:=findR z.recs h 1++findR z.recs h 28
def Bw6 (z:Zone) (h:List UInt8):(Bp6 z h).length<=2*z.recs.length:=by have h1:=Hl z h 1;have h2:=Hl z h 28;unfold Bp6;rw[Bt];omega
def Br9 (z:Zone) (h:List UInt8):List Rec:=if cutN z h=[] then [] else Bp6 z h
def Ep6 (z:Zone) (h:List UInt8):(Br9 z h).length<=2*z.recs.length:=by
 unfold Br9;split
 .simp
 .exact Bw6 z h
def mm (z:Zone) (hs:List (List UInt8)) (hl:z.recs.length<=60) (hh:hs.length<=1000):S Eh0 2 [z.pv,C8 hs]=some [B6 (hs.flatMap (Bp6 z))]:=by
 refine Ic7 (N:=2000) rfl ?_;have key:Fz0.ev S 2000 [z.pv,C8 hs]=some (.yld 0 [B6 ([]++hs.flatMap (Bp6 z))]):=by
  refine E7 hs (fun i (g:List Rec)=>[B6 g,.i .i64 (i:Int)]) (fun i g r=> .yld 0 [B6 (g++r.flatMap (Bp6 z))]) (fun i g=>g.length<=120*i) [] rfl (Df _) (by omega) (fun i g c r hd hi hc hI=> ?_) (fun g hI=> ?_)
  .left;have k1:=J2 z c 1 (by omega);have k2:=J2 z c 28 (by omega);have h1:=Hl z c 1;have h2:=Hl z c 28;refine⟨g++findR z.recs c 1++findR z.recs c 28,?_,by rw[Bt,Bt];omega,by simp[Bp6]⟩;generalize findR z.recs c 1=f1 at*;generalize findR z.recs c 28=f2 at*;have a1:=J4 g f1 (by omega);have a2:=J4 (g++f1) f2 (by rw[Bt];omega);simp(disch:=omega)only[Ff9,hc,k1,k2,a1,a2,EVM,EVC,EVR,Af,simprocAttr]
  .simp(disch:=omega)only[Ff9,EVM,EVC,EVR,Af,simprocAttr]
   try simp[Out.goes]
 rw[Dc] at key;generalize hs.flatMap (Bp6 z)=fm at*;simp(disch:=omega)only[Ff9,key,EVM,EVC,EVR,Af,simprocAttr]
def Ev8 (z:Zone) (hs:List (List UInt8)) (hz:z.wf) (hl:z.recs.length<=60) (hh:hs.length<=1000) (hw:∀h∈hs,h.length<=9223372036854775807):S Eh1 2 [z.pv,C8 hs]=some [B6 (hs.flatMap (Br9 z))]:=by
 refine Id0 (N:=2000) rfl ?_;have key:Fz2.ev S 2000 [z.pv,C8 hs]=some (.yld 0 [B6 ([]++hs.flatMap (Br9 z))]):=by
  refine E7 hs (fun i (g:List Rec)=>[B6 g,.i .i64 (i:Int)]) (fun i g r=> .yld 0 [B6 (g++r.flatMap (Br9 z))]) (fun i g=>g.length<=120*i) [] rfl (Df _) (by omega) (fun i g c r hd hi hc hI=> ?_) (fun g hI=> ?_)
  .left;have k0:=Bt3 z c hz (by omega) (hw c (Cq hc));have k1:=J2 z c 1 (by omega);have k2:=J2 z c 28 (by omega);have h1:=Hl z c 1;have h2:=Hl z c 28;by_cases h3:cutN z c=[]
   .refine⟨g,?_,by omega,by simp[Br9,h3]⟩;rw[h3] at k0;simp(disch:=omega)only[Ew2,hc,k0,ne_eq,not_true,decide_false,EVM,EVC,EVR,Af,simprocAttr]
   .refine⟨g++findR z.recs c 1++findR z.recs c 28,?_,by rw[Bt,Bt];omega,by simp[Bp6,Br9,h3]⟩;have h4:decide (cutN z c≠[])=true:=by simp[h3]
    rw[h4] at k0;generalize findR z.recs c 1=f1 at*;generalize findR z.recs c 28=f2 at*;have a1:=J4 g f1 (by omega);have a2:=J4 (g++f1) f2 (by rw[Bt];omega);simp(disch:=omega)only[Ew2,hc,k0,k1,k2,a1,a2,EVM,EVC,EVR,Af,simprocAttr]
  .simp(disch:=omega)only[Ew2,EVM,EVC,EVR,Af,simprocAttr]
   try simp[Out.goes]
 rw[Dc] at key;generalize hs.flatMap (Br9 z)=fm at*;simp(disch:=omega)only[Ew2,key,EVM,EVC,EVR,Af,simprocAttr]
def Bq0 (name:List UInt8) (r:Res):Rec:=⟨name,5,((r.recs[0]?).map Rec.ttl).getD 0,⟨false,0,0,r.target,[],[],0,0,0,0,0,0,0⟩⟩
def xv (name:List UInt8) (r:Res):List Rec:=
 if r.kind=2∨r.kind=1 then r.recs else if r.kind=3 then(if r.target=[] then r.recs else r.recs++[Bq0 name r]) else []
def ansF (name:List UInt8) (acc:List Rec):List Res->List Rec
 |[]=>acc
 |r::rs=>ansF r.target (acc++xv name r) rs
structure RsOk (l:List Res):Prop where
 len:l.length<=9
 recs:∀r∈l,r.recs.length<=60
 red:∀r∈l,r.kind=3->r.recs≠[]
def xq (name:List UInt8) (r:Res) (h:r.recs.length<=60):(xv name r).length<=61:=by
 unfold xv;split
 .omega
 .split
  .split
   .omega
   .rw[Bt,Ew];omega
  .simp
def Bw0:∀(l:List Res) (name:List UInt8) (acc:List Rec),(∀r∈l,r.recs.length<=60)->(ansF name acc l).length<=acc.length+61*l.length
 |[],name,acc,_=>by simp[ansF]
 |r::rs,name,acc,h=>by have h1:=xq name r (h r (.head _));have:=Bw0 rs r.target (acc++xv name r) fun x hx=>h x (.tail _ hx);rw[Bt] at this;simp only[ansF,Cy];omega
def Gk0 (z:Zone) (m:Msg) (l:List Res) (p3 p4 p5:PV) (h:RsOk l):Fb3.ev S 1000 [z.pv,m.pv,Iy l,p3,p4]=some (.yld 0 [B6 (ansF m.q.name [] l)]):=by
 have hl:=h.len;refine E7 l (fun i (g:List UInt8×List Rec)=>[.s g.1,.i .i64 (i:Int),B6 g.2]) (fun i g r=> .yld 0 [B6 (ansF g.1 g.2 r)]) (fun i g=>g.2.length<=61*i) (m.q.name,[]) (by simp(disch:=omega)only[EVM,EVC,EVR,Ms,Af,simprocAttr]) (Df _) (by omega) (fun i g c r hd hi hc hI=> ?_) (fun g hI=> ?_)
 .left;obtain⟨nm,g⟩:=g;simp only at hI;have hcm:=Cq hc;have h1:=h.recs c hcm;have a1:=J4 g c.recs (by omega);have hal:=xq nm c h1;refine⟨(c.target,g++xv nm c),?_,by simp only[Bt];omega,rfl⟩;unfold xv;by_cases h2:c.kind=2
  .simp(disch:=omega)only[Oq,hc,h2,a1,EVM,EVC,EVR,Ms,Af,simprocAttr]
   try simp
  .by_cases h3:c.kind=1
   .simp(disch:=omega)only[Oq,hc,h2,h3,a1,EVM,EVC,EVR,Ms,Af,simprocAttr]
    try simp
   .by_cases h4:c.kind=3
    .have h5:=h.red c hcm h4;obtain⟨r0,rr,hr⟩:=List.exists_cons_of_ne_nil h5;have hix:H6 16 (B6 c.recs) (.i .i64 0)=some r0.pv:=by rw[L0 _ _ _ (by omega),hr];rfl
     have h8:(c.recs[0]?).map Rec.ttl=some r0.ttl:=by rw[hr];rfl
     have h9:(g++c.recs).length<=1000:=by rw[Bt];omega
     by_cases h6:c.target=[]
     .simp(disch:=omega)only[Oq,hc,h2,h3,h4,h6,a1,EVM,EVC,EVR,Ms,Af,simprocAttr]
      try simp[h6]
     .have h7:g++(c.recs++[Bq0 nm c])=(g++c.recs)++[Bq0 nm c]:=by simp
      simp only[h4,h6,if_true,if_false,h7,show¬((3:Int)=2∨(3:Int)=1) by omega];unfold Bq0;rw[h8];generalize g++c.recs=gc at*;simp(disch:=omega)only[Oq,hc,h4,h6,a1,hix,Dd,EVM,EVC,EVR,Ms,Af,simprocAttr]
    .simp(disch:=omega)only[Oq,hc,h2,h3,h4,EVM,EVC,EVR,Ms,Af,simprocAttr]
     try simp[h2,h3,h4]
 .simp(disch:=omega)only[Oq,EVM,EVC,EVR,Ms,Af,simprocAttr]
  try simp[Out.goes,ansF]
def Fb9 (z:Zone) (o:Msg) (last:Res):Msg:=
 if last.kind=4 then {o with auth:=last.recs,ext:=(hostsF [] last.recs).flatMap (Br9 z)}
 else if last.kind=5 then {o with auth:=soaR z}
 else if last.kind=6 then {o with auth:=soaR z,code:=3}
 else if last.kind=1 then {o with ext:=(hostsF [] last.recs).flatMap (Bp6 z)}
 else if last.kind=3∧last.target=[] then {o with code:=6}
 else o
def Eb3 (z:Zone) (m:Msg) (l:List Res) (ok:Bool):Msg:=
 match l[0]?,l.getLast? with
 |some r,some last=>
  if r.kind=0 then replyM m 5
  else if ok=false then replyM m 2
  else Fb9 z {replyM m 0 with aa:=decide (r.kind≠(4:Int)),ans:=ansF m.q.name [] l} last
 |_,_=>replyM m 0
def respondM (z:Zone) (m:Msg):Msg:=
 if m.op≠0∨m.q.typ=251∨m.q.typ=252 then replyM m 4 else Eb3 z m (chaseM z m.q).1 (chaseM z m.q).2
def wm (z:Zone) (t:Int):∀(k:Nat) (out:List Res) (seen:List (List UInt8)) (n:List UInt8),out≠[]->(Lw z t k out seen n).1≠[]
 |0,out,seen,n,h=>h
 |k+1,out,seen,n,h=>by
  rw[L3];split
  .simp
  .split
   .simp
   .split
    .simp
    .split
     .simp
     .exact wm z t k _ _ _ (by simp)
def wh (z:Zone) (q:Ques):(chaseM z q).1≠[]:=by
 unfold chaseM;rw[L3];split
 .simp
 .split
  .simp
  .split
   .simp
   .split
    .simp
    .exact wm z _ _ _ _ _ (by simp)
def Zd (z:Zone) (q:Ques) (hl:z.recs.length<=60):(findM z q).recs.length<=60∧((findM z q).kind=3->(findM z q).recs≠[]):=by
 have hs:∀(l:List Rec) (t:Int),l.length<=60->(saysM l t).recs.length<=60∧(saysM l t).kind≠3:=fun l t h=>by
  unfold saysM;split
  .simp
  .split
   .simp
   .have:=Uv l t;exact⟨by simp only;omega,by simp⟩
 unfold findM;split
 .split
  .have:=Hl z (cutN z q.name) 2;exact⟨by simp only;omega,fun h=>by simp at h⟩
  .unfold bd;cases h:jj z q.name with
   |some x=>
    show x.recs.length<=60∧(x.kind=3->x.recs≠[]);unfold jj at h;cases h2:Cl2 z q.name with
    |none=>rw[h2] at h;cases h
    |some u=>
     rw[h2] at h;simp only[Cc,Bn] at h;rw[<-h];unfold Sf;split<;>simp
   |none=>
    simp only;split
    .have:=hs (allR z q.name) q.typ (by have:=Xy z q.name;omega);exact⟨this.1,fun h=>absurd h this.2⟩
    .unfold R7;split
     .simp only[Dd];have:=hs ((allR z (starN (encN z q.name))).map (P5 q.name)) q.typ (by rw[E9];have:=Xy z (starN (encN z q.name));omega);exact⟨this.1,fun h=>absurd h this.2⟩
     .simp
 .simp
def l6 (z:Zone) (q:Ques) (hl:z.recs.length<=60):RsOk (chaseM z q).1:=by
 refine⟨by simpa [chaseM] using f8 z q.typ 9 [] [q.name] q.name,?_,?_⟩
 .exact Mh (fun r=>r.recs.length<=60) z q.typ (fun n=>(Zd z ⟨n,q.typ⟩ hl).1) 9 [] [q.name] q.name (by simp)
 .exact Mh (fun r=>r.kind=3->r.recs≠[]) z q.typ (fun n=>(Zd z ⟨n,q.typ⟩ hl).2) 9 [] [q.name] q.name (by simp)
def Er9 (z:Zone) (q:Ques) (hz:z.wf) (hq:q.name.length<=9223372036854775807):∀r∈(findM z q).recs,r.wf:=by
 have hs:∀(l:List Rec) (t:Int),(∀r∈l,r.wf)->∀r∈(saysM l t).recs,r.wf:=fun l t h r hr=>by
  unfold saysM at hr;cases ha:Fk3 l t with
  |some c=>
   rw[ha] at hr;unfold Fk3 at ha;split at ha
   .cases ha
   .simp only[C0] at hr;rw[hr];exact h c (List.mem_of_find?_eq_some ha)
  |none=>
   rw[ha] at hr;simp only at hr;split at hr
   .cases hr
   .simp only at hr;unfold typedR at hr;split at hr
    .exact h r hr
    .exact h r (Cg.1 hr).1
 have hal:∀n,∀r∈allR z n,r.wf:=fun n r hr=>hz.recs.2 r (Cg.1 hr).1;intro r hr;unfold findM at hr;split at hr
 .split at hr
  .exact Qz hz hr
  .unfold bd at hr;cases h:jj z q.name with
   |some x=>
    rw[h] at hr;simp only at hr;unfold jj at h;cases h2:Cl2 z q.name with
    |none=>rw[h2] at h;cases h
    |some u=>
     rw[h2] at h;simp only[Cc,Bn] at h;rw[<-h] at hr;unfold Sf at hr;split at hr
     .rename_i r0 rest hf;simp only[C0] at hr;rw[hr];exact Qz hz (n:=u) (t:=39) (by rw[hf];exact .head _)
     .cases hr
   |none=>
    rw[h] at hr;simp only at hr;split at hr
    .exact hs _ _ (hal _) r hr
    .unfold R7 at hr;split at hr
     .simp only[Dd] at hr;refine hs _ _ (fun x hx=> ?_) r hr;obtain⟨y,hy,rfl⟩:=Ev.1 hx;have hy:=hal _ y hy;exact⟨hq,hy.typ,hy.ttl,hy.data⟩
     .cases hr
 .cases hr
def wl (z:Zone) (t:Int) (hz:z.wf):∀(k:Nat) (out:List Res) (seen:List (List UInt8)) (n:List UInt8),n.length<=9223372036854775807->(∀r∈out,∀x∈r.recs,x.wf)->∀r∈(Lw z t k out seen n).1,∀x∈r.recs,x.wf
 |0,out,seen,n,_,ho=>ho
 |k+1,out,seen,n,hn,ho=>by
  have ho':∀r∈out++[findM z ⟨n,t⟩],∀x∈r.recs,x.wf:=fun r hr=>by
   rcases Cn.1 hr with hr|hr
   .exact ho r hr
   .rw[C0.1 hr];exact Er9 z ⟨n,t⟩ hz hn
  rw[L3];split
  .exact ho'
  .split
   .exact ho'
   .split
    .exact ho'
    .split
     .exact ho'
     .exact wl z t hz k _ _ _ (Nh z ⟨n,t⟩ hz) ho'
def wg (z:Zone) (q:Ques) (hz:z.wf) (hq:q.name.length<=9223372036854775807):∀r∈(chaseM z q).1,∀x∈r.recs,x.wf:=wl z q.typ hz 9 [] [q.name] q.name hq (by simp)
def Ey9 (z:Zone):(soaR z).length<=1:=by unfold soaR;split<;>simp
def At7 (l:List Res) (h:l≠[]) (hl:l.length<=9):H6 5 (Iy l) (.i .i64 ((l.length:Int) - 1))=(l.getLast?).map Res.pv:=by have hp:=C1.2 h;rw[kw _ _ _ (by omega),show ((l.length:Int) - 1).toNat=l.length - 1 by omega,Q3]
def joinN (l:List Rec):List Rec->List Rec
 |[]=>l
 |r::m=>joinN (if r∈l then l else l++[r]) m
def mem_joinN (x:Rec):∀(m l:List Rec),x∈joinN l m↔x∈l∨x∈m
 |[],l=>by simp[joinN]
 |r::m,l=>by
  unfold joinN;rw[mem_joinN x m,Cj];by_cases h:r∈l
  .rw[if_pos h];constructor
   .rintro (h1|h1)
    .exact .inl h1
    .exact .inr (.inr h1)
   .rintro (h1|rfl|h1)
    .exact .inl h1
    .exact .inl h
    .exact .inr h1
  .rw[if_neg h,Cn,C0,or_assoc]
def O9:∀(m l:List Rec),∃s,joinN l m=l++s
 |[],l=>⟨[],by simp[joinN]⟩
 |r::m,l=>by
  unfold joinN;split
  .exact O9 m l
  .obtain⟨s,hs⟩:=O9 m (l++[r]);exact⟨r::s,by rw[hs,Cv];rfl⟩
def P7 (k:Nat) (l:List Rec):Prop:=∀i r,k<=i->l[i]? =some r->r∉l.take i
def Sm:∀(m l:List Rec) (k:Nat),k<=l.length->P7 k l->P7 k (joinN l m)
 |[],l,k,_,h=>h
 |r::m,l,k,hk,h=>by
  unfold joinN;split
  .exact Sm m l k hk h
  .rename_i hr;refine Sm m (l++[r]) k (by rw[Bt];omega) (fun i x hi hx=> ?_);by_cases hlt:i<l.length
   .rw[Cp hlt] at hx;rw[Hm (by omega)];exact h i x hi hx
   .have hi2:i=l.length:=by have:=(Br.1 hx).1;rw[Bt,Ew] at this;omega
    subst hi2;rw[Cz (B7 _),Mt] at hx;simp only[Db,Bn] at hx;subst hx;rw[Hm (B7 _),Eh];exact hr
def Wp (r:Res):Bool:=decide (r.kind=6)||decide (r.kind=5)||r.wild
def proofsF (z:Zone) (t:Int):List Res->List UInt8->List Rec->List Rec
 |[],_,a=>a
 |r::rs,n,a=>proofsF z t rs r.target (if Wp r=true then joinN a (denialN z n) else a)
def Vp (z:Zone) (t:Int) (x:Rec):∀(l:List Res) (n:List UInt8) (a:List Rec),x∈a->x∈proofsF z t l n a
 |[],_,_,h=>h
 |r::rs,n,a,h=>by
  unfold proofsF;refine Vp z t x rs r.target _ ?_;split
  .exact(mem_joinN x _ _).2 (.inl h)
  .exact h
def fp (z:Zone) (o:List UInt8):List Rec:=if findR z.recs o 43=[] then findR z.recs o 47 else findR z.recs o 43
def I8 (z:Zone) (q:Ques) (a:List Rec):List Rec:=
 match (chaseM z q).1.getLast? with
 |some last=>if last.kind=4 then joinN (proofsF z q.typ (chaseM z q).1 q.name a) (fp z last.owner) else proofsF z q.typ (chaseM z q).1 q.name a
 |none=>proofsF z q.typ (chaseM z q).1 q.name a
def proveM (z:Zone) (m:Msg):Msg:=
 if m.dok=false∨(respondM z m).ans.length+(respondM z m).auth.length=0 then respondM z m
 else {respondM z m with ans:=(respondM z m).ans++sigsR z (respondM z m).ans,auth:=joinN (I8 z m.q (respondM z m).auth) (sigsR z (I8 z m.q (respondM z m).auth))}
def Bp2 (z:Zone) (q:Ques) (a:List Rec) (x:Rec) (h:x∈proofsF z q.typ (chaseM z q).1 q.name a):x∈I8 z q a:=by
 unfold I8;split
 .split
  .exact(mem_joinN x _ _).2 (.inl h)
  .exact h
 .exact h
def Bh4 (z:Zone):Prop:=∀a∈chainN z,a∈z.recs
def Aj8 {z:Zone} (h:Bh4 z) (n:List UInt8):∀x∈neededN z n,x∈denialN z n:=fun x hx=>by unfold denialN outD;exact Cn.2 (.inl (Cg.2 ⟨hx,by simpa using h x (An1 x hx)⟩))
def f7 (z:Zone) (t:Int):∀(k:Nat) (out:List Res) (seen:List (List UInt8)) (n:List UInt8),∃l,(Lw z t k out seen n).1=out++l
 |0,out,_,_=>⟨[],by simp[Lw]⟩
 |k+1,out,seen,n=>by
  rw[L3];split
  .exact⟨_,rfl⟩
  .split
   .exact⟨_,rfl⟩
   .split
    .exact⟨_,rfl⟩
    .split
     .exact⟨_,rfl⟩
     .obtain⟨l,hl⟩:=f7 z t k (out++[findM z ⟨n,t⟩]) (seen++[(findM z ⟨n,t⟩).target]) (findM z ⟨n,t⟩).target;exact⟨findM z ⟨n,t⟩::l,by rw[hl,Cv];rfl⟩
def Ax1 (z:Zone) (q:Ques):∃l,(chaseM z q).1=findM z q::l:=by
 unfold chaseM;rw[L3];have e:(⟨q.name,q.typ⟩:Ques)=q:=rfl;rw[e];split
 .exact⟨[],rfl⟩
 .split
  .exact⟨[],rfl⟩
  .split
   .exact⟨[],rfl⟩
   .split
    .exact⟨[],rfl⟩
    .obtain⟨l,hl⟩:=f7 z q.typ 8 ([]++[findM z q]) ([q.name]++[(findM z q).target]) (findM z q).target;exact⟨l,by rw[hl];rfl⟩
def Dt5 {z:Zone} {q:Ques} (h:Bh4 z) (hd:Wp (findM z q)=true) (a:List Rec):∀x∈neededN z q.name,x∈joinN (I8 z q a) (sigsR z (I8 z q a)):=fun x hx=>by refine(mem_joinN x _ _).2 (.inl (Bp2 z q a x ?_));obtain⟨l,hl⟩:=Ax1 z q;rw[hl];unfold proofsF;rw[if_pos hd];exact Vp z q.typ x l _ _ ((mem_joinN x _ _).2 (.inr (Aj8 h q.name x hx)))
def Es9 {z:Zone} {q:Ques} (ho:ZOk z) (hd:Wp (findM z q)=true):Eq7 z q:=by
 rcases find_cases z q ho with⟨h1,h2⟩|hm
 .unfold Wp at hd;rw[h2] at hd;simp only[Ck,decide_eq_true_eq] at hd;rcases hd with(w|w)|w
  .omega
  .omega
  .cases w
 .exact hm
def U4 {z:Zone} {q:Ques} (ho:ZOk z) (hc:Jm z=0) (h:Bh4 z) (hd:Wp (findM z q)=true) (a:List Rec):Ad1 z q (joinN (I8 z q a) (sigsR z (I8 z q a))):=
 fun x hx hk=>Dt5 h hd a x (Bh2 hc (Es9 ho hd) x hx hk)
def Gv1 {z:Zone} {q:Ques} (ho:ZOk z) (hc:Jm z=0) (hp:Pl z) (h:Bh4 z) (a:List Rec):
  ((findM z q).kind=6->Vy (joinN (I8 z q a) (sigsR z (I8 z q a))) z.origin q.name=true)∧
  ((findM z q).wild=true->H9 (joinN (I8 z q a) (sigsR z (I8 z q a))) z.origin q.name (findM z q).owner=true)∧
  ((findM z q).kind=5->q.typ≠46->q.typ≠47->(q.typ≠43∨q.name≠z.origin)->fc (joinN (I8 z q a) (sigsR z (I8 z q a))) z.origin q=true):=by
 refine⟨fun k=> ?_,fun k=> ?_,fun k h1 h2 h3=> ?_⟩
 .exact Et6 ho hp k (U4 ho hc h (by unfold Wp;simp[k]) a)
 .exact Et4 ho hp k (U4 ho hc h (by unfold Wp;simp[k]) a)
 .exact Et5 ho hp k h1 h2 h3 (U4 ho hc h (by unfold Wp;simp[k]) a)
end Go.X.G
