/- nsec: what the chain of a checked zone is; the law NsecOrder. -/
import Derived.Test.YtjakmljndnkplaaGreatDoorProveSignedG13
import Derived.Test.YtjakmljndnkplaaGreatDoorProveSignedG11
import Derived.Test.YtjakmljndnkplaaGreatDoorProveSignedG12
import Derived.Test.YtjakmljndnkplaaGreatDoorProveSignedG9
open Bool renaming eq_false_or_eq_true->Bn,and_eq_true->Br,false_eq_true->B5,or_eq_true->Ck
open Int renaming toNat_natCast->F0,lt_irrefl->Hh
open List renaming getElem?_eq_some_iff->Bp,length_append->Bt,getElem?_eq_getElem->B3,mem_cons->Cj,length_take->Cq,length_cons->Cv,append_assoc->Cw,mem_of_getElem?->Cz,getElem?_append_right->Cb,pairwise_cons->Cd,mem_append->Cf,mem_singleton->Cg,mem_filter->Cm,length_pos_iff->Cs,length_nil->C1,getElem?_map->C5,length_drop->Dw,nil_append->Dc,take_add_one->Dn,length_filter_le->D3,drop_drop->D8,mem_map->Ev,length_singleton->Ec,getElem_mem->Em,length_map->E3,append_nil->E4,filter_cons_of_pos->Fl,flatMap_cons->Ft,pairwise_iff_getElem->Hj,mem_of_find?_eq_some->Jv,mem_of_getLast?->Kf,getElem?_set_self->L2,findIdx?_cons->Nq,set_append_right->Oy,getLast?_eq_getElem?->Pm,getElem?_set_ne->Qq,foldl_cons->Hq3
open Nat renaming le_refl->B7,mul_le_mul_right->C0,zero_le->Db,le_trans->Ds
open Option renaming bind_some->B0,map_some->Cc,getD_some->Dz
open Option.some renaming injEq->Bm
set_option maxHeartbeats 1000000
set_option linter.defProp false
set_option linter.unusedVariables false
set_option linter.unusedSimpArgs false
namespace Go.X.G
open Go Go.X
def Af:=And.intro xe<|And.intro EVP EV
def Ad:=And.intro EVC<|And.intro xe<|And.intro EVP EV
def Ac:=And.intro EVM<|And.intro EVC<|And.intro xe<|And.intro EVP EV
def Cl1 (g:List Rec) (i j:Nat) (a:Rec) (hi:i<g.length) (ha:g[j]? =some a):(lnk g i)[j]? =some (if 0<i∧j=i - 1 then Fx0 (g[i]'hi).name a else a):=by
 unfold lnk;by_cases h0:0<i
 .have a1:g[i - 1]? =some (g[i - 1]'(by omega)):=B3 (by omega);have a2:g[i]? =some (g[i]'hi):=B3 hi;rw[if_pos h0,a1,a2];simp only;by_cases hj:j=i - 1
  .subst hj;rw[if_pos ⟨h0,rfl⟩,L2 (by omega)];rw[a1] at ha;injection ha with ha;rw[ha]
  .rw[if_neg (by omega),Qq (by omega),ha]
 .rw[if_neg h0,if_neg (by omega),ha]
def nxt (g:List Rec) (j:Nat) (a:Rec):Rec:=match g[j+1]? with
 |some b=>Fx0 b.name a
 |none=>a
def Ac9:∀(k i:Nat) (g:List Rec),g.length=i+k->∀(j:Nat) (a:Rec),g[j]? =some a->(Cl2 k i g)[j]? =some (if i<=j+1 then nxt g j a else a)
 |0,i,g,hl,j,a,ha=>by
  show g[j]? =_;rw[ha];by_cases h:i<=j+1
  .rw[if_pos h];have:g[j+1]? =none:=by rw[List.getElem?_eq_none_iff];omega
   unfold nxt;rw[this]
  .rw[if_neg h]
 |k+1,i,g,hl,j,a,ha=>by
  show (Cl2 k (i+1) (lnk g i))[j]? =_;have hi:i<g.length:=by omega
  have hj:=Cl1 g i j a hi ha;rw[Ac9 k (i+1) (lnk g i) (by rw[dp];omega) j _ hj];by_cases h1:0<i∧j=i - 1
  .rw[if_neg (by omega),if_pos h1,if_pos (by omega)];unfold nxt;have e:j+1=i:=by omega
   rw[e,B3 hi]
  .rw[if_neg h1];by_cases h2:i<=j+1
   .have h3:i+1<=j+1:=by omega
    rw[if_pos h2,if_pos h3];unfold nxt;cases hb:g[j+1]? with
    |none=>
     have:(lnk g i)[j+1]? =none:=by rw[List.getElem?_eq_none_iff] at hb ⊢;rw[dp];exact hb
     rw[this]
    |some b=>
     rw[Cl1 g i (j+1) b hi hb,if_neg (by omega)]
   .rw[if_neg h2,if_neg (by omega)]
def Ac8:∀(k i:Nat) (g:List Rec),(Cl2 k i g).length=g.length
 |0,_,_=>rfl
 |k+1,i,g=>by show (Cl2 k (i+1) (lnk g i)).length=_;rw[Ac8,dp]
def S9 (z:Zone):(chainN z).length=(chain0 z (X2 z)).length:=Ac8 _ _ _
def Bx2 {z:Zone} {j:Nat} {a:Rec} (h:(chain0 z (X2 z))[j]? =some a):(chainN z)[j]? =some (nxt (chain0 z (X2 z)) j a):=by unfold chainN;rw[Ac9 _ 0 _ (by omega) j a h,if_pos (by omega)]
def Bx3 {z:Zone} {ttl:Int} {a:Rec} (h:a∈chain0 z ttl):∃n∈namesN z,tyO z n≠0∧a=⟨n,47,ttl,⟨false,0,0,z.origin,[],[],0,0,0,0,0,0,chBits z n⟩⟩:=by
 unfold chain0 at h;rw[List.mem_filterMap] at h;obtain⟨n,hn,ha⟩:=h;unfold N9 at ha;split at ha
 .cases ha
 .rename_i h0;injection ha with ha;exact⟨n,hn,h0,ha.symm⟩
def f7 (z:Zone) (ttl:Int):(chain0 z ttl).Pairwise fun a b=>ltN a.name b.name:=by
 unfold chain0;have h:(namesN z).Pairwise ltN:=Mk _;generalize namesN z=l at*
 induction l with
 |nil=>exact .nil
 |cons n l ih=>
  obtain⟨h1,h2⟩:=Cd.1 h;rw[List.filterMap_cons];split
  .exact ih h2
  .rename_i b hb;refine Cd.2 ⟨fun w hw=> ?_,ih h2⟩;rw[List.mem_filterMap] at hw;obtain⟨m,hm,hw⟩:=hw;have e:∀{x:List UInt8} {y:Rec},N9 z ttl x=some y->y.name=x:=by
    intro x y hy;unfold N9 at hy;split at hy
    .cases hy
    .injection hy with hy;rw[<-hy]
   rw[e hb,e hw];exact h1 m hm
structure ChainOk (z:Zone) (l:List Rec):Prop where
 pos:0<l.length
 first:∀a,l[0]? =some a->a.name=z.origin
 last:∀a,l[l.length - 1]? =some a->a.data.host=z.origin
 each:∀a∈l,a.typ=47∧bit a.data.bits 47=1∧bit a.data.bits 46=1∧(∃r∈z.recs,r.name=a.name)∧under a.name z.origin=true
 next:∀i a b,l[i]? =some a->l[i+1]? =some b->a.data.host=b.name∧ltN a.name b.name
def Ax8 (g:List Rec) (j:Nat) (a:Rec):(nxt g j a).name=a.name:=by unfold nxt;split<;>rfl
def Tj {z:Zone} {j:Nat} {b:Rec} (h:(chainN z)[j]? =some b):∃a,(chain0 z (X2 z))[j]? =some a∧b=nxt (chain0 z (X2 z)) j a:=by have hlt:=(Bp.1 h).1;rw[S9] at hlt;have e:=B3 hlt;refine⟨_,e,?_⟩;rw[Bx2 e] at h;injection h with h;exact h.symm
def Ps (n:List UInt8) (r:Rec):Rec:={r with name:=n}
def Ax1 (l:List Rec) (n:List UInt8) (i:Nat) (c:Rec) (r g:List Rec) (hd:l.drop i=c::r) (hi:i<l.length) (hc:l[i]? =some c) (hg:g=(l.take i).map (Ps n)++l.drop i):
  g[i]? =some c∧g.length=l.length∧g.set i {c with name:=n}=(l.take (i+1)).map (Ps n)++l.drop (i+1):=by
 have hA:((l.take i).map (Ps n)).length=i:=by rw[E3,Cq];omega
 have hd1:l.drop (i+1)=r:=by rw[<-D8 (i:=1) (j:=i),hd];rfl
 have ht:(l.take (i+1)).map (Ps n)=(l.take i).map (Ps n)++[Ps n c]:=by rw[Dn,hc,List.map_append];rfl
 rw[ht,hd1];rw[hd] at hg;have hlen:l.length=i+(r.length+1):=by have:=congrArg List.length hd;rw[Dw,Cv] at this;omega
 generalize (l.take i).map (Ps n)=A at*;subst hg;refine⟨?_,?_,?_⟩
 .rw[Cb (by omega),hA];simp
 .rw[Bt,Cv,hA];omega
 .rw[Oy _ _ (by omega),hA];simp[Ps]
def Ep9 (z:Zone) (q:Ques) (l:List Rec) (p2 p3 p4 p5:PV) (N:Nat) (hN:l.length<N) (hl:l.length<=1000000):
  Eg9.ev S N [z.pv,q.pv,p2,p3,p4,p5,B6 l]=some (.yld 0 [B6 (l.map (Ps q.name))]):=by
 refine E5 l (fun i (g:List Rec)=>[B6 g,.i .i64 (i:Int)]) (fun i g r=> .yld 0 [B6 (l.map (Ps q.name))]) (fun i g=>g=(l.take i).map (Ps q.name)++l.drop i) l (by simp(disch:=omega)only[Ac,simprocAttr]) (by simp) hN (fun i g c r hd hi hc hI=> ?_) (fun g hI=> ?_)
 .left;obtain⟨h1,h2,h3⟩:=Ax1 l q.name i c r g hd hi hc hI;refine⟨g.set i {c with name:=q.name},?_,h3,rfl⟩;have hs:Mj 16 0 [.s q.name] (B6 g) (.i .i64 (i:Int))=some (B6 (g.set i {c with name:=q.name})):=by have:=j9 g .i64 (i:Int) q.name c (by omega) (by rw[F0];exact h1);rwa[F0] at this
  generalize g.set i {c with name:=q.name}=g' at*;simp(disch:=omega)only[Am7,h1,hs,EVM,EVC,EVR,Af,simprocAttr]
 .have e:g=l.map (Ps q.name):=by rw[hI];simp
  rw[<-e];simp(disch:=omega)only[Am7,EVM,EVC,EVR,Af,simprocAttr]
  try simp[Out.goes]
def bd (z:Zone) (q:Ques):Option Res:=
 if starOk (encN z q.name)=true∧allR z (starN (encN z q.name))≠[] then
  some {saysM ((allR z (starN (encN z q.name))).map (Ps q.name)) q.typ with owner:=starN (encN z q.name),wild:=true}
 else none
def Vz (z:Zone) (n:List UInt8):(allR z n).length<=z.recs.length:=D3 _ _
def fj (z:Zone) (n:List UInt8):(encN z n).length<=254:=by
 unfold encN;rcases Bn (under n z.origin) with hu|hu
 .rw[if_pos hu];cases h:Bz3 z n with
  |none=>simp
  |some e=>exact J0 (Dq.1 (N3 hu h).1).2.1
 .rw[if_neg (by simp[hu])];simp
def An4:starOk []=false:=by decide
def Ep8 (z:Zone) (q:Ques) (hz:z.wf) (hl:z.recs.length<=1000) (hq:q.name.length<=9223372036854775807):S Dt3 2 [z.pv,q.pv]=some (Mt (bd z q)):=by
 refine Hd5 (N:=2000) rfl ?_;have k1:=Nv z q.name hz hl hq;have el:=fj z q.name;have k2:=g7 (encN z q.name) (by omega);have k3:=Ax9 z (starN (encN z q.name)) (by omega);have al:=Vz z (starN (encN z q.name));unfold bd;by_cases h1:encN z q.name=[]
 .rw[h1] at k1 ⊢;rw[An4,if_neg (by simp)];simp(disch:=omega)only[Am7,k1,Mt,EVM,EVC,EVR,Af,simprocAttr]
  try simp
 .have h2:decide (encN z q.name≠[])=true:=by simp[h1]
  rw[h2] at k1;rcases Bn (starOk (encN z q.name)) with h3|h3
  .rw[h3] at k2;by_cases h4:allR z (starN (encN z q.name))=[]
   .rw[if_neg (by simp[h4])];rw[h4] at k3;simp(disch:=omega)only[Am7,k1,k2,k3,Mt,EVM,EVC,EVR,Af,simprocAttr]
    try simp
   .rw[if_pos ⟨h3,h4⟩];have h5:¬((allR z (starN (encN z q.name))).length:Int)=0:=by have:=Cs.2 h4;omega
    have k4:=fun p2 p3 p4 p5=>Ep9 z q (allR z (starN (encN z q.name))) p2 p3 p4 p5 2000 (by omega) (by omega);have k5:=Cj6 ((allR z (starN (encN z q.name))).map (Ps q.name)) q.typ (by rw[E3];omega);generalize (allR z (starN (encN z q.name))).map (Ps q.name)=ml at*;generalize allR z (starN (encN z q.name))=al at*;simp(disch:=omega)only[Am7,k1,k2,k3,k4,k5,h5,Mt,EVM,EVC,EVR,Af,simprocAttr]
  .rw[h3] at k2;rw[if_neg (by simp[h3])];generalize allR z (starN (encN z q.name))=al at*;simp(disch:=omega)only[Am7,k1,k2,k3,Mt,EVM,EVC,EVR,Af,simprocAttr]
   try simp
def oh (z:Zone) (q:Ques):Res:=
 match Ax2 z q.name with
 |some x=>x
 |none=>if exB z q.name=true then {saysM (allR z q.name) q.typ with owner:=q.name} else(bd z q).getD ⟨6,q.name,false,[],[]⟩
def findM (z:Zone) (q:Ques):Res:=
 if under q.name z.origin=true then
  if cutN z q.name≠[]∧(cutN z q.name≠q.name∨q.typ≠43) then ⟨4,cutN z q.name,false,[],findR z.recs (cutN z q.name) 2⟩ else oh z q
 else Fr9
def Ct7 (z:Zone) (q:Ques) (hz:z.wf) (hl:z.recs.length<=1000) (hq:q.name.length<=9223372036854775807):S Ch2 2 [z.pv,q.pv]=some [(findM z q).pv]:=by
 refine Hh3 (N:=1) rfl ?_;have g1:=hz.origin;unfold Uw at g1;have k0:=Fc q.name z.origin hq g1;have k1:=Bb5 z q.name hz (by omega) hq;have k2:=Jx z (cutN z q.name) 2 (by omega);have k4:=Yn z q.name hz hl;have k5:=Ax9 z q.name (by omega);have al:=Vz z q.name;have k6:=Cj6 (allR z q.name) q.typ (by omega);have k7:=Ep8 z q hz hl hq;unfold findM;rcases Bn (under q.name z.origin) with hu|hu
 .rw[if_pos hu];rw[hu] at k0;have k3:=il z q.name hz (by omega) hu;have tail:∀p3 p4,T.ev S 1 zj [z.pv,q.pv,.b true,p3,p4]=some (.ret [(oh z q).pv]):=by
   intro p3 p4;unfold oh;cases hr:Ax2 z q.name with
   |some x=>
    rw[hr] at k3;simp only[Mt] at k3;simp(disch:=omega)only[bz,k3,EVM,EVC,EVR,Af,simprocAttr]
   |none=>
    rw[hr] at k3;simp only[Mt] at k3;rcases Bn (exB z q.name) with he|he
    .rw[he] at k4;simp only[he,if_true];generalize saysM (allR z q.name) q.typ=sm at*;generalize allR z q.name=ar at*;simp(disch:=omega)only[bz,k3,k4,k5,k6,EVM,EVC,EVR,Af,simprocAttr]
    .rw[he] at k4;simp only[he,B5,if_false];cases hw:bd z q with
     |some x=>
      rw[hw] at k7;simp only[Mt] at k7;simp(disch:=omega)only[bz,k3,k4,k7,EVM,EVC,EVR,Af,simprocAttr]
      try rfl
     |none=>
      rw[hw] at k7;simp only[Mt] at k7;simp(disch:=omega)only[bz,k3,k4,k7,EVM,EVC,EVR,Af,simprocAttr]
      try rfl
  by_cases h1:cutN z q.name=[]
  .rw[h1] at k1;rw[if_neg (by simp[h1])];simp(disch:=omega)only[↓tail,bz,k0,k1,ne_eq,not_true,decide_false,EVM,EVC,EVR,Af,simprocAttr]
  .have h2:decide (cutN z q.name≠[])=true:=by simp[h1]
   rw[h2] at k1;by_cases h3:cutN z q.name=q.name
   .by_cases h4:q.typ=43
    .rw[if_neg (by simp[h3,h4])];rw[h3] at k1;simp(disch:=omega)only[↓tail,bz,k0,k1,h4,EVM,EVC,EVR,Af,simprocAttr]
    .rw[if_pos ⟨h1,.inr h4⟩];rw[h3] at k1 k2 ⊢;generalize findR z.recs q.name 2=fr at*;simp(disch:=omega)only[bz,k0,k1,k2,h4,EVM,EVC,EVR,Af,simprocAttr]
   .rw[if_pos ⟨h1,.inl h3⟩];generalize findR z.recs (cutN z q.name) 2=fr at*;simp(disch:=omega)only[bz,k0,k1,k2,h3,EVM,EVC,EVR,Af,simprocAttr]
 .rw[if_neg (by simp[hu])];rw[hu] at k0;simp(disch:=omega)only[bz,k0,EVM,EVC,EVR,Af,simprocAttr]
def Fx6 {z:Zone} {n u:List UInt8} (h:Ed9 z n=some u):∃r rest,findR z.recs u 39=r::rest:=by
 unfold Ed9 at h;have:=List.find?_some h;unfold dnB at this;cases hf:findR z.recs u 39 with
 |nil=>rw[hf] at this;simp at this
 |cons r rest=>exact⟨r,rest,rfl⟩
def Zx {z:Zone} {n:List UInt8} (ho:ZOk z) (hu:under n z.origin=true) (hx:exB z n=false) (hc:cutN z n=[]∨cutN z n=n):∀r∈z.recs,under r.name n=false:=by
 intro r hr;rcases Bn (under r.name n) with h|h
 .exfalso;have h1:=ho.under hr;have hh:Ph z r.name=true:=by
   rcases Bn (Ph z r.name) with e|e
   .exact e
   .have:=(Rc z n).2 ⟨r,hr,h1,e,h,hu⟩;rw[hx] at this;cases this
  rw[Fd0] at hh;simp only[Br,decide_eq_true_eq] at hh;obtain⟨c1,_,_,_,_,c2⟩:=pc ho hh.1;obtain⟨_,g2⟩:=N5 z r.name z.recs [] (.inl rfl);obtain⟨_,g3,_,_⟩:=g2 hh.1;obtain⟨x,hxm,x1,x2⟩:=g3.resolve_left hh.1;change x.name=cutN z r.name at x2;generalize cutN z r.name=c at*;obtain⟨_,_,s1⟩:=Dq.1 c1;obtain⟨_,vn,s2⟩:=Dq.1 h;obtain⟨_,vc,_⟩:=Dq.1 c1;by_cases hl:(lbl n).length<=(lbl c).length
  .have hcn:under c n=true:=Dq.2 ⟨vc,vn,tw s2 s1 hl⟩;obtain⟨y,y1,y2,y3,y4,_⟩:=(Rc z c).1 c2;have:=(Rc z n).2 ⟨y,y1,y2,y3,Oc y4 hcn,hu⟩;rw[hx] at this;cases this
  .have hnc:under n c=true:=Dq.2 ⟨vn,vc,tw s1 s2 (by omega)⟩;obtain⟨k1,k2⟩:=N5 z n z.recs [] (.inl rfl);rcases hc with hc|hc
   .have:=(k1 hc).2 x hxm x1;rw[x2,hnc] at this;cases this
   .by_cases hc0:cutN z n=[]
    .have:=(k1 hc0).2 x hxm x1;rw[x2,hnc] at this;cases this
    .obtain⟨_,_,_,k3⟩:=k2 hc0;have:=k3 x hxm x1 (by rw[x2];exact hnc);change (lbl (cutN z n)).length<=_ at this;rw[hc,x2] at this;omega
 .exact h
def N6 (z:Zone) (n:List UInt8) (t:Int):Nat:=(z.recs.filter fun r=>decide (r.name=n) && (decide (t=255)||decide (r.typ=t))).length
def Mm (z:Zone) (n:List UInt8) (t:Int):N6 z n t=(typedR (allR z n) t).length:=by
 unfold N6 typedR allR;split
 .rename_i h;subst h;simp
 .rename_i h;rw[List.filter_filter];congr 1;refine List.filter_congr fun r _=> ?_;simp[h,Bool.and_comm]
def Bw7 (z:Zone) (n:List UInt8):N6 z n 2=(findR z.recs n 2).length:=by unfold N6 findR;congr 1
def jb {l:List Rec} {t:Int} {x:Rec} (h:x∈typedR l t):x∈l∧(x.typ=t∨t=255):=by
 unfold typedR at h;split at h
 .rename_i e;exact⟨h,.inr e⟩
 .obtain⟨h1,h2⟩:=Cm.1 h;exact⟨h1,.inl (by simpa using h2)⟩
def jz (l:List Rec) (n:List UInt8) (t:Int):(typedR (l.map (Ps n)) t).length=(typedR l t).length:=by
 unfold typedR;split
 .simp
 .rw[List.filter_map,E3];rfl
structure FindOk (z:Zone) (q:Ques) (r:Res):Prop where
 ans:r.kind=1->r.recs≠[]∧r.recs.length=N6 z r.owner q.typ∧(r.wild=false->r.owner=q.name)∧∀x∈r.recs,x.name=q.name∧(x.typ=q.typ∨q.typ=255)∧{x with name:=r.owner}∈z.recs
 nothing:r.kind=6∨r.wild=true->∀x∈z.recs,under x.name q.name=false
 out:r.kind=0->under q.name z.origin=false
 nodata:r.kind=5->N6 z r.owner q.typ=0
 nx:r.kind=6->r.recs=[]∧r.wild=false
 ref:r.kind=4->under q.name r.owner=true∧r.owner≠z.origin∧r.recs.length=N6 z r.owner 2∧r.recs≠[]∧∀x∈r.recs,x.typ=2
 kinds:r.kind=0∨r.kind=1∨(r.kind=2∧r.recs≠[])∨(r.kind=3∧r.recs≠[])∨r.kind=4∨r.kind=5∨r.kind=6
def says_kind (l:List Rec) (t:Int):((saysM l t).kind=2∧(saysM l t).recs≠[])∨((saysM l t).kind=5∧typedR l t=[])∨((saysM l t).kind=1∧typedR l t≠[]∧(saysM l t).recs=typedR l t):=by
 unfold saysM;split
 .exact .inl ⟨rfl,by simp⟩
 .split
  .rename_i h;exact .inr (.inl ⟨rfl,h⟩)
  .rename_i h;exact .inr (.inr ⟨rfl,h,rfl⟩)
def V9 (l:List Rec) (t:Int):(saysM l t).wild=false:=by
 unfold saysM;split
 .rfl
 .split<;>rfl
def Ct6 (z:Zone) (q:Ques) (ho:ZOk z):FindOk z q (findM z q):=by
 unfold findM;split
 .rename_i hu;split
  .rename_i hc;obtain⟨f1,f2,f3,_⟩:=pc ho hc.1;refine⟨fun h=>by simp at h,fun h=>by simp at h,fun h=>by simp at h,fun h=>by simp at h,fun h=>by simp at h,fun _=>⟨f1,f2,(Bw7 z _).symm,fun e=>f3 (by have e':findR z.recs (cutN z q.name) 2=[]:=e;rw[e'];rfl),fun x hx=>(Lp.1 hx).2.2⟩,by simp⟩
  .rename_i hc;have hc':cutN z q.name=[]∨cutN z q.name=q.name:=by
    by_cases h0:cutN z q.name=[]
    .exact .inl h0
    .refine .inr (Classical.byContradiction fun h1=>hc ⟨h0,.inl h1⟩)
   unfold oh;cases hr:Ax2 z q.name with
   |some x=>
    simp only;unfold Ax2 at hr;cases hr2:Ed9 z q.name with
    |none=>rw[hr2] at hr;cases hr
    |some u=>
     rw[hr2] at hr;simp only[Cc,Bm] at hr;obtain⟨r0,rest,hf⟩:=Fx6 hr2;unfold Tl at hr;rw[hf] at hr;subst hr;exact⟨fun h=>by simp at h,fun h=>by simp at h,fun h=>by simp at h,fun h=>by simp at h,fun h=>by simp at h,fun h=>by simp at h,by simp⟩
   |none=>
    simp only;split
    .rename_i hex;rcases says_kind (allR z q.name) q.typ with⟨k,k'⟩|⟨k,kt⟩|⟨k,kt,kr⟩
     .refine⟨fun h=> ?_,fun h=> ?_,fun h=> ?_,fun h=> ?_,fun h=> ?_,fun h=> ?_,.inr (.inr (.inl ⟨k,k'⟩))⟩<;>simp[k,V9] at h
     .refine⟨fun h=> ?_,fun h=> ?_,fun h=> ?_,fun _=> ?_,fun h=> ?_,fun h=> ?_,by simp[k]⟩
      .simp[k] at h
      .simp[k,V9] at h
      .simp[k] at h
      .show N6 z q.name q.typ=0;rw[Mm,kt];rfl
      .simp[k] at h
      .simp[k] at h
     .refine⟨fun _=>⟨?_,?_,fun _=>rfl,?_⟩,fun h=> ?_,fun h=> ?_,fun h=> ?_,fun h=> ?_,fun h=> ?_,by simp[k]⟩
      .show (saysM (allR z q.name) q.typ).recs≠[];rw[kr];exact kt
      .show (saysM (allR z q.name) q.typ).recs.length=N6 z q.name q.typ;rw[kr,Mm]
      .intro x hx;change x∈(saysM (allR z q.name) q.typ).recs at hx;rw[kr] at hx;obtain⟨h1,h2⟩:=jb hx;obtain⟨h3,h4⟩:=Cm.1 h1;have h5:x.name=q.name:=by simpa using h4
       refine⟨h5,h2,?_⟩;show {x with name:=q.name}∈z.recs;rw[<-h5];exact h3
      .simp[k,V9] at h
      .simp[k] at h
      .simp[k] at h
      .simp[k] at h
      .simp[k] at h
    .rename_i hex;have hex':exB z q.name=false:=by simpa using hex
     have hno:=Zx ho hu hex' hc';unfold bd;split
     .simp only[Dz];generalize starN (encN z q.name)=s;rcases says_kind ((allR z s).map (Ps q.name)) q.typ with⟨k,k'⟩|⟨k,kt⟩|⟨k,kt,kr⟩
      .refine⟨fun h=> ?_,fun _=>hno,fun h=> ?_,fun h=> ?_,fun h=> ?_,fun h=> ?_,.inr (.inr (.inl ⟨k,k'⟩))⟩<;>simp[k] at h
      .refine⟨fun h=> ?_,fun _=>hno,fun h=> ?_,fun _=> ?_,fun h=> ?_,fun h=> ?_,by simp[k]⟩
       .simp[k] at h
       .simp[k] at h
       .show N6 z s q.typ=0;rw[Mm,<-jz (allR z s) q.name q.typ,kt];rfl
       .simp[k] at h
       .simp[k] at h
      .refine⟨fun _=>⟨?_,?_,fun h=> ?_,?_⟩,fun _=>hno,fun h=> ?_,fun h=> ?_,fun h=> ?_,fun h=> ?_,by simp[k]⟩
       .show (saysM ((allR z s).map (Ps q.name)) q.typ).recs≠[];rw[kr];exact kt
       .show (saysM ((allR z s).map (Ps q.name)) q.typ).recs.length=N6 z s q.typ;rw[kr,Mm,jz]
       .simp at h
       .intro x hx;change x∈(saysM ((allR z s).map (Ps q.name)) q.typ).recs at hx;rw[kr] at hx;obtain⟨h1,h2⟩:=jb hx;obtain⟨y,h3,rfl⟩:=Ev.1 h1;obtain⟨h4,h5⟩:=Cm.1 h3;have h6:y.name=s:=by simpa using h5
        refine⟨rfl,h2,?_⟩;show {Ps q.name y with name:=s}∈z.recs;rw[<-h6];exact h4
       .simp[k] at h
       .simp[k] at h
       .simp[k] at h
       .simp[k] at h
     .simp only[Option.getD_none];refine⟨fun h=>by simp at h,fun _=>hno,fun h=>by simp at h,fun h=>by simp at h,fun _=>⟨rfl,rfl⟩,fun h=>by simp at h,by simp⟩
 .rename_i hu;have hu':under q.name z.origin=false:=by simpa using hu
  refine⟨fun h=>by simp at h,fun h=>by simp at h,fun _=>hu',fun h=>by simp at h,fun h=>by simp at h,fun h=>by simp at h,by simp⟩
def Fy2 (x y:Int):Dd4 (orB x y):=by have h:=(BitVec.ofInt IntKind.u64.bits x|||BitVec.ofInt IntKind.u64.bits y).isLt;have h2:(2:Nat) ^ IntKind.u64.bits=18446744073709551616:=rfl;unfold orB Dd4;rw[Hq4 (by omega) (by omega)];omega
def Ej8 {z:Zone} (hz:z.wf):R6 (X2 z):=by
 unfold X2;cases e:findR z.recs z.origin 6 with
 |nil=>unfold R6;simp
 |cons r l=>
  have:r∈findR z.recs z.origin 6:=by rw[e];exact .head _
  exact(hz.recs.2 r (Lp.1 this).1).data.e
def qz {z:Zone} (hz:z.wf):∀a∈chain0 z (X2 z),a.wf:=fun a ha=>by obtain⟨n,hn,_,rfl⟩:=Bx3 ha;have hv:=J0 (Dq.1 (Ex1 (z:=z) (n:=n) (by rw[<-Xy];simpa using hn))).1;exact⟨by unfold Uw;simp only;omega,by unfold R6;simp,Ej8 hz,⟨by unfold Dd4;simp,by unfold Dd4;simp,hz.origin,by unfold Uw;simp,by unfold Uw;simp,by unfold R6;simp,by unfold R6;simp,by unfold R6;simp,by unfold R6;simp,by unfold R6;simp,by unfold R6;simp,Fy2 _ _⟩⟩
def Cf7 {z:Zone} (hz:z.wf):∀a∈chainN z,a.wf:=fun b hb=>by
 obtain⟨j,hj⟩:=List.mem_iff_getElem?.1 hb;obtain⟨c,hc,rfl⟩:=Tj hj;have hw:=qz hz c (Cz hc);unfold nxt;split
 .rename_i d hd;have hd:=qz hz d (Cz hd);exact⟨hw.name,hw.typ,hw.ttl,⟨hw.data.hi,hw.data.lo,hd.name,hw.data.mail,hw.data.text,hw.data.a,hw.data.b,hw.data.c,hw.data.d,hw.data.e,hw.data.f,hw.data.bits⟩⟩
 .exact hw
def oy (z:Zone) (name owner star:List UInt8) (r:Rec):Bool:=decide (r.name=owner)||S8 r z.origin name||(decide (star≠[]) && S8 r z.origin star)
def Ef7 (x:Res) (name:List UInt8):List UInt8:=if x.wild=true then x.owner else name
def Gn9 (z:Zone) (x:Res) (name:List UInt8):List UInt8:=if x.kind=6 then starN (encN z name) else []
def neededN (z:Zone) (name:List UInt8):List Rec:=
 if M2 z=0 then
  if(findM z ⟨name,43⟩).kind=0∨(findM z ⟨name,43⟩).kind=4∨(findM z ⟨name,43⟩).kind=3 then []
  else(chainN z).filter (oy z name (Ef7 (findM z ⟨name,43⟩) name) (Gn9 z (findM z ⟨name,43⟩) name))
 else []
def Bs2 (n:List UInt8):(starN n).length<=254:=by
 unfold starN;split
 .rename_i h;unfold starOk at h;simp only[Br] at h;exact J0 h.2
 .simp
def By6 (z:Zone) (name owner star:List UInt8) (r:Rec) (hr:r.wf) (hz:z.wf) (hn:name.length<=9223372036854775807) (hs:star.length<=9223372036854775807):S Tp 1 [r.pv,.s owner,z.pv,.s name,.s star]=some [.b (!oy z name owner star r)]:=by
 refine Gd3 (N:=1) rfl ?_;have g1:=hz.origin;unfold Uw at g1;have k1:=rv r z.origin name hr g1 hn;have k2:=rv r z.origin star hr g1 hs;unfold oy;by_cases h1:r.name=owner
 .simp(disch:=omega)only[Aq1,h1,G1,H0,Ad,simprocAttr]
  try simp
 .rcases Bn (S8 r z.origin name) with e1|e1
  .simp(disch:=omega)only[Aq1,h1,k1,e1,G1,H0,Ad,simprocAttr]
   try simp
  .by_cases h2:star=[]
   .subst h2;simp(disch:=omega)only[Aq1,h1,k1,e1,G1,H0,Ad,simprocAttr]
    try simp[h1]
   .rcases Bn (S8 r z.origin star) with e2|e2<;>simp(disch:=omega)only[Aq1,h1,h2,k1,k2,e1,e2,G1,H0,Ad,simprocAttr]<;>simp[h1,h2]
def Tx (z:Zone) (name owner star:List UInt8) (hz:z.wf) (l:List Rec) (hw:∀r∈l,r.wf) (hl:l.length<=1000000) (hn:name.length<=9223372036854775807) (hs:star.length<=9223372036854775807):
  S Q3 1048578 [B6 l,.f Tp [.s owner,z.pv,.s name,.s star]]=some [B6 (l.filter (oy z name owner star))]:=by
 have:=Tz l Tp [.s owner,z.pv,.s name,.s star] (fun r=> !oy z name owner star r) hl (fun r hr=>By6 z name owner star r (hw r hr) hz hn hs);simpa using this
def Dq9 {z:Zone} (hl:z.recs.length<=1000):(chainN z).length<=1000000:=by have:=Tq z (X2 z);have:=On z hl;rw[S9];omega
def By5 (z:Zone) (name:List UInt8) (hz:z.wf) (hw:M2 z=0->∀a∈chainN z,a.wf) (hl:z.recs.length<=1000) (hn:name.length<=9223372036854775807):S Ds8 2 [z.pv,.s name]=some [B6 (neededN z name)]:=by
 refine Hc8 (N:=1) rfl ?_;have k1:=Dc9 z hz hl;unfold neededN;by_cases h:M2 z=0
 .rw[if_pos h] at k1 ⊢;have ho:=Xm h;have hw:=hw h;have hcl:=Dq9 hl;have k2:=Ct7 z ⟨name,43⟩ hz hl hn;have hx:=Ct6 z ⟨name,43⟩ ho;have k3:=Nv z name hz hl hn;have el:=fj z name;have k4:=g7 (encN z name) (by omega);have sl:=Bs2 (encN z name);have d1:=Tx z name name (starN (encN z name)) hz (chainN z) hw hcl hn (by omega);generalize findM z ⟨name,43⟩=x at*;have d2:=Tx z name x.owner [] hz (chainN z) hw hcl hn (by simp);have d3:=Tx z name name [] hz (chainN z) hw hcl hn (by simp);generalize chainN z=l at*;unfold Ef7 Gn9;by_cases h0:x.kind=0
  .simp(disch:=omega)only[sy,k1,k2,h0,T1,G1,H0,EVM,EVR,Ad,simprocAttr]
   try simp
  .by_cases h4:x.kind=4
   .simp(disch:=omega)only[sy,k1,k2,h0,h4,T1,G1,H0,EVM,EVR,Ad,simprocAttr]
    try simp
   .by_cases h3:x.kind=3
    .simp(disch:=omega)only[sy,k1,k2,h0,h4,h3,T1,G1,H0,EVM,EVR,Ad,simprocAttr]
     try simp
    .rw[if_neg (by simp[h0,h4,h3])];by_cases h6:x.kind=6
     .rw[if_pos h6,(hx.nx h6).2,if_neg (by simp)];generalize starN (encN z name)=st at*;generalize starOk (encN z name)=so at*;generalize List.filter (oy z name name st) l=fl at*;simp(disch:=omega)only[sy,k1,k2,k3,k4,d1,h0,h4,h3,h6,Ew,Il,T1,G1,H0,EVM,EVR,Ad,simprocAttr]
     .rw[if_neg h6];rcases Bn x.wild with e|e
      .rw[if_pos e];generalize List.filter (oy z name x.owner []) l=fl at*;simp(disch:=omega)only[sy,k1,k2,d2,h0,h4,h3,h6,e,Ew,Il,T1,G1,H0,EVM,EVR,Ad,simprocAttr]
      .rw[if_neg (by rw[e];simp)];generalize List.filter (oy z name name []) l=fl at*;simp(disch:=omega)only[sy,k1,k2,d3,h0,h4,h3,h6,e,Ew,Il,T1,G1,H0,EVM,EVR,Ad,simprocAttr]
 .rw[if_neg h] at k1 ⊢;simp(disch:=omega)only[sy,k1,T1,G1,H0,EVM,EVR,Ad,simprocAttr]
end Go.X.G
/- Sets of records: what the program's and the reference's functions give. -/
namespace Go.X
open Go
structure SetR where
 name:List UInt8
 typ:Int
 ttl:Int
 data:List Dat
 deriving DecidableEq
def Hq (l:List Dat):PV:= .l 13 (l.map Dat.pv)
def SetR.pv (x:SetR):PV:= .a [.s x.name,.i .i64 x.typ,.i .i64 x.ttl,Hq x.data]
def Gj (l:List SetR):PV:= .l 4 (l.map SetR.pv)
def Ey0:PV.l 13 []=Hq []:=rfl
def Dm0:PV.l 4 []=Gj []:=rfl
def Cx9 (x:SetR):Dj 0 x.pv=some (.s x.name):=rfl
def Cx8 (x:SetR):Dj 1 x.pv=some (.i .i64 x.typ):=rfl
def Cx7 (x:SetR):Dj 2 x.pv=some (.i .i64 x.ttl):=rfl
def Cx6 (x:SetR):Dj 3 x.pv=some (Hq x.data):=rfl
def Fd4 (x:SetR):S3 4 x.pv=some x.pv:=rfl
def Fv2 (x:SetR):K1 0 4 x.pv=some x.pv:=rfl
def Ct4 (n:List UInt8) (t u:Int) (d:List Dat):PV.a [.s n,.i .i64 t,.i .i64 u,Hq d]=SetR.pv ⟨n,t,u,d⟩:=rfl
def Fg1 (x:SetR):(⟨x.name,x.typ,x.ttl,x.data⟩:SetR)=x:=rfl
def Fb9 (x:SetR):J2 4 [x.pv]=some (Gj [x]):=rfl
def Fc3 (x:Dat):J2 13 [x.pv]=some (Hq [x]):=rfl
def Ad1 (l:List SetR):Gl (Gj l)=some (.i .i64 (l.length:Int)):=by simp[Gj,Gl]
def Ek8 (l:List Dat):Gl (Hq l)=some (.i .i64 (l.length:Int)):=by simp[Hq,Gl]
def Cj0 (l:List SetR):I5 (Gj l)=some (Gj l):=rfl
def Cj4 (l:List Dat):I5 (Hq l)=some (Hq l):=rfl
def Af3 (l:List SetR) (k:IntKind) (z:Int) (h:0<=z):Hm 4 (Gj l) (.i k z)=(l[z.toNat]?).map SetR.pv:=by simp[Gj,Uz _ _ _ _ h]
def Ev3 (l:List Dat) (k:IntKind) (z:Int) (h:0<=z):Hm 13 (Hq l) (.i k z)=(l[z.toNat]?).map Dat.pv:=by simp[Hq,Uz _ _ _ _ h]
def Db0 (l:List SetR) (x:SetR) (h:l.length+1<=1073741824):I4 4 (Gj l) (Gj [x])=some (Gj (l++[x])):=by have:=Rr 4 (l.map SetR.pv) [x.pv] (by simpa using h);simpa [Gj] using this
def Db4 (l:List Dat) (x:Dat) (h:l.length+1<=1073741824):I4 13 (Hq l) (Hq [x])=some (Hq (l++[x])):=by have:=Rr 13 (l.map Dat.pv) [x.pv] (by simpa using h);simpa [Hq] using this
def Aw4 {l:List SetR} {k:IntKind} {z:Int} {x y:SetR} {off:Nat} {vs:List PV} (h0:0<=z) (h3:l[z.toNat]? =some x) (h:Nf x.pv off vs=some y.pv):Mj 4 off vs (Gj l) (.i k z)=some (Gj (l.set z.toNat y)):=by
 have h4:(l.map SetR.pv)[z.toNat]? =some x.pv:=by rw[C5,h3];rfl
 simp only[Mj,Gj,h0,h4,and_self,if_true,B0,h,Cc];simp[List.map_set]
set_option linter.defProp false in
def rq:=(And.intro @Ey0 (And.intro @Dm0 (And.intro @Cx9 (And.intro @Cx8 (And.intro @Cx7 (And.intro @Cx6 (And.intro @Fd4 (And.intro @Fv2 (And.intro @Ct4 (And.intro @Fg1 (And.intro @Fb9 (And.intro @Fc3 (And.intro @Ad1 (And.intro @Ek8 (And.intro @Cj0 (And.intro @Cj4 (And.intro @Af3 (And.intro @Ev3 (And.intro @Db0 @Db4)))))))))))))))))))
end Go.X
namespace Go.X.G
open Go Go.X
def addS (g:List SetR) (r:Rec):List SetR:=
 match g.getLast? with
 |some x=>if x.name=r.name∧x.typ=r.typ then g.dropLast++[⟨x.name,x.typ,if r.ttl<x.ttl then r.ttl else x.ttl,x.data++[r.data]⟩] else g++[⟨r.name,r.typ,r.ttl,[r.data]⟩]
 |none=>[⟨r.name,r.typ,r.ttl,[r.data]⟩]
def Fw7 (l:List Rec):List SetR:=l.foldl addS []
def setsR (l:List Rec):List SetR:=Fw7 (sortR l)
def Rj (g:List SetR):List Dat:=((g.getLast?).map SetR.data).getD []
def Bt7 {g:List SetR} {x:SetR} (h:g.getLast? =some x) (y:SetR):g.set (g.length - 1) y=g.dropLast++[y]:=by obtain⟨a,rfl⟩:=List.getLast?_eq_some_iff.1 h;simp
def Al9 (g:List SetR) (r:Rec):(addS g r).length<=g.length+1:=by
 unfold addS;split
 .split
  .simp
  .simp
 .simp
def Bt6 (x:SetR) (g:List SetR) (c:Rec) (s:List Rec) (i:Nat) (p0 p2 p3:PV) (d:List Dat) (N:Nat) (hc:s[i]? =some c) (hg:g.getLast? =some x) (hl:g.length<=1000000) (hd:d.length<=1000000) (hi:i<=1000000) (hxd:x.data=d):
  Dw6.ev S N [p0,B6 s,p2,p3,.i .i64 (i:Int),Gj g,Hq d,.i .i64 (g.length:Int)]=some (.yld 1 [Gj (g.dropLast++[⟨x.name,x.typ,if c.ttl<x.ttl then c.ttl else x.ttl,d++[c.data]⟩]),Hq (d++[c.data]),.i .i64 ((i+1:Nat):Int)]):=by
 have hpos:0<g.length:=by cases g<;>simp at hg ⊢
 have e1:((g.length:Int) - 1).toNat=g.length - 1:=by omega
 have hx:g[((g.length:Int) - 1).toNat]? =some x:=by rw[e1,<-Pm];exact hg
 have hw:IntKind.i64.wrap ((g.length:Int) - 1)=(g.length:Int) - 1:=w64 (by omega) (by omega);let y:SetR:=⟨x.name,x.typ,if c.ttl<x.ttl then c.ttl else x.ttl,x.data⟩;let z:SetR:=⟨x.name,x.typ,if c.ttl<x.ttl then c.ttl else x.ttl,d++[c.data]⟩;have s1:Mj 4 2 [.i .i64 (if c.ttl<x.ttl then c.ttl else x.ttl)] (Gj g) (.i .i64 ((g.length:Int) - 1))=some (Gj (g.set (g.length - 1) y)):=by rw[<-e1];exact Aw4 (by omega) hx rfl
 have hl2:(g.set (g.length - 1) y).length=g.length:=by simp
 have hx2:(g.set (g.length - 1) y)[((g.length:Int) - 1).toNat]? =some y:=by rw[e1,L2 (by omega)]
 have s2:Mj 4 3 [Hq (d++[c.data])] (Gj (g.set (g.length - 1) y)) (.i .i64 ((g.length:Int) - 1))=some (Gj (g.dropLast++[z])):=by rw[Aw4 (x:=y) (y:=z) (by omega) hx2 rfl,e1,List.set_set,Bt7 hg]
 have hmn:Ej7 (.i .i64 x.ttl) (.i .i64 c.ttl)=some (.i .i64 (if c.ttl<x.ttl then c.ttl else x.ttl)):=by simp[Ej7]
 have hy3:Dj 3 y.pv=some (Hq x.data):=rfl;have i1:Hm 4 (Gj (g.set (g.length - 1) y)) (.i .i64 ((g.length:Int) - 1))=some y.pv:=by rw[Af3 _ _ _ (by omega),hx2];rfl
 have n1:Gl (Gj (g.set (g.length - 1) y))=some (.i .i64 (g.length:Int)):=by rw[Ad1,hl2]
 generalize hG:Gj (g.set (g.length - 1) y)=G at*;generalize hY:y.pv=Y at*;simp(disch:=omega)only[sn,hc,hx,hw,hmn,s1,s2,i1,n1,hy3,rq,Af,simprocAttr]
 try rfl
structure SetsIn (g:List SetR) (i:Nat):Prop where
 len:g.length<=i
 each:∀x∈g,x.data.length<=i
def Fp6 {g:List SetR} {i:Nat} (h:SetsIn g i) (c:Rec):SetsIn (addS g c) (i+1):=by
 refine⟨Ds (Al9 g c) (by have:=h.len;omega),fun x hx=> ?_⟩;unfold addS at hx;split at hx
 .rename_i y hy;have hym:y∈g:=Kf hy;split at hx
  .rcases Cf.1 hx with hx|hx
   .have:=h.each x (List.dropLast_subset _ hx);omega
   .rw[Cg.1 hx];have:=h.each y hym;simp;omega
  .rcases Cf.1 hx with hx|hx
   .have:=h.each x hx;omega
   .rw[Cg.1 hx];simp
 .rw[Cg.1 hx];simp
def Zr (g:List SetR) (c:Rec):Rj (addS g c)=match g.getLast? with
  |some x=>if x.name=c.name∧x.typ=c.typ then x.data++[c.data] else [c.data]
  |none=>[c.data]:=by
 unfold addS Rj;split
 .split<;>simp
 .simp
def Av7:∀(l acc:List Rec),(l.foldl (fun a x=>Yx x a) acc).length<=acc.length+l.length
 |[],acc=>by simp
 |x::l,acc=>by have h1:=Av7 l (Yx x acc);have h2:=Af2 x acc;simp only[Hq3,Cv];omega
def Av6 (l:List Rec):(sortR l).length<=l.length:=by simpa [sortR] using Av7 l []
def Eb3 (l:List Rec) (hw:∀r∈l,r.wf) (hl:l.length<=100000):S Dt0 1 [B6 l]=some [Gj (setsR l)]:=by
 have hs:=Am2 l hw (by omega);have hsl:(sortR l).length<=1000000:=by have:=Av6 l;omega
 generalize hsd:sortR l=s at*;obtain⟨N,hN⟩:∃N,N=s.length+1:=⟨_,rfl⟩;refine Hd1 (N:=N) rfl ?_;have key:Eg8.ev S N [B6 l,B6 s]=some (.yld 0 [Gj (s.foldl addS []),Hq (Rj (s.foldl addS []))]):=by
  refine E5 s (fun i (g:List SetR)=>[Gj g,Hq (Rj g),.i .i64 (i:Int)]) (fun i g r=> .yld 0 [Gj (r.foldl addS g),Hq (Rj (r.foldl addS g))]) (fun i g=>SetsIn g i) [] rfl ⟨B7 _,fun x hx=>by cases hx⟩ (by omega) (fun i g c r hd hi hc hI=> ?_) (fun g hI=> ?_)
  .left;refine⟨addS g c,?_,Fp6 hI c,rfl⟩;have hgl:=hI.len;have hilt:(i:Int)<(s.length:Int):=by omega
   cases hg:g.getLast? with
   |none=>
    have hg0:g=[]:=List.getLast?_eq_none_iff.1 hg;subst hg0;have k:=Bt6 ⟨c.name,c.typ,c.ttl,[]⟩ [⟨c.name,c.typ,c.ttl,[]⟩] c s i (B6 l) (Gj []) (Hq (Rj [])) [] N hc rfl (by simp) (by simp) (by omega) rfl;have e1:(([⟨c.name,c.typ,c.ttl,[]⟩]:List SetR).length:Int)=1:=rfl;have e2:([⟨c.name,c.typ,c.ttl,[]⟩]:List SetR).dropLast++[⟨c.name,c.typ,if c.ttl<c.ttl then c.ttl else c.ttl,[]++[c.data]⟩]=addS [] c:=by simp[addS]
    have e3:([]++[c.data]:List Dat)=Rj (addS [] c):=by simp[addS,Rj]
    rw[e1,e2,e3] at k;generalize addS [] c=G at*;simp(disch:=omega)only[sn,hc,hilt,k,rq,Af,simprocAttr]
   |some x=>
    have hpos:0<g.length:=by cases g<;>simp at hg ⊢
    have hx:g[((g.length:Int) - 1).toNat]? =some x:=by rw[show ((g.length:Int) - 1).toNat=g.length - 1 by omega,<-Pm];exact hg
    have hxm:x∈g:=Kf hg;have hxd:=hI.each x hxm;have hn0:¬(g.length:Int)=0:=by omega
    have hld:Rj g=x.data:=by simp[Rj,hg]
    by_cases hk:x.name=c.name∧x.typ=c.typ
    .have k:=Bt6 x g c s i (B6 l) (Gj g) (Hq (Rj g)) x.data N hc hg (by omega) (by omega) (by omega) rfl;have e2:g.dropLast++[⟨x.name,x.typ,if c.ttl<x.ttl then c.ttl else x.ttl,x.data++[c.data]⟩]=addS g c:=by simp[addS,hg,hk]
     have e3:x.data++[c.data]=Rj (addS g c):=by rw[Zr,hg];simp[hk]
     rw[e2,e3,hld] at k;rw[hld];generalize addS g c=G at*;simp(disch:=omega)only[sn,hc,hilt,hx,hn0,hk.1,hk.2,k,rq,Af,simprocAttr]
    .have k:=Bt6 ⟨c.name,c.typ,c.ttl,[]⟩ (g++[⟨c.name,c.typ,c.ttl,[]⟩]) c s i (B6 l) (Gj g) (Hq (Rj g)) [] N hc (by simp) (by simp;omega) (by simp) (by omega) rfl;have e1:((g++[⟨c.name,c.typ,c.ttl,[]⟩]:List SetR).length:Int)=(g.length:Int)+1:=by simp
     have e2:(g++[⟨c.name,c.typ,c.ttl,[]⟩]:List SetR).dropLast++[⟨c.name,c.typ,if c.ttl<c.ttl then c.ttl else c.ttl,[]++[c.data]⟩]=addS g c:=by simp[addS,hg,hk]
     have e3:([]++[c.data]:List Dat)=Rj (addS g c):=by rw[Zr,hg];simp[hk]
     rw[e1,e2,e3,hld] at k;rw[hld];generalize addS g c=G at*;by_cases h1:x.name=c.name
     .have h2:¬x.typ=c.typ:=fun h=>hk ⟨h1,h⟩;simp(disch:=omega)only[sn,hc,hilt,hx,hn0,h1,h2,k,rq,Af,simprocAttr]
     .simp(disch:=omega)only[sn,hc,hilt,hx,hn0,h1,k,rq,Af,simprocAttr]
  .simp(disch:=omega)only[sn,rq,Af,simprocAttr];simp[Out.goes]
 simp(disch:=omega)only[sn,hs,key,rq,Af,simprocAttr];simp[setsR,Fw7,hsd]
end Go.X.G
namespace Go.X.G
open Go Go.X
def covR (z:Zone) (n:List UInt8) (t:Int):List Rec:=z.recs.filter fun r=>decide (r.name=n) && decide (r.typ=46) && decide (r.data.a=t)
def Dq2 (z:Zone) (n:List UInt8) (t:Int):(findR z.recs n 46).filter (fun r=> !decide (r.data.a≠t))=covR z n t:=by unfold findR covR;rw[List.filter_filter];refine List.filter_congr fun r _=> ?_;unfold isK;by_cases h1:r.name=n<;>by_cases h2:r.typ=46<;>by_cases h3:r.data.a=t<;>simp[h1,h2,h3]
def fc (z:Zone) (n:List UInt8) (t:Int):(covR z n t).length<=z.recs.length:=D3 _ _
def sigsOf (z:Zone) (n:List UInt8) (t:Int):List Rec:=
 if under n z.origin=false∨exB z n=true then covR z n t
 else if starOk (encN z n)=true then(covR z (starN (encN z n)) t).map (Ps n) else []
def Sd (z:Zone) (n:List UInt8) (t:Int):(sigsOf z n t).length<=z.recs.length:=by
 unfold sigsOf;split
 .exact fc z n t
 .split
  .rw[E3];exact fc z _ t
  .simp
def Av9 (z:Zone) (x:SetR):List Rec:=if x.typ=46 then [] else sigsOf z x.name x.typ
def sigsR (z:Zone) (l:List Rec):List Rec:=(setsR l).flatMap (Av9 z)
def Dl9 (r:Rec) (t:Int):S mb 1 [r.pv,.i .i64 t]=some [.b (decide (r.data.a≠t))]:=by refine Gz8 (N:=1) rfl ?_;by_cases h:r.data.a=t<;>simp(disch:=omega)only[Ft5,h,Ad,simprocAttr]<;>simp
def Av8 (z:Zone) (n:List UInt8) (t:Int) (hl:z.recs.length<=1000):S m8 3 [z.pv,.s n,.i .i64 t]=some [B6 (covR z n t)]:=by refine Gd5 (N:=1) rfl ?_;have k1:=Jx z n 46 (by omega);have hl2:=Hw z n 46;have k2:=Ox (findR z.recs n 46) (by omega);have k3:=Tz (findR z.recs n 46) mb [.i .i64 t] (fun r=>decide (r.data.a≠t)) (by omega) (fun r _=>Dl9 r t);rw[Dq2] at k3;generalize findR z.recs n 46=fl at*;generalize covR z n t=cv at*;simp(disch:=omega)only[Gj4,k1,k2,k3,Ew,Il,Ad,simprocAttr]
def Hm0 (z:Zone) (x:SetR) (l:List Rec) (p2 p3 p4 p5 p6 p7:PV) (N:Nat) (hN:l.length<N) (hl:l.length<=1000000):
  Eg7.ev S N [z.pv,x.pv,p2,p3,p4,p5,p6,p7,B6 l]=some (.yld 0 [B6 (l.map (Ps x.name))]):=by
 refine E5 l (fun i (g:List Rec)=>[B6 g,.i .i64 (i:Int)]) (fun i g r=> .yld 0 [B6 (l.map (Ps x.name))]) (fun i g=>g=(l.take i).map (Ps x.name)++l.drop i) l rfl (by simp) hN (fun i g c r hd hi hc hI=> ?_) (fun g hI=> ?_)
 .left;obtain⟨h1,h2,h3⟩:=Ax1 l x.name i c r g hd hi hc hI;refine⟨g.set i {c with name:=x.name},?_,h3,rfl⟩;have hs:Mj 16 0 [.s x.name] (B6 g) (.i .i64 (i:Int))=some (B6 (g.set i {c with name:=x.name})):=by have:=j9 g .i64 (i:Int) x.name c (by omega) (by rw[F0];exact h1);rwa[F0] at this
  have hil:(i:Int)<(l.length:Int):=by omega
  generalize g.set i {c with name:=x.name}=g' at*;simp(disch:=omega)only[Am5,h1,hs,hil,rq,Ad,simprocAttr]
 .have e:g=l.map (Ps x.name):=by rw[hI];simp
  rw[<-e];simp(disch:=omega)only[Am5,Hh,rq,Ad,simprocAttr]
  try simp[Out.goes]
def Hl9 (z:Zone) (x:SetR) (hz:z.wf) (hl:z.recs.length<=1000) (hn:x.name.length<=9223372036854775807):S Ds9 2 [z.pv,x.pv]=some [B6 (sigsOf z x.name x.typ)]:=by
 refine Hd0 (N:=2000) rfl ?_;have g1:=hz.origin;unfold Uw at g1;have k1:=Fc x.name z.origin hn g1;have k2:=Yn z x.name hz hl;have k3:=Nv z x.name hz hl hn;have el:=fj z x.name;have k4:=g7 (encN z x.name) (by omega);have k5:=Av8 z x.name x.typ hl;have k6:=Av8 z (starN (encN z x.name)) x.typ hl;have cl:=fc z (starN (encN z x.name)) x.typ;have k7:=fun p2 p3 p4 p5 p6 p7=>Hm0 z x (covR z (starN (encN z x.name)) x.typ) p2 p3 p4 p5 p6 p7 2000 (by omega) (by omega);unfold sigsOf;generalize covR z (starN (encN z x.name)) x.typ=cs at*;generalize covR z x.name x.typ=cn at*;rcases Bn (under x.name z.origin) with h1|h1
 .rcases Bn (exB z x.name) with h2|h2
  .rw[if_pos (.inr h2)];simp(disch:=omega)only[Am5,k1,k2,k5,h1,h2,rq,Ad,simprocAttr]
  .rw[if_neg (by simp[h1,h2])];generalize starN (encN z x.name)=st at*;rcases Bn (starOk (encN z x.name)) with h3|h3
   .rw[if_pos h3];generalize cs.map (Ps x.name)=cm at*;simp(disch:=omega)only[Am5,k1,k2,k3,k4,k6,k7,h1,h2,h3,rq,Ad,simprocAttr]
   .rw[if_neg (by simp[h3])];simp(disch:=omega)only[Am5,k1,k2,k3,k4,h1,h2,h3,rq,Ad,simprocAttr]
 .rw[if_pos (.inl h1)];simp(disch:=omega)only[Am5,k1,k5,h1,rq,Ad,simprocAttr]
def Aw3:∀(l:List Rec) (g:List SetR),(l.foldl addS g).length<=g.length+l.length
 |[],_=>B7 _
 |r::l,g=>by have h1:=Aw3 l (addS g r);have h2:=Al9 g r;rw[Hq3,Cv];omega
def Aw1 (l:List Rec):(setsR l).length<=l.length:=by have h1:=Aw3 (sortR l) [];have h2:=Av6 l;unfold setsR Fw7;rw[C1] at h1;omega
def Fp5 {P:List UInt8->Prop} {g:List SetR} {r:Rec} (hg:∀x∈g,P x.name) (hr:P r.name):∀x∈addS g r,P x.name:=by
 intro x hx;unfold addS at hx;split at hx
 .rename_i y hy;split at hx
  .rcases Cf.1 hx with h|h
   .exact hg x (List.dropLast_subset _ h)
   .rw[Cg.1 h];exact hg y (Kf hy)
  .rcases Cf.1 hx with h|h
   .exact hg x h
   .rw[Cg.1 h];exact hr
 .rw[Cg.1 hx];exact hr
def Aw2 {P:List UInt8->Prop}:∀(l:List Rec) (g:List SetR),(∀x∈g,P x.name)->(∀r∈l,P r.name)->∀x∈l.foldl addS g,P x.name
 |[],_,hg,_=>hg
 |r::l,g,hg,hl=>Aw2 l (addS g r) (Fp5 hg (hl r (.head _))) (fun y hy=>hl y (.tail _ hy))
def Aw0 (l:List Rec) (hw:∀r∈l,r.wf):∀x∈setsR l,x.name.length<=9223372036854775807:=
 Aw2 (P:=fun n=>n.length<=9223372036854775807) (sortR l) [] (by simp) (fun r hr=>by have:=(hw r (((Oh l).2 r).1 hr).mem).name;unfold Uw at this;exact this)
def Vb (z:Zone) (l:List Rec) (hz:z.wf) (hl:z.recs.length<=60) (hw:∀r∈l,r.wf) (hll:l.length<=100000):S Bk6 2 [z.pv,B6 l]=some [B6 (sigsR z l)]:=by
 have k1:=Eb3 l hw (by omega);have hn:=Aw0 l hw;have hs:=Aw1 l;unfold sigsR;generalize setsR l=s at*;refine Hh1 (N:=s.length+1) rfl ?_;have key:El4.ev S (s.length+1) [z.pv,B6 l,Gj s]=some (.yld 0 [B6 ([]++s.flatMap (Av9 z))]):=by
  refine E5 s (fun i (g:List Rec)=>[B6 g,.i .i64 (i:Int)]) (fun i g r=> .yld 0 [B6 (g++r.flatMap (Av9 z))]) (fun i g=>g.length<=i*60) [] rfl (Db _) (by omega) (fun i g c r hd hi hc hI=> ?_) (fun g hI=> ?_)
  .left;refine⟨g++Av9 z c,?_,?_,by rw[Ft,Cw]⟩
   .have ko:=Hl9 z c hz (by omega) (hn c (Cz hc));have sl:=Sd z c.name c.typ;have hil:(i:Int)<(s.length:Int):=by omega
    unfold Av9;generalize sigsOf z c.name c.typ=so at*;by_cases h:c.typ=46
    .rw[if_pos h,E4];simp(disch:=omega)only[Dg0,hc,hil,h,rq,Ad,simprocAttr]
    .rw[if_neg h];simp(disch:=omega)only[Dg0,hc,hil,h,ko,rq,Ad,simprocAttr]
   .have sl:=Sd z c.name c.typ;unfold Av9;rw[Bt];split
    .exact Ds hI (C0 _ (Nat.le_succ i))
    .omega
  .simp(disch:=omega)only[Dg0,Hh,rq,Ad,simprocAttr];simp[Out.goes]
 rw[Dc] at key;generalize s.flatMap (Av9 z)=out at*;simp(disch:=omega)only[Dg0,k1,key,rq,Ad,simprocAttr]
def I7 (z:Zone) (l:List Rec) (hl:z.recs.length<=60):(sigsR z l).length<=l.length*60:=by
 have h:∀s:List SetR,(s.flatMap (Av9 z)).length<=s.length*60:=fun s=>by
  induction s with
  |nil=>simp
  |cons x s ih=>
   rw[Ft,Bt,Cv];have:(Av9 z x).length<=60:=by
    unfold Av9;split
    .simp
    .exact Ds (Sd z _ _) hl
   omega
 have h1:=h (setsR l);have h2:=Aw1 l;unfold sigsR;omega
def Bt0 (z:Zone) (l:List Rec) (hl:z.recs.length<=60) (hll:l.length<=16000):(sigsR z l).length<=960000:=by have:=I7 z l hl;omega
def Ip:Zone:=⟨[120,46],[⟨[120,46],2,9,⟨false,0,0,[110,46],[],[],0,0,0,0,0,0,0⟩⟩,
 ⟨[120,46],6,9,⟨false,0,0,[110,46],[109,46],[],3,0,0,0,5,0,0⟩⟩,
 ⟨[120,46],47,5,⟨false,0,0,[42,46,120,46],[],[],0,0,0,0,0,0,211106232533060⟩⟩,
 ⟨[42,46,120,46],1,9,⟨false,0,1,[],[],[],0,0,0,0,0,0,0⟩⟩,
 ⟨[42,46,120,46],46,9,⟨false,0,0,[120,46],[],[115],1,1,9,9,0,0,0⟩⟩,
 ⟨[42,46,120,46],47,5,⟨false,0,0,[120,46],[],[],0,0,0,0,0,0,211106232532994⟩⟩]⟩
def Gw3:Rec:=⟨[97,46,120,46],46,9,⟨false,0,0,[120,46],[],[115],1,1,9,9,0,0,0⟩⟩
def uj:S Fz6 0 []=some [Ip.pv]:=(Pp ext_mono).2 ⟨3,by kernel_rfl⟩
def Dl5:Ip.wf:=by refine⟨by unfold Uw;decide,by decide,fun r hr=> ?_⟩;simp only[Ip,Cj,List.mem_nil_iff,or_false] at hr;rcases hr with rfl|rfl|rfl|rfl|rfl|rfl<;>(constructor<;>(try constructor))<;>simp[Dd4,R6,Uw]
def Dc4 (l:List Rec) (x:Rec) (hl:l.length<=100000000):∃k:Int,(0<=k↔x∈l)∧S Ab6 2 [B6 l,x.pv]=some [.i .i64 k]:=by
 have key:Cp8.ev S (l.length+1) [B6 l,x.pv]=some (match l.findIdx? (·=x) with|some j=> .ret [.i .i64 ((0+j:Nat):Int)]|none=> .yld 0 []):=by
  refine F4 l (fun i=>[.i .i64 (i:Int)]) (fun i r=>match r.findIdx? (·=x) with|some j=> .ret [.i .i64 ((i+j:Nat):Int)]|none=> .yld 0 []) rfl (by omega) (fun i c r hd hi hc=> ?_) ?_
  .by_cases h:x=c
   .right;subst h;simp(disch:=omega)only[i9,hc,Ad,simprocAttr];simp[Nq,Out.goes]
   .left;have h':¬c=x:=fun e=>h e.symm;simp(disch:=omega)only[i9,hc,h,Ad,simprocAttr];refine⟨trivial,?_⟩;simp only[Nq,h',decide_false,B5,if_false];cases r.findIdx? (·=x) with
    |none=>rfl
    |some j=>simp;omega
  .simp(disch:=omega)only[i9,Ad,simprocAttr];simp[Out.goes]
 cases h:l.findIdx? (·=x) with
 |none=>
  rw[h] at key;refine⟨-1,⟨fun q=>by omega,fun q=> ?_⟩,?_⟩
  .rw[List.findIdx?_eq_none_iff] at h;have:=h x q;simp at this
  .refine Ed6 (N:=l.length+1) rfl ?_;simp(disch:=omega)only[i9,key,Ad,simprocAttr]
 |some j=>
  rw[h] at key;refine⟨((0+j:Nat):Int),⟨fun _=> ?_,fun _=>by omega⟩,?_⟩
  .rw[List.findIdx?_eq_some_iff_getElem] at h;obtain⟨h1,h2,_⟩:=h;simp at h2;rw[<-h2];exact Em _
  .refine Ed6 (N:=l.length+1) rfl ?_;simp(disch:=omega)only[i9,key,Ad,simprocAttr]
def Uq (l:List Rec) (x:Rec) (hl:l.length<=100000000):S Cg2 2 [B6 l,x.pv]=some [.b (decide (x∈l))]:=by refine Hc9 (N:=1) rfl ?_;obtain⟨k,h1,h2⟩:=Dc4 l x hl;simp(disch:=omega)only[Hw7,h2,Ad,simprocAttr];simp[h1]
def outD (z:Zone) (n:List UInt8):List Rec:=(neededN z n).filter fun r=>decide (r∈z.recs)
def denialN (z:Zone) (n:List UInt8):List Rec:=outD z n++sigsR z (outD z n)
def Cf8 (z:Zone) (hl:z.recs.length<=60):(namesN z).length<=16000:=by
 have h1:=Qm (Ez8 z);have h2:∀l:List Rec,(l.flatMap fun r=>upN z.origin r.name).length<=256*l.length:=by
  intro l
  induction l with
  |nil=>simp
  |cons x r ih=>
   have:=bh z.origin x.name;rw[Ft,Bt,Cv];omega
 have h3:=h2 (z.recs.filter fun r=>under r.name z.origin && !Ph z r.name);have h4:=D3 (fun r=>under r.name z.origin && !Ph z r.name) z.recs;show (setN (Ez8 z)).length<=16000;unfold Ez8 at h1 ⊢;omega
def Bk0 {z:Zone} (n:List UInt8) (hl:z.recs.length<=60):(neededN z n).length<=16000:=by
 have h1:(chainN z).length<=16000:=by have h0:=Tq z (X2 z);have h2:=Cf8 z hl;rw[S9];omega
 unfold neededN;split
 .split
  .simp
  .exact Ds (D3 _ _) h1
 .simp
def Bj9 {z:Zone} (hz:z.wf) (n:List UInt8):∀r∈neededN z n,r.wf:=by
 intro r hr;unfold neededN at hr;split at hr
 .split at hr
  .cases hr
  .exact Cf7 hz r (Cm.1 hr).1
 .cases hr
def ug {z:Zone} (hz:z.wf) (n:List UInt8):∀r∈outD z n,r.wf:=fun r hr=>Bj9 hz n r (Cm.1 hr).1
def By8 (z:Zone) (q:Ques) (hz:z.wf) (hl:z.recs.length<=60) (hq:q.name.length<=9223372036854775807):S Ej4 2 [z.pv,q.pv]=some [B6 (denialN z q.name)]:=by
 have k1:=By5 z q.name hz (fun _=>Cf7 hz) (by omega) hq;have hnl:=Bk0 q.name hl;have how:=ug hz q.name;have hol:(outD z q.name).length<=16000:=Ds (D3 _ _) hnl;have k2:=Vb z (outD z q.name) hz (by omega) how (by omega);have hsl:=Bt0 z (outD z q.name) hl hol;unfold denialN;have eo:outD z q.name=(neededN z q.name).filter fun r=>decide (r∈z.recs):=rfl;generalize outD z q.name=out at*;generalize neededN z q.name=nl at*;refine Hg8 (N:=nl.length+1) rfl ?_;have key:El1.ev S (nl.length+1) [z.pv,q.pv,B6 nl]=some (.yld 0 [B6 ([]++nl.filter fun r=>decide (r∈z.recs))]):=by
  refine E5 nl (fun i (g:List Rec)=>[B6 g,.i .i64 (i:Int)]) (fun i g r=> .yld 0 [B6 (g++r.filter fun r=>decide (r∈z.recs))]) (fun i g=>g.length<=i) [] rfl (Db _) (by omega) (fun i g c r hd hi hc hI=> ?_) (fun g hI=> ?_)
  .left;have kc:=Uq z.recs c (by omega);have hil:(i:Int)<(nl.length:Int):=by omega
   by_cases h:c∈z.recs
   .refine⟨g++[c],?_,by simp;omega,by rw[Fl (by simp[h]),Cw];rfl⟩;have h':decide (c∈z.recs)=true:=by simp[h]
    rw[h'] at kc;simp(disch:=omega)only[Df8,hc,hil,kc,Ac,simprocAttr]
   .refine⟨g,?_,by omega,by rw[List.filter_cons_of_neg (by simp[h])]⟩;have h':decide (c∈z.recs)=false:=by simp[h]
    rw[h'] at kc;simp(disch:=omega)only[Df8,hc,hil,kc,Ac,simprocAttr]
  .simp(disch:=omega)only[Df8,Hh,Ac,simprocAttr];simp[Out.goes]
 rw[Dc,<-eo] at key;generalize sigsR z out=sg at*;simp(disch:=omega)only[Df8,k1,k2,key,Ac,simprocAttr]
def Hm1:Rec:=⟨[120,46],47,5,⟨false,0,0,[42,46,120,46],[],[],0,0,0,0,0,0,211106232533060⟩⟩
def Ch5:Rec:=⟨[42,46,120,46],47,5,⟨false,0,0,[120,46],[],[],0,0,0,0,0,0,211106232532994⟩⟩
def t7:M2 Ip=0:=by kernel_rfl
def t6:namesN Ip=[[120,46],[42,46,120,46]]:=by unfold namesN;rw[<-l6];kernel_rfl
def Ap0:cutsN Ip=[]:=by unfold cutsN;rw[<-l6];kernel_rfl
def t8:chainN Ip=[Hm1,Ch5]:=by
 have e:chain0 Ip (X2 Ip)=[Fx0 [120,46] Hm1,Ch5]:=by
  unfold chain0;rw[t6];unfold N9 chBits;rw[Ap0]
  kernel_rfl
 have e2:chainN Ip=Cl2 2 0 [Fx0 [120,46] Hm1,Ch5]:=by unfold chainN;rw[e];rfl
 exact e2.trans (by kernel_rfl)
def An9:findM Ip ⟨[97,46,120,46],43⟩=⟨5,[42,46,120,46],true,[],[]⟩:=by kernel_rfl
def An8:neededN Ip [97,46,120,46]=[Ch5]:=by
 unfold neededN;rw[if_pos t7,An9,t8]
 kernel_rfl
def Bs6:denialN Ip [97,46,120,46]=[Ch5]:=by
 unfold denialN outD;rw[An8]
 kernel_rfl
structure IsC (z:Zone) (a:Rec):Prop where
 typ:a.typ=47
 nam:a.name∈namesN z
 hid:Ph z a.name=false
 own:∃r∈z.recs,r.name=a.name
 bits:a.data.bits=chBits z a.name
def inC (z:Zone) (n:List UInt8):Prop:=Ph z n=false∧∃r∈z.recs,r.name=n
def qw (z:Zone):(chainN z).Pairwise fun a b=>ltN a.name b.name:=by rw[Hj];intro i j hi hj hij;obtain⟨a,ha,ea⟩:=Tj (B3 hi);obtain⟨b,hb,eb⟩:=Tj (B3 hj);rw[ea,eb,Ax8,Ax8];obtain⟨hi',ea'⟩:=Bp.1 ha;obtain⟨hj',eb'⟩:=Bp.1 hb;have:=Hj.1 (f7 z (X2 z)) i j hi' hj' hij;rw[ea',eb'] at this;exact this
structure Gap (z:Zone) (a:Rec) (x:List UInt8):Prop where
 mem:a∈chainN z
 lt:ltN a.name x
 und:under x z.origin=true
 host:inC z a.data.host
 nxt:(a.data.host=z.origin∧∀n,inC z n->¬ltN a.name n)∨(a.data.host≠z.origin∧ltN x a.data.host∧∀n,inC z n->ltN a.name n->¬ltN n a.data.host)
def Hs2 (z:Zone) (x:List UInt8):Prop:=starOk (encN z x)=true∧allR z (starN (encN z x))≠[]
inductive MidC (z:Zone) (q:Ques):Prop
 |here (h:exB z q.name=true) (e:findM z q={saysM (allR z q.name) q.typ with owner:=q.name})
 |wild (h:exB z q.name=false) (u:Hs2 z q.name) (e:findM z q={saysM ((allR z (starN (encN z q.name))).map (Ps q.name)) q.typ with owner:=starN (encN z q.name),wild:=true})
 |none (h:exB z q.name=false) (u:¬Hs2 z q.name) (e:findM z q=⟨6,q.name,false,[],[]⟩)
end Go.X.G
/- Chains of aliases; the law LookupChases. -/
namespace Go.X
def H4 (l:List Res):PV:= .l 5 (l.map Res.pv)
def Dm8:PV.l 5 []=H4 []:=rfl
def Fc0 (x:Res):J2 5 [x.pv]=some (H4 [x]):=rfl
def Ek6 (l:List Res):Gl (H4 l)=some (.i .i64 (l.length:Int)):=by simp[H4,Gl]
def d8 (l:List Res) (k:IntKind) (z:Int) (h:0<=z):Hm 5 (H4 l) (.i k z)=(l[z.toNat]?).map Res.pv:=by simp[H4,Uz _ _ _ _ h]
def Db1 (l:List Res) (x:Res) (h:l.length+1<=1073741824):I4 5 (H4 l) (H4 [x])=some (H4 (l++[x])):=by have:=Rr 5 (l.map Res.pv) [x.pv] (by simpa using h);simpa [H4] using this
def Cj1 (l:List Res):I5 (H4 l)=some (H4 l):=rfl
def Cy0 (l:List Res):Dj 0 (H4 l)=some (H4 l):=rfl
set_option linter.defProp false in
def L1:=(And.intro @Dm8 (And.intro @Fc0 (And.intro @Ek6 (And.intro @d8 (And.intro @Db1 (And.intro @Cj1 @Cy0))))))
end Go.X
namespace Go.X.G
open Go Go.X
def Cl9 (r:Res):Bool:=(decide (r.kind=2)||decide (r.kind=3)) && decide (r.target≠[])
def Kr (z:Zone) (t:Int):Nat->List Res->List (List UInt8)->List UInt8->List Res×Bool
 |0,out,_,_=>(out,false)
 |k+1,out,seen,n=>
  if Cl9 (findM z ⟨n,t⟩)=false then(out++[findM z ⟨n,t⟩],true)
  else if out.length=8 then(out++[findM z ⟨n,t⟩],false)
  else if under (findM z ⟨n,t⟩).target z.origin=false then(out++[findM z ⟨n,t⟩],true)
  else if(findM z ⟨n,t⟩).target∈seen then(out++[findM z ⟨n,t⟩],false)
  else Kr z t k (out++[findM z ⟨n,t⟩]) (seen++[(findM z ⟨n,t⟩).target]) (findM z ⟨n,t⟩).target
def Pj (z:Zone) (t:Int) (k:Nat) (out:List Res) (seen:List (List UInt8)) (n:List UInt8):Kr z t (k+1) out seen n=
  if Cl9 (findM z ⟨n,t⟩)=false then(out++[findM z ⟨n,t⟩],true)
  else if out.length=8 then(out++[findM z ⟨n,t⟩],false)
  else if under (findM z ⟨n,t⟩).target z.origin=false then(out++[findM z ⟨n,t⟩],true)
  else if(findM z ⟨n,t⟩).target∈seen then(out++[findM z ⟨n,t⟩],false)
  else Kr z t k (out++[findM z ⟨n,t⟩]) (seen++[(findM z ⟨n,t⟩).target]) (findM z ⟨n,t⟩).target:=rfl
def chaseM (z:Zone) (q:Ques):List Res×Bool:=Kr z q.typ 9 [] [q.name] q.name
def Ck6 (n top to:List UInt8):(replN n top to).1.length<=254:=by
 unfold replN;split
 .split
  .split
   .assumption
   .simp
  .simp
 .simp
def Wj (l:List Rec) (t:Int) (h:∀r∈l,r.data.host.length<=9223372036854775807):(saysM l t).target.length<=9223372036854775807:=by
 unfold saysM;cases ha:Fp0 l t with
 |some c=>
  unfold Fp0 at ha;split at ha
  .cases ha
  .exact h c (Jv ha)
 |none=>simp only;split<;>simp
def Mh (z:Zone) (q:Ques) (hz:z.wf):(findM z q).target.length<=9223372036854775807:=by
 have hh:∀n,∀r∈allR z n,r.data.host.length<=9223372036854775807:=fun n r hr=>(hz.recs.2 r (Cm.1 hr).1).data.host;unfold findM;split
 .split
  .simp
  .unfold oh;cases h:Ax2 z q.name with
   |some x=>
    show x.target.length<=9223372036854775807;unfold Ax2 at h;cases h2:Ed9 z q.name with
    |none=>rw[h2] at h;cases h
    |some u=>
     rw[h2] at h;simp only[Cc,Bm] at h;rw[<-h];unfold Tl;split
     .rename_i r rest _;have:=Ck6 q.name u r.data.host;simp only[br];split
      .simp
      .omega
     .simp
   |none=>
    simp only;split
    .exact Wj _ _ (hh _)
    .unfold bd;split
     .simp only[Dz];refine Wj _ _ fun r hr=> ?_;obtain⟨x,hx,rfl⟩:=Ev.1 hr;exact hh _ x hx
     .simp
 .simp
def Ah1 (z:Zone) (q:Ques) (hz:z.wf) (hl:z.recs.length<=1000) (hq:q.name.length<=9223372036854775807):S Ch1 2 [z.pv,q.pv]=some [H4 (chaseM z q).1,.b (chaseM z q).2]:=by
 refine Hh0 (N:=1000) rfl ?_;have g1:=hz.origin;unfold Uw at g1;have key:El3.ev S 1000 [z.pv,q.pv]=some (.ret [H4 (chaseM z q).1,.b (chaseM z q).2]):=by
  refine Ll (α:=List Res×List (List UInt8)×List UInt8) (fun a=>[H4 a.1,C6 a.2.1,.s a.2.2]) (fun a=> .ret [H4 (Kr z q.typ (9 - a.1.length) a.1 a.2.1 a.2.2).1,.b (Kr z q.typ (9 - a.1.length) a.1 a.2.1 a.2.2).2])
   (fun a=>a.1.length<=8∧a.2.1.length<=100∧a.2.1.length=a.1.length+1∧a.2.2.length<=9223372036854775807) (fun a=>9 - a.1.length) ([],[q.name],q.name) ?_ ⟨by simp,by simp,by simp,hq⟩ (by simp) ?_
  .simp(disch:=omega)only[EVM,EVC,EVR,L1,Af,simprocAttr]
  .rintro⟨out,seen,n⟩ ⟨i1,i2,i3,i4⟩;simp only at i1 i2 i3 i4 ⊢;have hk:9 - out.length=(8 - out.length)+1:=by omega
   have k1:=Ct7 z ⟨n,q.typ⟩ hz hl i4;have tt:=Mh z ⟨n,q.typ⟩ hz;rw[hk,Pj];generalize hr:findM z ⟨n,q.typ⟩=r at*;have k2:=Fc r.target z.origin tt g1;have k3:=Lb seen r.target (by omega);rcases Bn (Cl9 r) with h1|h1
   .rw[if_neg (by simp[h1])];have h1':=h1;unfold Cl9 at h1';simp only[Br,Ck,decide_eq_true_eq,ne_eq] at h1';obtain⟨h2,h3⟩:=h1';have h4:¬(r.kind≠2∧r.kind≠3):=by omega
    by_cases h5:out.length=8
    .right;rw[if_pos h5];have h6:((out++[r]).length:Int)=9:=by simp;omega
     refine⟨?_,rfl⟩;rcases h2 with h2|h2<;>simp(disch:=omega)only[ir,k1,h2,h3,h6,EVM,EVC,EVR,L1,Af,simprocAttr]
    .rw[if_neg h5];have h6:¬((out++[r]).length:Int)=9:=by simp;omega
     rcases Bn (under r.target z.origin) with h7|h7
     .rw[if_neg (by simp[h7])];rw[h7] at k2;by_cases h8:r.target∈seen
      .right;rw[if_pos h8];refine⟨?_,rfl⟩;rcases h2 with h2|h2<;>simp(disch:=omega)only[ir,k1,k2,k3,h2,h3,h6,h8,EVM,EVC,EVR,L1,Af,simprocAttr]
      .left;rw[if_neg h8];refine⟨(out++[r],seen++[r.target],r.target),?_,⟨by simp only[Bt,Ec];omega,by simp only[Bt,Ec];omega,by simp only[Bt,Ec];omega,tt⟩,by simp only[Bt,Ec];omega,?_⟩
       .rcases h2 with h2|h2<;>simp(disch:=omega)only[ir,k1,k2,k3,h2,h3,h6,h8,EVM,EVC,EVR,L1,Af,simprocAttr]
       .have:9 - (out++[r]).length=8 - out.length:=by rw[Bt,Ec];omega
        simp only[this]
     .right;rw[if_pos h7];rw[h7] at k2;refine⟨?_,rfl⟩;rcases h2 with h2|h2<;>simp(disch:=omega)only[ir,k1,k2,h2,h3,h6,EVM,EVC,EVR,L1,Af,simprocAttr]
   .right;rw[if_pos h1];unfold Cl9 at h1;refine⟨?_,rfl⟩;by_cases h2:r.kind=2
    .have h3:r.target=[]:=by simpa [h2] using h1
     simp(disch:=omega)only[ir,k1,h2,h3,EVM,EVC,EVR,L1,Af,simprocAttr]
    .by_cases h3:r.kind=3
     .have h4:r.target=[]:=by simpa [h3] using h1
      simp(disch:=omega)only[ir,k1,h3,h4,EVM,EVC,EVR,L1,Af,simprocAttr]
     .simp(disch:=omega)only[ir,k1,h2,h3,EVM,EVC,EVR,L1,Af,simprocAttr]
 simp(disch:=omega)only[ir,key,EVM,EVC,EVR,L1,Af,simprocAttr]
def Ls (P:Res->Prop) (z:Zone) (t:Int) (h:∀n,P (findM z ⟨n,t⟩)):∀(k:Nat) (out:List Res) (seen:List (List UInt8)) (n:List UInt8),(∀r∈out,P r)->∀r∈(Kr z t k out seen n).1,P r
 |0,out,seen,n,ho=>ho
 |k+1,out,seen,n,ho=>by
  have ho':∀r∈out++[findM z ⟨n,t⟩],P r:=fun r hr=>by
   rcases Cf.1 hr with hr|hr
   .exact ho r hr
   .rw[Cg.1 hr];exact h n
  unfold Kr;split
  .exact ho'
  .split
   .exact ho'
   .split
    .exact ho'
    .split
     .exact ho'
     .exact Ls P z t h k _ _ _ ho'
def aj (z:Zone) (t:Int):∀(k:Nat) (out:List Res) (seen:List (List UInt8)) (n:List UInt8),(Kr z t k out seen n).1.length<=out.length+k
 |0,out,seen,n=>by simp[Kr]
 |k+1,out,seen,n=>by
  unfold Kr;have hl:(out++[findM z ⟨n,t⟩]).length=out.length+1:=by simp
  split
  .simp only;omega
  .split
   .simp only;omega
   .split
    .simp only;omega
    .split
     .simp only;omega
     .have:=aj z t k (out++[findM z ⟨n,t⟩]) (seen++[(findM z ⟨n,t⟩).target]) (findM z ⟨n,t⟩).target;omega
end Go.X.G
namespace Go.X.G
open Go Go.X
def replyM (m:Msg) (code:Int):Msg:=⟨m.id,m.op,code,true,false,false,m.rd,false,false,m.cd,m.dok,if m.size≠0 then 1232 else 0,m.q,[],[],[]⟩
def Ck5 (m:Msg) (code:Int):S vj 2 [m.pv,.i .i64 code]=some [(replyM m code).pv]:=by
 refine Hf6 (N:=1) rfl ?_;unfold replyM;by_cases h:m.size=0
 .simp(disch:=omega)only[Fs6,h,EVM,EVC,EVR,Af,simprocAttr]
  try simp
 .simp(disch:=omega)only[Fs6,h,EVM,EVC,EVR,Af,simprocAttr]
  try simp
def Hz9 (t:Int):Bool:=decide (t=2)||decide (t=15)||decide (t=33)
def hostsF (out:List (List UInt8)):List Rec->List (List UInt8)
 |[]=>out
 |r::rs=>if Hz9 r.typ=true∧r.data.host∉out then hostsF (out++[r.data.host]) rs else hostsF out rs
def O6:∀(l:List Rec) (out:List (List UInt8)),(hostsF out l).length<=out.length+l.length
 |[],out=>by simp[hostsF]
 |r::rs,out=>by
  simp only[hostsF];split
  .have:=O6 rs (out++[r.data.host]);rw[Bt,Ec] at this;rw[Cv];omega
  .have:=O6 rs out;rw[Cv];omega
def P2:∀(l:List Rec) (out:List (List UInt8)),(∀r∈l,r.wf)->(∀h∈out,h.length<=9223372036854775807)->∀h∈hostsF out l,h.length<=9223372036854775807
 |[],out,_,ho=>ho
 |r::rs,out,hl,ho=>by
  simp only[hostsF];split
  .refine P2 rs _ (fun x hx=>hl x (.tail _ hx)) fun h hh=> ?_;rcases Cf.1 hh with hh|hh
   .exact ho h hh
   .rw[Cg.1 hh];exact(hl r (.head _)).data.host
  .exact P2 rs _ (fun x hx=>hl x (.tail _ hx)) ho
def Cs9 (l:List Rec) (hl:l.length<=1000):S Cg9 1 [B6 l]=some [C6 (hostsF [] l)]:=by
 refine Hf4 (N:=2000) rfl ?_;have key:Eh5.ev S 2000 [B6 l]=some (.yld 0 [C6 (hostsF [] l)]):=by
  refine E5 l (fun i (g:List (List UInt8))=>[C6 g,.i .i64 (i:Int)]) (fun i g r=> .yld 0 [C6 (hostsF g r)]) (fun i g=>g.length<=i) [] rfl (Db _) (by omega) (fun i g c r hd hi hc hI=> ?_) (fun g hI=> ?_)
  .left;have k1:=Lb g c.data.host (by omega);refine⟨if Hz9 c.typ=true∧c.data.host∉g then g++[c.data.host] else g,?_,by split<;>(try rw[Bt,Ec])<;>omega,?_⟩
   .unfold Hz9;by_cases h4:c.data.host∈g
    .by_cases h1:c.typ=2
     .simp(disch:=omega)only[X7,hc,h1,h4,k1,EVM,EVC,EVR,Af,simprocAttr];simp
     .by_cases h2:c.typ=15
      .simp(disch:=omega)only[X7,hc,h2,h4,k1,EVM,EVC,EVR,Af,simprocAttr];simp
      .by_cases h3:c.typ=33
       .simp(disch:=omega)only[X7,hc,h3,h4,k1,EVM,EVC,EVR,Af,simprocAttr];simp
       .simp(disch:=omega)only[X7,hc,h1,h2,h3,k1,EVM,EVC,EVR,Af,simprocAttr];simp[h4]
    .by_cases h1:c.typ=2
     .simp(disch:=omega)only[X7,hc,h1,h4,k1,EVM,EVC,EVR,Af,simprocAttr];simp
     .by_cases h2:c.typ=15
      .simp(disch:=omega)only[X7,hc,h2,h4,k1,EVM,EVC,EVR,Af,simprocAttr];simp
      .by_cases h3:c.typ=33
       .simp(disch:=omega)only[X7,hc,h3,h4,k1,EVM,EVC,EVR,Af,simprocAttr];simp
       .simp(disch:=omega)only[X7,hc,h1,h2,h3,k1,EVM,EVC,EVR,Af,simprocAttr];simp
   .simp only[hostsF];split<;>rfl
  .simp(disch:=omega)only[X7,EVM,EVC,EVR,Af,simprocAttr]
   try simp[Out.goes,hostsF]
 simp(disch:=omega)only[X7,key,EVM,EVC,EVR,Af,simprocAttr]
def By3 (z:Zone) (h:List UInt8):List Rec:=findR z.recs h 1++findR z.recs h 28
def Al8 (z:Zone) (h:List UInt8):(By3 z h).length<=2*z.recs.length:=by have h1:=Hw z h 1;have h2:=Hw z h 28;unfold By3;rw[Bt];omega
def Bz2 (z:Zone) (h:List UInt8):List Rec:=if cutN z h=[] then [] else By3 z h
def Ev8 (z:Zone) (h:List UInt8):(Bz2 z h).length<=2*z.recs.length:=by
 unfold Bz2;split
 .simp
 .exact Al8 z h
def gp (z:Zone) (hs:List (List UInt8)) (hl:z.recs.length<=60) (hh:hs.length<=1000):S Dt6 2 [z.pv,C6 hs]=some [B6 (hs.flatMap (By3 z))]:=by
 refine Hf2 (N:=2000) rfl ?_;have key:Eh4.ev S 2000 [z.pv,C6 hs]=some (.yld 0 [B6 ([]++hs.flatMap (By3 z))]):=by
  refine E5 hs (fun i (g:List Rec)=>[B6 g,.i .i64 (i:Int)]) (fun i g r=> .yld 0 [B6 (g++r.flatMap (By3 z))]) (fun i g=>g.length<=120*i) [] rfl (Db _) (by omega) (fun i g c r hd hi hc hI=> ?_) (fun g hI=> ?_)
  .left;have k1:=Jx z c 1 (by omega);have k2:=Jx z c 28 (by omega);have h1:=Hw z c 1;have h2:=Hw z c 28;refine⟨g++findR z.recs c 1++findR z.recs c 28,?_,by rw[Bt,Bt];omega,by simp[By3]⟩;generalize findR z.recs c 1=f1 at*;generalize findR z.recs c 28=f2 at*;have a1:=Jy g f1 (by omega);have a2:=Jy (g++f1) f2 (by rw[Bt];omega);simp(disch:=omega)only[Ep4,hc,k1,k2,a1,a2,EVM,EVC,EVR,Af,simprocAttr]
  .simp(disch:=omega)only[Ep4,EVM,EVC,EVR,Af,simprocAttr]
   try simp[Out.goes]
 rw[Dc] at key;generalize hs.flatMap (By3 z)=fm at*;simp(disch:=omega)only[Ep4,key,EVM,EVC,EVR,Af,simprocAttr]
def Df3 (z:Zone) (hs:List (List UInt8)) (hz:z.wf) (hl:z.recs.length<=60) (hh:hs.length<=1000) (hw:∀h∈hs,h.length<=9223372036854775807):S Dt7 2 [z.pv,C6 hs]=some [B6 (hs.flatMap (Bz2 z))]:=by
 refine Hf5 (N:=2000) rfl ?_;have key:Eh6.ev S 2000 [z.pv,C6 hs]=some (.yld 0 [B6 ([]++hs.flatMap (Bz2 z))]):=by
  refine E5 hs (fun i (g:List Rec)=>[B6 g,.i .i64 (i:Int)]) (fun i g r=> .yld 0 [B6 (g++r.flatMap (Bz2 z))]) (fun i g=>g.length<=120*i) [] rfl (Db _) (by omega) (fun i g c r hd hi hc hI=> ?_) (fun g hI=> ?_)
  .left;have k0:=Bb5 z c hz (by omega) (hw c (Cz hc));have k1:=Jx z c 1 (by omega);have k2:=Jx z c 28 (by omega);have h1:=Hw z c 1;have h2:=Hw z c 28;by_cases h3:cutN z c=[]
   .refine⟨g,?_,by omega,by simp[Bz2,h3]⟩;rw[h3] at k0;simp(disch:=omega)only[Df7,hc,k0,ne_eq,not_true,decide_false,EVM,EVC,EVR,Af,simprocAttr]
   .refine⟨g++findR z.recs c 1++findR z.recs c 28,?_,by rw[Bt,Bt];omega,by simp[By3,Bz2,h3]⟩;have h4:decide (cutN z c≠[])=true:=by simp[h3]
    rw[h4] at k0;generalize findR z.recs c 1=f1 at*;generalize findR z.recs c 28=f2 at*;have a1:=Jy g f1 (by omega);have a2:=Jy (g++f1) f2 (by rw[Bt];omega);simp(disch:=omega)only[Df7,hc,k0,k1,k2,a1,a2,EVM,EVC,EVR,Af,simprocAttr]
  .simp(disch:=omega)only[Df7,EVM,EVC,EVR,Af,simprocAttr]
   try simp[Out.goes]
 rw[Dc] at key;generalize hs.flatMap (Bz2 z)=fm at*;simp(disch:=omega)only[Df7,key,EVM,EVC,EVR,Af,simprocAttr]
def pf (name:List UInt8) (r:Res):Rec:=⟨name,5,((r.recs[0]?).map Rec.ttl).getD 0,⟨false,0,0,r.target,[],[],0,0,0,0,0,0,0⟩⟩
def Up (name:List UInt8) (r:Res):List Rec:=
 if r.kind=2∨r.kind=1 then r.recs else if r.kind=3 then(if r.target=[] then r.recs else r.recs++[pf name r]) else []
def ansF (name:List UInt8) (acc:List Rec):List Res->List Rec
 |[]=>acc
 |r::rs=>ansF r.target (acc++Up name r) rs
structure RsOk (l:List Res):Prop where
 len:l.length<=9
 recs:∀r∈l,r.recs.length<=60
 red:∀r∈l,r.kind=3->r.recs≠[]
def qh (name:List UInt8) (r:Res) (h:r.recs.length<=60):(Up name r).length<=61:=by
 unfold Up;split
 .omega
 .split
  .split
   .omega
   .rw[Bt,Ec];omega
  .simp
def Al2:∀(l:List Res) (name:List UInt8) (acc:List Rec),(∀r∈l,r.recs.length<=60)->(ansF name acc l).length<=acc.length+61*l.length
 |[],name,acc,_=>by simp[ansF]
 |r::rs,name,acc,h=>by have h1:=qh name r (h r (.head _));have:=Al2 rs r.target (acc++Up name r) fun x hx=>h x (.tail _ hx);rw[Bt] at this;simp only[ansF,Cv];omega
def Fx4 (z:Zone) (m:Msg) (l:List Res) (p3 p4 p5:PV) (h:RsOk l):El6.ev S 1000 [z.pv,m.pv,H4 l,p3,p4]=some (.yld 0 [B6 (ansF m.q.name [] l)]):=by
 have hl:=h.len;refine E5 l (fun i (g:List UInt8×List Rec)=>[.s g.1,.i .i64 (i:Int),B6 g.2]) (fun i g r=> .yld 0 [B6 (ansF g.1 g.2 r)]) (fun i g=>g.2.length<=61*i) (m.q.name,[]) (by simp(disch:=omega)only[EVM,EVC,EVR,L1,Af,simprocAttr]) (Db _) (by omega) (fun i g c r hd hi hc hI=> ?_) (fun g hI=> ?_)
 .left;obtain⟨nm,g⟩:=g;simp only at hI;have hcm:=Cz hc;have h1:=h.recs c hcm;have a1:=Jy g c.recs (by omega);have hal:=qh nm c h1;refine⟨(c.target,g++Up nm c),?_,by simp only[Bt];omega,rfl⟩;unfold Up;by_cases h2:c.kind=2
  .simp(disch:=omega)only[M6,hc,h2,a1,EVM,EVC,EVR,L1,Af,simprocAttr]
   try simp
  .by_cases h3:c.kind=1
   .simp(disch:=omega)only[M6,hc,h2,h3,a1,EVM,EVC,EVR,L1,Af,simprocAttr]
    try simp
   .by_cases h4:c.kind=3
    .have h5:=h.red c hcm h4;obtain⟨r0,rr,hr⟩:=List.exists_cons_of_ne_nil h5;have hix:Hm 16 (B6 c.recs) (.i .i64 0)=some r0.pv:=by rw[Lw _ _ _ (by omega),hr];rfl
     have h8:(c.recs[0]?).map Rec.ttl=some r0.ttl:=by rw[hr];rfl
     have h9:(g++c.recs).length<=1000:=by rw[Bt];omega
     by_cases h6:c.target=[]
     .simp(disch:=omega)only[M6,hc,h2,h3,h4,h6,a1,EVM,EVC,EVR,L1,Af,simprocAttr]
      try simp[h6]
     .have h7:g++(c.recs++[pf nm c])=(g++c.recs)++[pf nm c]:=by simp
      simp only[h4,h6,if_true,if_false,h7,show¬((3:Int)=2∨(3:Int)=1) by omega];unfold pf;rw[h8];generalize g++c.recs=gc at*;simp(disch:=omega)only[M6,hc,h4,h6,a1,hix,Dz,EVM,EVC,EVR,L1,Af,simprocAttr]
    .simp(disch:=omega)only[M6,hc,h2,h3,h4,EVM,EVC,EVR,L1,Af,simprocAttr]
     try simp[h2,h3,h4]
 .simp(disch:=omega)only[M6,EVM,EVC,EVR,L1,Af,simprocAttr]
  try simp[Out.goes,ansF]
def Hv3 (z:Zone) (o:Msg) (last:Res):Msg:=
 if last.kind=4 then {o with auth:=last.recs,ext:=(hostsF [] last.recs).flatMap (Bz2 z)}
 else if last.kind=5 then {o with auth:=soaR z}
 else if last.kind=6 then {o with auth:=soaR z,code:=3}
 else if last.kind=1 then {o with ext:=(hostsF [] last.recs).flatMap (By3 z)}
 else if last.kind=3∧last.target=[] then {o with code:=6}
 else o
def Dm9 (z:Zone) (m:Msg) (l:List Res) (ok:Bool):Msg:=
 match l[0]?,l.getLast? with
 |some r,some last=>
  if r.kind=0 then replyM m 5
  else if ok=false then replyM m 2
  else Hv3 z {replyM m 0 with aa:=decide (r.kind≠(4:Int)),ans:=ansF m.q.name [] l} last
 |_,_=>replyM m 0
def respondM (z:Zone) (m:Msg):Msg:=
 if m.op≠0∨m.q.typ=251∨m.q.typ=252 then replyM m 4 else Dm9 z m (chaseM z m.q).1 (chaseM z m.q).2
def qv (z:Zone) (t:Int):∀(k:Nat) (out:List Res) (seen:List (List UInt8)) (n:List UInt8),out≠[]->(Kr z t k out seen n).1≠[]
 |0,out,seen,n,h=>h
 |k+1,out,seen,n,h=>by
  rw[Pj];split
  .simp
  .split
   .simp
   .split
    .simp
    .split
     .simp
     .exact qv z t k _ _ _ (by simp)
def qj (z:Zone) (q:Ques):(chaseM z q).1≠[]:=by
 unfold chaseM;rw[Pj];split
 .simp
 .split
  .simp
  .split
   .simp
   .split
    .simp
    .exact qv z _ _ _ _ _ (by simp)
def Xw (z:Zone) (q:Ques) (hl:z.recs.length<=60):(findM z q).recs.length<=60∧((findM z q).kind=3->(findM z q).recs≠[]):=by
 have hs:∀(l:List Rec) (t:Int),l.length<=60->(saysM l t).recs.length<=60∧(saysM l t).kind≠3:=fun l t h=>by
  unfold saysM;split
  .simp
  .split
   .simp
   .have:=Sq l t;exact⟨by simp only;omega,by simp⟩
 unfold findM;split
 .split
  .have:=Hw z (cutN z q.name) 2;exact⟨by simp only;omega,fun h=>by simp at h⟩
  .unfold oh;cases h:Ax2 z q.name with
   |some x=>
    show x.recs.length<=60∧(x.kind=3->x.recs≠[]);unfold Ax2 at h;cases h2:Ed9 z q.name with
    |none=>rw[h2] at h;cases h
    |some u=>
     rw[h2] at h;simp only[Cc,Bm] at h;rw[<-h];unfold Tl;split<;>simp
   |none=>
    simp only;split
    .have:=hs (allR z q.name) q.typ (by have:=Vz z q.name;omega);exact⟨this.1,fun h=>absurd h this.2⟩
    .unfold bd;split
     .simp only[Dz];have:=hs ((allR z (starN (encN z q.name))).map (Ps q.name)) q.typ (by rw[E3];have:=Vz z (starN (encN z q.name));omega);exact⟨this.1,fun h=>absurd h this.2⟩
     .simp
 .simp
def Vv (z:Zone) (q:Ques) (hl:z.recs.length<=60):RsOk (chaseM z q).1:=by
 refine⟨by simpa [chaseM] using aj z q.typ 9 [] [q.name] q.name,?_,?_⟩
 .exact Ls (fun r=>r.recs.length<=60) z q.typ (fun n=>(Xw z ⟨n,q.typ⟩ hl).1) 9 [] [q.name] q.name (by simp)
 .exact Ls (fun r=>r.kind=3->r.recs≠[]) z q.typ (fun n=>(Xw z ⟨n,q.typ⟩ hl).2) 9 [] [q.name] q.name (by simp)
def Ew9 (z:Zone) (q:Ques) (hz:z.wf) (hq:q.name.length<=9223372036854775807):∀r∈(findM z q).recs,r.wf:=by
 have hs:∀(l:List Rec) (t:Int),(∀r∈l,r.wf)->∀r∈(saysM l t).recs,r.wf:=fun l t h r hr=>by
  unfold saysM at hr;cases ha:Fp0 l t with
  |some c=>
   rw[ha] at hr;unfold Fp0 at ha;split at ha
   .cases ha
   .simp only[Cg] at hr;rw[hr];exact h c (Jv ha)
  |none=>
   rw[ha] at hr;simp only at hr;split at hr
   .cases hr
   .simp only at hr;unfold typedR at hr;split at hr
    .exact h r hr
    .exact h r (Cm.1 hr).1
 have hal:∀n,∀r∈allR z n,r.wf:=fun n r hr=>hz.recs.2 r (Cm.1 hr).1;intro r hr;unfold findM at hr;split at hr
 .split at hr
  .exact Rb hz hr
  .unfold oh at hr;cases h:Ax2 z q.name with
   |some x=>
    rw[h] at hr;simp only at hr;unfold Ax2 at h;cases h2:Ed9 z q.name with
    |none=>rw[h2] at h;cases h
    |some u=>
     rw[h2] at h;simp only[Cc,Bm] at h;rw[<-h] at hr;unfold Tl at hr;split at hr
     .rename_i r0 rest hf;simp only[Cg] at hr;rw[hr];exact Rb hz (n:=u) (t:=39) (by rw[hf];exact .head _)
     .cases hr
   |none=>
    rw[h] at hr;simp only at hr;split at hr
    .exact hs _ _ (hal _) r hr
    .unfold bd at hr;split at hr
     .simp only[Dz] at hr;refine hs _ _ (fun x hx=> ?_) r hr;obtain⟨y,hy,rfl⟩:=Ev.1 hx;have hy:=hal _ y hy;exact⟨hq,hy.typ,hy.ttl,hy.data⟩
     .cases hr
 .cases hr
def qk (z:Zone) (t:Int) (hz:z.wf):∀(k:Nat) (out:List Res) (seen:List (List UInt8)) (n:List UInt8),n.length<=9223372036854775807->(∀r∈out,∀x∈r.recs,x.wf)->∀r∈(Kr z t k out seen n).1,∀x∈r.recs,x.wf
 |0,out,seen,n,_,ho=>ho
 |k+1,out,seen,n,hn,ho=>by
  have ho':∀r∈out++[findM z ⟨n,t⟩],∀x∈r.recs,x.wf:=fun r hr=>by
   rcases Cf.1 hr with hr|hr
   .exact ho r hr
   .rw[Cg.1 hr];exact Ew9 z ⟨n,t⟩ hz hn
  rw[Pj];split
  .exact ho'
  .split
   .exact ho'
   .split
    .exact ho'
    .split
     .exact ho'
     .exact qk z t hz k _ _ _ (Mh z ⟨n,t⟩ hz) ho'
def pp (z:Zone) (q:Ques) (hz:z.wf) (hq:q.name.length<=9223372036854775807):∀r∈(chaseM z q).1,∀x∈r.recs,x.wf:=qk z q.typ hz 9 [] [q.name] q.name hq (by simp)
def Dl4 (z:Zone):(soaR z).length<=1:=by unfold soaR;split<;>simp
def Ad3 (l:List Res) (h:l≠[]) (hl:l.length<=9):Hm 5 (H4 l) (.i .i64 ((l.length:Int) - 1))=(l.getLast?).map Res.pv:=by have hp:=Cs.2 h;rw[d8 _ _ _ (by omega),show ((l.length:Int) - 1).toNat=l.length - 1 by omega,Pm]
def joinN (l:List Rec):List Rec->List Rec
 |[]=>l
 |r::m=>joinN (if r∈l then l else l++[r]) m
def mem_joinN (x:Rec):∀(m l:List Rec),x∈joinN l m↔x∈l∨x∈m
 |[],l=>by simp[joinN]
 |r::m,l=>by
  unfold joinN;rw[mem_joinN x m,Cj];by_cases h:r∈l
  .rw[if_pos h];constructor
   .rintro (h1|h1)
    .exact .inl h1
    .exact .inr (.inr h1)
   .rintro (h1|rfl|h1)
    .exact .inl h1
    .exact .inl h
    .exact .inr h1
  .rw[if_neg h,Cf,Cg,or_assoc]
def Dq0 (r:Res):Bool:=decide (r.kind=6)||decide (r.kind=5)||r.wild
def proofsF (z:Zone) (t:Int):List Res->List UInt8->List Rec->List Rec
 |[],_,a=>a
 |r::rs,n,a=>proofsF z t rs r.target (if Dq0 r=true then joinN a (denialN z n) else a)
def ib (z:Zone) (o:List UInt8):List Rec:=if findR z.recs o 43=[] then findR z.recs o 47 else findR z.recs o 43
def Yh (z:Zone) (q:Ques) (a:List Rec):List Rec:=
 match (chaseM z q).1.getLast? with
 |some last=>if last.kind=4 then joinN (proofsF z q.typ (chaseM z q).1 q.name a) (ib z last.owner) else proofsF z q.typ (chaseM z q).1 q.name a
 |none=>proofsF z q.typ (chaseM z q).1 q.name a
def proveM (z:Zone) (m:Msg):Msg:=
 if m.dok=false∨(respondM z m).ans.length+(respondM z m).auth.length=0 then respondM z m
 else {respondM z m with ans:=(respondM z m).ans++sigsR z (respondM z m).ans,auth:=joinN (Yh z m.q (respondM z m).auth) (sigsR z (Yh z m.q (respondM z m).auth))}
end Go.X.G
