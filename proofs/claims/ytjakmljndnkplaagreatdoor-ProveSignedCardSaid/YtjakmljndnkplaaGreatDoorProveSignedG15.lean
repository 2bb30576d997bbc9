/- The law LookupResponds. -/
import Derived.Test.YtjakmljndnkplaaGreatDoorProveSignedG14
open Bool renaming eq_false_or_eq_true->Bn,and_eq_true->Br,or_eq_true->Ck,eq_iff_iff->D6,and_true->Mr
open Int renaming lt_irrefl->Hh
open List renaming getElem?_eq_some_iff->Bp,length_append->Bt,mem_cons->Cj,length_cons->Cv,append_assoc->Cw,mem_of_getElem?->Cz,pairwise_cons->Cd,mem_append->Cf,mem_singleton->Cg,mem_filter->Cm,length_pos_iff->Cs,length_nil->C1,any_eq_true->Dy,mem_map->Ev,length_singleton->Ec,flatMap_cons->Ft,map_cons->G4,mem_of_mem_drop->Ik,mem_of_find?_eq_some->Jv,mem_of_getLast?->Kf,dropLast_concat_getLast->Ld,mem_flatMap->Vd
open Nat renaming zero_le->Db
open Option renaming map_eq_some_iff->Bs,map_some->Cc,getD_some->Dz
open Prod.mk renaming injEq->B4
set_option maxHeartbeats 1000000
set_option linter.defProp false
set_option linter.unusedVariables false
set_option linter.unusedSimpArgs false
namespace Go.X.G
open Go Go.X
def Al:=And.intro xe<|And.intro EVP EV
def Ah:=And.intro EVC<|And.intro xe<|And.intro EVP EV
def Ag:=And.intro EVM<|And.intro EVC<|And.intro xe<|And.intro EVP EV
def Ap3 (z:Zone) (m:Msg) (hz:z.wf) (hl:z.recs.length<=60) (hq:m.q.name.length<=9223372036854775807):S Ej5 2 [z.pv,m.pv]=some [(respondM z m).pv]:=by
 refine Hh5 (N:=1000) rfl ?_;have k1:=Ck5 m;unfold respondM;by_cases h1:m.op=0
 .by_cases h2:m.q.typ=251
  .rw[if_pos (.inr (.inl h2))];have k1:=k1 4;generalize replyM m 4=o at*;simp(disch:=omega)only[M6,h1,h2,k1,EVM,EVC,EVR,L1,Al,simprocAttr]
  .by_cases h3:m.q.typ=252
   .rw[if_pos (.inr (.inr h3))];have k1:=k1 4;generalize replyM m 4=o at*;simp(disch:=omega)only[M6,h1,h3,k1,EVM,EVC,EVR,L1,Al,simprocAttr]
   .rw[if_neg (by simp[h1,h2,h3])];have k2:=Ah1 z m.q hz (by omega) hq;have hrs:=Vv z m.q hl;have hwf:=pp z m.q hz hq;have hne:=qj z m.q;generalize chaseM z m.q=cm at*;obtain⟨l,ok⟩:=cm;simp only at k2 hrs hwf hne ⊢;have hlen:=hrs.len;obtain⟨r,rest,hr⟩:=List.exists_cons_of_ne_nil hne;have hr0:l[0]? =some r:=by rw[hr];rfl
    obtain⟨last,hla⟩:∃x,l.getLast? =some x:=⟨_,List.getLast?_eq_some_getLast hne⟩;have hlm:last∈l:=Kf hla;have hli:=Ad3 l hne hlen;rw[hla,Cc] at hli;have hi0:Hm 5 (H4 l) (.i .i64 0)=some r.pv:=by rw[d8 _ _ _ (by omega)];simp[hr0]
    unfold Dm9;rw[hr0,hla];simp only;by_cases h4:r.kind=0
    .rw[if_pos h4];have k1:=k1 5;generalize replyM m 5=o at*;simp(disch:=omega)only[M6,h1,h2,h3,k1,k2,hi0,h4,EVM,EVC,EVR,L1,Al,simprocAttr]
    .rw[if_neg h4];cases ok with
     |false=>
      rw[if_pos rfl];have k1:=k1 2;generalize replyM m 2=o at*;simp(disch:=omega)only[M6,h1,h2,h3,k1,k2,hi0,h4,EVM,EVC,EVR,L1,Al,simprocAttr]
     |true=>
      rw[if_neg (by simp)];have k1:=k1 0;have k3:=fun p3 p4=>Fx4 z m l p3 p4 .u hrs;have k4:=Cs9 last.recs (by have:=hrs.recs last hlm;omega);have hhl:=O6 last.recs [];have hhw:=P2 last.recs [] (hwf last hlm) (by simp);have hrl:=hrs.recs last hlm;rw[C1] at hhl;have k5:=Df3 z (hostsF [] last.recs) hz hl (by omega) hhw;have k6:=gp z (hostsF [] last.recs) hl (by omega);have k7:=Fp8 z (by omega);unfold Hv3;generalize replyM m 0=o at*;generalize ansF m.q.name [] l=an at*;generalize (hostsF [] last.recs).flatMap (Bz2 z)=gl at*;generalize (hostsF [] last.recs).flatMap (By3 z)=ad at*;generalize hostsF [] last.recs=ho at*;generalize soaR z=so at*;by_cases e4:last.kind=4
      .simp only[e4,if_true];simp(disch:=omega)only[M6,h1,h2,h3,k1,k2,k3,k4,k5,hi0,hli,h4,e4,EVM,EVC,EVR,L1,Al,simprocAttr]
      .by_cases e5:last.kind=5
       .simp only[e5,if_true,show¬(5:Int)=4 by omega,if_false];simp(disch:=omega)only[M6,h1,h2,h3,k1,k2,k3,k7,hi0,hli,h4,e5,EVM,EVC,EVR,L1,Al,simprocAttr]
       .by_cases e6:last.kind=6
        .simp only[e6,if_true,show¬(6:Int)=4 by omega,show¬(6:Int)=5 by omega,if_false];simp(disch:=omega)only[M6,h1,h2,h3,k1,k2,k3,k7,hi0,hli,h4,e6,EVM,EVC,EVR,L1,Al,simprocAttr]
        .by_cases e1:last.kind=1
         .simp only[e1,if_true,show¬(1:Int)=4 by omega,show¬(1:Int)=5 by omega,show¬(1:Int)=6 by omega,if_false];simp(disch:=omega)only[M6,h1,h2,h3,k1,k2,k3,k4,k6,hi0,hli,h4,e1,EVM,EVC,EVR,L1,Al,simprocAttr]
         .by_cases e3:last.kind=3
          .by_cases et:last.target=[]
           .simp only[e3,et,if_true,show¬(3:Int)=4 by omega,show¬(3:Int)=5 by omega,show¬(3:Int)=6 by omega,show¬(3:Int)=1 by omega,if_false,and_self];simp(disch:=omega)only[M6,h1,h2,h3,k1,k2,k3,hi0,hli,h4,e3,et,EVM,EVC,EVR,L1,Al,simprocAttr]
           .simp only[e3,et,show¬(3:Int)=4 by omega,show¬(3:Int)=5 by omega,show¬(3:Int)=6 by omega,show¬(3:Int)=1 by omega,if_false,and_false];simp(disch:=omega)only[M6,h1,h2,h3,k1,k2,k3,hi0,hli,h4,e3,et,EVM,EVC,EVR,L1,Al,simprocAttr]
          .simp only[e1,e3,e4,e5,e6,if_false,false_and];simp(disch:=omega)only[M6,h1,h2,h3,k1,k2,k3,hi0,hli,h4,e1,e3,e4,e5,e6,EVM,EVC,EVR,L1,Al,simprocAttr]
 .rw[if_pos (.inl h1)];have k1:=k1 4;generalize replyM m 4=o at*;simp(disch:=omega)only[M6,h1,k1,EVM,EVC,EVR,L1,Al,simprocAttr]
def o5:∀l:List Rec,PV.flat.flats (l.map Rec.pv)=true
 |[]=>by simp[PV.flat.flats]
 |x::l=>by simp only[G4,PV.flat.flats,o5 l,Mr];simp[Rec.pv,Rec.cells,Dat.cells,PV.flat,PV.flat.flats]
def ez (l:List Rec):Bq6 (B6 l)=some (B6 l):=by unfold Bq6 B6;simp only[o5,if_true]
def Pw (l m:List Rec) (hl:l.length+m.length<=100000000):S Bk5 1048578 [B6 l,B6 m]=some [B6 (joinN l m)]:=by
 refine Hg9 (N:=m.length+1) rfl ?_;have key:El2.ev S (m.length+1) [B6 l,B6 m]=some (.yld 0 [B6 (joinN l m)]):=by
  refine E5 m (fun i (g:List Rec)=>[B6 g,.i .i64 (i:Int)]) (fun i g r=> .yld 0 [B6 (joinN g r)]) (fun i g=>g.length<=l.length+i) l rfl (by omega) (by omega) (fun i g c r hd hi hc hI=> ?_) (fun g hI=> ?_)
  .left;have kc:=Uq g c (by omega);have hil:(i:Int)<(m.length:Int):=by omega
   refine⟨if c∈g then g else g++[c],?_,by split<;>(try rw[Bt,Ec])<;>omega,by simp only[joinN]⟩;by_cases h:c∈g
   .have h':decide (c∈g)=true:=by simp[h]
    rw[h'] at kc;rw[if_pos h];simp(disch:=omega)only[Df9,hc,hil,kc,Ah,simprocAttr]
   .have h':decide (c∈g)=false:=by simp[h]
    rw[h'] at kc;rw[if_neg h];simp(disch:=omega)only[Df9,hc,hil,kc,Ah,simprocAttr]
  .simp(disch:=omega)only[Df9,Hh,Ah,simprocAttr];simp[Out.goes,joinN]
 simp(disch:=omega)only[Df9,key,Ah,simprocAttr]
def lr {α:Type} [DecidableEq α]:∀(l m:List α),l.Pairwise (fun a b=>a≠b)->(∀x∈l,x∈m)->l.length<=m.length
 |[],m,_,_=>by simp
 |x::l,m,hp,hs=>by rw[Cd] at hp;have hx:=hs x (.head _);have:=lr l (m.erase x) hp.2 fun y hy=>(List.mem_erase_of_ne (hp.1 y hy).symm).2 (hs y (.tail _ hy));rw[List.length_erase_of_mem hx] at this;have hp:=List.length_pos_of_mem hx;rw[Cv];omega
def Fy1 (z:Zone) (n:List UInt8):(outD z n).length<=z.recs.length:=by
 refine lr _ _ ?_ fun x hx=>by simpa using (Cm.1 hx).2
 have h:(neededN z n).Pairwise fun a b=>a≠b:=by
  unfold neededN;split
  .split
   .exact .nil
   .refine List.Pairwise.filter _ ((qw z).imp fun {a b} h e=> ?_);rw[e] at h;exact to_N.irr _ h
  .exact .nil
 exact h.filter _
def Z9 (z:Zone) (n:List UInt8) (hl:z.recs.length<=60):(denialN z n).length<=3660:=by have h1:=Fy1 z n;have h2:=I7 z (outD z n) hl;unfold denialN;rw[Bt];omega
def O4:∀(m l:List Rec),(joinN l m).length<=l.length+m.length
 |[],l=>by simp[joinN]
 |r::m,l=>by
  have h:=O4 m (if r∈l then l else l++[r]);unfold joinN;rw[Cv];split at h
  .rename_i hr;rw[if_pos hr];omega
  .rename_i hr;rw[if_neg hr];rw[Bt,Ec] at h;omega
def Sm (z:Zone) (t:Int) (hl:z.recs.length<=60):∀(l:List Res) (n:List UInt8) (a:List Rec),(proofsF z t l n a).length<=a.length+3660*l.length
 |[],n,a=>by simp[proofsF]
 |r::l,n,a=>by
  unfold proofsF;have h:=Sm z t hl l r.target (if Dq0 r=true then joinN a (denialN z n) else a);have h1:=O4 (denialN z n) a;have h2:=Z9 z n hl;rw[Cv];split at h
  .rename_i hd;rw[if_pos hd];omega
  .rename_i hd;rw[if_neg hd];omega
def Xq (f:List UInt8->List Rec) (k:Nat) (h:∀x,(f x).length<=k):∀l:List (List UInt8),(l.flatMap f).length<=k*l.length
 |[]=>by simp
 |x::r=>by have h1:=Xq f k h r;have h2:=h x;rw[Ft,Bt,Cv,Nat.mul_add];omega
def Dk7 (z:Zone) (o:List UInt8):(ib z o).length<=z.recs.length:=by unfold ib;split<;>exact Hw z o _
def kz (z:Zone) (m:Msg) (hz:z.wf) (hl:z.recs.length<=60) (hq:m.q.name.length<=9223372036854775807):
  (respondM z m).auth.length<=60∧(respondM z m).ans.length<=600∧(respondM z m).ext.length<=1000000∧(∀r∈(respondM z m).auth,r.wf)∧(∀r∈(respondM z m).ans,r.wf):=by
 have hnil:∀c,(replyM m c).auth=[]∧(replyM m c).ans=[]∧(replyM m c).ext=[]:=fun c=>⟨rfl,rfl,rfl⟩;unfold respondM;split
 .simp[replyM]
 .have hrs:=Vv z m.q hl;have hwf:=pp z m.q hz hq;have htg:∀r∈(chaseM z m.q).1,r.target.length<=9223372036854775807:=Ls (fun r=>r.target.length<=9223372036854775807) z m.q.typ (fun n=>Mh z ⟨n,m.q.typ⟩ hz) 9 [] [m.q.name] m.q.name (by simp);generalize (chaseM z m.q).1=l at*;generalize (chaseM z m.q).2=ok at*;have haw:∀(l:List Res) (n:List UInt8) (acc:List Rec),n.length<=9223372036854775807->(∀r∈l,∀x∈r.recs,x.wf)->(∀r∈l,r.target.length<=9223372036854775807)->(∀x∈acc,x.wf)->∀x∈ansF n acc l,x.wf:=by
   intro l
   induction l with
   |nil=>intro n acc _ _ _ h;exact h
   |cons r l ih=>
    intro n acc hn h1 h2 h3;refine ih r.target _ (h2 r (.head _)) (fun x hx=>h1 x (.tail _ hx)) (fun x hx=>h2 x (.tail _ hx)) fun x hx=> ?_;rcases Cf.1 hx with hx|hx
    .exact h3 x hx
    .unfold Up at hx;split at hx
     .exact h1 r (.head _) x hx
     .split at hx
      .split at hx
       .exact h1 r (.head _) x hx
       .rcases Cf.1 hx with hx|hx
        .exact h1 r (.head _) x hx
        .rw[Cg.1 hx];have i0:R6 0:=⟨by decide,by decide⟩;have u0:Dd4 0:=⟨by decide,by decide⟩;have i5:R6 5:=⟨by decide,by decide⟩;refine⟨hn,i5,?_,⟨u0,u0,h2 r (.head _),Db _,Db _,i0,i0,i0,i0,i0,i0,u0⟩⟩;show R6 (((r.recs[0]?).map Rec.ttl).getD 0);cases h0:r.recs[0]? with
         |none=>exact⟨by decide,by decide⟩
         |some x0=>exact(h1 r (.head _) x0 (Cz h0)).ttl
      .cases hx
  unfold Dm9;split
  .rename_i r last h0 h1;split
   .simp[replyM]
   .split
    .simp[replyM]
    .have ha:=Al2 l m.q.name [] hrs.recs;have hn:=hrs.len;have hlm:=Kf h1;have hlr:=hrs.recs last hlm;have hh:=O6 last.recs [];have hs:=Dl4 z;have hsw:∀x∈soaR z,x.wf:=fun x hx=>by
      unfold soaR at hx;split at hx
      .cases hx
      .rename_i y _ hy;rw[Cg.1 hx];have hyw:=Rb hz (n:=z.origin) (t:=6) (r:=y) (by rw[hy];exact .head _);refine⟨hyw.name,hyw.typ,?_,hyw.data⟩;show R6 (if y.data.e<y.ttl then y.data.e else y.ttl);split
       .exact hyw.data.e
       .exact hyw.ttl
     have hg:=Xq (Bz2 z) 120 (fun x=>by have:=Ev8 z x;omega) (hostsF [] last.recs);have hd:=Xq (By3 z) 120 (fun x=>by have:=Al8 z x;omega) (hostsF [] last.recs);have hw:=haw l m.q.name [] hq hwf htg (by simp);rw[C1] at ha hh;unfold Hv3;generalize ansF m.q.name [] l=an at*;generalize (hostsF [] last.recs).flatMap (Bz2 z)=gl at*;generalize (hostsF [] last.recs).flatMap (By3 z)=ad at*;have n0:∀x∈(replyM m 0).auth,x.wf:=fun x hx=>by cases hx
     split
     .exact⟨hlr,by simp only;omega,by simp only;omega,hwf last hlm,hw⟩
     .split
      .exact⟨by simp only;omega,by simp only;omega,by simp[replyM],hsw,hw⟩
      .split
       .exact⟨by simp only;omega,by simp only;omega,by simp[replyM],hsw,hw⟩
       .split
        .exact⟨by simp[replyM],by simp only;omega,by simp only;omega,n0,hw⟩
        .split
         .exact⟨by simp[replyM],by simp only;omega,by simp[replyM],n0,hw⟩
         .exact⟨by simp[replyM],by simp only;omega,by simp[replyM],n0,hw⟩
  .simp[replyM]
def nmF:List Res->List UInt8->List UInt8
 |[],n=>n
 |r::rs,_=>nmF rs r.target
def Hh8 (z:Zone) (m:Msg) (l:List Res) (a:List Rec) (p2 p3 p4 p7:PV) (hz:z.wf) (hl:z.recs.length<=60) (hll:l.length<=9) (ha:a.length<=60) (ht:∀r∈l,r.target.length<=9223372036854775807) (hq:m.q.name.length<=9223372036854775807):
  Gp2.ev S 1000 [z.pv,m.pv,p2,p3,p4,B6 a,H4 l,p7]=some (.yld 0 [B6 (proofsF z m.q.typ l m.q.name a),.s (nmF l m.q.name)]):=by
 refine E5 l (fun i (g:List UInt8×List Rec)=>[.i .i64 (i:Int),B6 g.2,.s g.1]) (fun i g r=> .yld 0 [B6 (proofsF z m.q.typ r g.1 g.2),.s (nmF r g.1)]) (fun i g=>g.1.length<=9223372036854775807∧g.2.length<=60+3660*i) (m.q.name,a) (by simp(disch:=omega)only[EVM,EVC,EVR,L1,Al,simprocAttr]) ⟨hq,by simpa using ha⟩ (by omega) (fun i g c r hd hi hc hI=> ?_) (fun g hI=> ?_)
 .left;obtain⟨nm,g⟩:=g;obtain⟨i1,i2⟩:=hI;simp only at i1 i2;have hcm:=Cz hc;have kd:=By8 z ⟨nm,m.q.typ⟩ hz hl i1;simp only at kd;have hdl:=Z9 z nm hl;have kj:=Pw g (denialN z nm) (by omega);have hjl:=O4 (denialN z nm) g;have hil:(i:Int)<(l.length:Int):=by omega
  refine⟨(c.target,if Dq0 c=true then joinN g (denialN z nm) else g),?_,⟨ht c hcm,?_⟩,rfl⟩
  .unfold Dq0;generalize joinN g (denialN z nm)=gj at*;generalize denialN z nm=dn at*;by_cases h6:c.kind=6
   .simp(disch:=omega)only[Dd2,hc,hil,h6,kd,kj,Ew,Il,EVM,EVC,EVR,L1,Al,simprocAttr]
    try simp
   .by_cases h5:c.kind=5
    .simp(disch:=omega)only[Dd2,hc,hil,h5,kd,kj,Ew,Il,EVM,EVC,EVR,L1,Al,simprocAttr]
     try simp
    .cases hw:c.wild with
     |true=>
      simp(disch:=omega)only[Dd2,hc,hil,h5,h6,hw,kd,kj,Ew,Il,EVM,EVC,EVR,L1,Al,simprocAttr]
      try simp
     |false=>
      simp(disch:=omega)only[Dd2,hc,hil,h5,h6,hw,kd,kj,Ew,Il,EVM,EVC,EVR,L1,Al,simprocAttr]
      try simp[h5,h6]
  .show List.length (if Dq0 c=true then joinN g (denialN z nm) else g)<=_;split<;>omega
 .simp(disch:=omega)only[Dd2,Hh,EVM,EVC,EVR,L1,Al,simprocAttr]
  try simp[Out.goes,proofsF,nmF]
def Ad7 {l m:List Rec} (h1:∀r∈l,r.wf) (h2:∀r∈m,r.wf):∀r∈joinN l m,r.wf:=fun r hr=>by
 rcases (mem_joinN r m l).1 hr with h|h
 .exact h1 r h
 .exact h2 r h
def Dl7 {z:Zone} {l:List Rec} (hz:z.wf) (hw:∀r∈l,r.wf):∀r∈sigsR z l,r.wf:=fun r hr=>by
 unfold sigsR at hr;obtain⟨x,hx,hr⟩:=Vd.1 hr;have hn:=Aw0 l hw x hx;unfold Av9 at hr;split at hr
 .cases hr
 .unfold sigsOf at hr;have hc:∀n t,∀y∈covR z n t,y.wf:=fun n t y hy=>hz.recs.2 y (Cm.1 hy).1;split at hr
  .exact hc _ _ r hr
  .split at hr
   .obtain⟨y,hy,rfl⟩:=Ev.1 hr;have:=hc _ _ y hy;exact⟨hn,this.typ,this.ttl,this.data⟩
   .cases hr
def Bw3 {z:Zone} (hz:z.wf) (n:List UInt8):∀r∈denialN z n,r.wf:=fun r hr=>by
 unfold denialN at hr;rcases Cf.1 hr with h|h
 .exact ug hz n r h
 .exact Dl7 hz (ug hz n) r h
def Zj {z:Zone} (hz:z.wf) (t:Int):∀(l:List Res) (n:List UInt8) (a:List Rec),(∀r∈a,r.wf)->∀r∈proofsF z t l n a,r.wf
 |[],_,_,h=>h
 |c::l,n,a,h=>by
  unfold proofsF;refine Zj hz t l _ _ ?_;split
  .exact Ad7 h (Bw3 hz n)
  .exact h
def lq (z:Zone) (m:Msg) (hz:z.wf) (hl:z.recs.length<=60) (hq:m.q.name.length<=9223372036854775807):S Gn3 2 [z.pv,m.pv]=some [(proveM z m).pv]:=by
 refine Ht2 (N:=1000) rfl ?_;have k1:=Ap3 z m hz hl hq;obtain⟨b1,b2,b3,w1,w2⟩:=kz z m hz hl hq;have k2:=Ah1 z m.q hz (by omega) hq;have hrs:=Vv z m.q hl;have hne:=qj z m.q;have htg:∀r∈(chaseM z m.q).1,r.target.length<=9223372036854775807:=Ls (fun r=>r.target.length<=9223372036854775807) z m.q.typ (fun n=>Mh z ⟨n,m.q.typ⟩ hz) 9 [] [m.q.name] m.q.name (by simp);unfold proveM Yh;generalize respondM z m=o at*;generalize chaseM z m.q=cm at*;obtain⟨l,ok⟩:=cm;simp only at k2 hrs hne htg ⊢;have hlen:=hrs.len;obtain⟨last,hla⟩:∃x,l.getLast? =some x:=⟨_,List.getLast?_eq_some_getLast hne⟩;have hli:=Ad3 l hne hlen;rw[hla,Cc] at hli;rw[hla];simp only;cases hd:m.dok with
 |false=>
  rw[if_pos (.inl rfl)];simp(disch:=omega)only[Dd2,k1,hd,EVM,EVC,EVR,L1,Al,simprocAttr]
 |true=>
  by_cases h0:o.ans.length+o.auth.length=0
  .have h0':(o.ans.length:Int)+(o.auth.length:Int)=0:=by omega
   rw[if_pos (.inr h0)];simp(disch:=omega)only[Dd2,k1,hd,h0',EVM,EVC,EVR,L1,Al,simprocAttr]
  .have h0':¬(o.ans.length:Int)+(o.auth.length:Int)=0:=by omega
   rw[if_neg (fun h=>h.elim (fun e=>by first|cases e|(rw[hd] at e;cases e)) h0)];have k3:=Ox o.ans (by omega);have k4:=Vb z o.ans hz hl w2 (by omega);have k5:=Ox o.auth (by omega);have k6:=fun p2 p3 p4 p7=>Hh8 z m l o.auth p2 p3 p4 p7 hz hl hlen b1 htg hq;have hpl:=Sm z m.q.typ hl l m.q.name o.auth;have hpw:=Zj hz m.q.typ l m.q.name o.auth w1;have hsl:=I7 z o.ans hl;have f1:=ez (sigsR z o.ans);have a1:=Jy o.ans (sigsR z o.ans) (by omega);generalize sigsR z o.ans=sa at*;generalize nmF l m.q.name=nl at*;generalize proofsF z m.q.typ l m.q.name o.auth=pa at*;by_cases h4:last.kind=4
   .rw[if_pos h4];have c1:=Jx z last.owner 43 (by omega);have c2:=Jx z last.owner 47 (by omega);have hdl:=Dk7 z last.owner;have hdw:∀r∈ib z last.owner,r.wf:=fun r hr=>by unfold ib at hr;split at hr<;>exact Rb hz hr
    have kj:=Pw pa (ib z last.owner) (by omega);have hjl:=O4 (ib z last.owner) pa;have hjw:=Ad7 hpw hdw;have k7:=Vb z (joinN pa (ib z last.owner)) hz hl hjw (by omega);have hs2:=I7 z (joinN pa (ib z last.owner)) hl;have f2:=ez (sigsR z (joinN pa (ib z last.owner)));have k8:=Pw (joinN pa (ib z last.owner)) (sigsR z (joinN pa (ib z last.owner))) (by omega);generalize joinN (joinN pa (ib z last.owner)) (sigsR z (joinN pa (ib z last.owner)))=r8 at*;generalize sigsR z (joinN pa (ib z last.owner))=sb at*;generalize joinN pa (ib z last.owner)=ja at*;unfold ib at kj hdl;by_cases h5:findR z.recs last.owner 43=[]
    .rw[if_pos h5] at kj hdl;rw[h5] at c1;generalize findR z.recs last.owner 47=fn at*;simp(disch:=omega)only[Dd2,k1,k2,k3,k4,k5,k6,k7,k8,f1,f2,a1,c1,c2,kj,hd,h0',h4,hli,Dj2,Ew,Il,EVM,EVC,EVR,L1,Al,simprocAttr]
    .rw[if_neg h5] at kj hdl;have h6:¬((findR z.recs last.owner 43).length:Int)=0:=by have:=Cs.2 h5;omega
     generalize findR z.recs last.owner 43=fn at*;simp(disch:=omega)only[Dd2,k1,k2,k3,k4,k5,k6,k7,k8,f1,f2,a1,c1,h6,kj,hd,h0',h4,hli,Dj2,Ew,Il,EVM,EVC,EVR,L1,Al,simprocAttr]
   .rw[if_neg h4];have k7:=Vb z pa hz hl hpw (by omega);have hs2:=I7 z pa hl;have f2:=ez (sigsR z pa);have k8:=Pw pa (sigsR z pa) (by omega);generalize joinN pa (sigsR z pa)=r8 at*;generalize sigsR z pa=sb at*;simp(disch:=omega)only[Dd2,k1,k2,k3,k4,k5,k6,k7,k8,f1,f2,a1,hd,h0',h4,hli,Dj2,Ew,Il,EVM,EVC,EVR,L1,Al,simprocAttr]
def P5:Msg:=⟨0,0,0,false,false,false,false,false,false,false,true,512,⟨[97,46,120,46],1⟩,[],[],[]⟩
def Fp7:Rec:=⟨[97,46,120,46],1,9,⟨false,0,1,[],[],[],0,0,0,0,0,0,0⟩⟩
def V7:chaseM Ip ⟨[97,46,120,46],1⟩=([⟨1,[42,46,120,46],true,[],[Fp7]⟩],true):=by
 unfold chaseM;rw[Pj]
 kernel_rfl
def An7:(respondM Ip P5).ans=[Fp7]∧(respondM Ip P5).auth=[]:=by unfold respondM;rw[if_neg (by decide),show P5.q=⟨[97,46,120,46],1⟩ from rfl,V7];exact⟨rfl,rfl⟩
def tp:(proveM Ip P5).ans=[Fp7,Gw3]∧(proveM Ip P5).auth=[Ch5]:=by
 obtain⟨h1,h2⟩:=An7;have h3:Yh Ip P5.q []=[Ch5]:=by
  unfold Yh;rw[show P5.q=⟨[97,46,120,46],1⟩ from rfl,V7];show (if(1:Int)=4 then _ else proofsF Ip 1 [⟨1,[42,46,120,46],true,[],[Fp7]⟩] [97,46,120,46] [])=_;rw[if_neg (by decide)];unfold proofsF proofsF;rw[if_pos (by rfl),Bs6]
  kernel_rfl
 have h4:sigsR Ip [Ch5]=[]:=by kernel_rfl
 have h5:sigsR Ip [Fp7]=[Gw3]:=by kernel_rfl
 unfold proveM;rw[if_neg (by rw[h1,h2];decide)];simp only[h1,h2,h3,h4,h5];exact⟨rfl,rfl⟩
def Bx9:S Hq9 0 []=some [.b true]:=by
 have k0:=uj;have k1:=lq Ip P5 Dl5 (by decide) (by decide);obtain⟨h1,h2⟩:=tp;have e0:Msg.pv ⟨0,0,0,false,false,false,false,false,false,false,true,512,⟨[97,46,120,46],1⟩,[],[],[]⟩=P5.pv:=rfl;have q1:((proveM Ip P5).ans.length:Int)=2:=by rw[h1];rfl
 have q2:((proveM Ip P5).auth.length:Int)=1:=by rw[h2];rfl
 have q3:(proveM Ip P5).ans[0]? =some Fp7:=by rw[h1];rfl
 have q4:(proveM Ip P5).ans[1]? =some Gw3:=by rw[h1];rfl
 have q5:(proveM Ip P5).auth[0]? =some Ch5:=by rw[h2];rfl
 have q6:Fp7.typ=1:=rfl;have q7:Gw3.typ=46:=rfl;have q8:Gw3.name=[97,46,120,46]:=rfl;have q9:Ch5.typ=47:=rfl;have qa:Ch5.name=[42,46,120,46]:=rfl;generalize proveM Ip P5=x at*;refine Ht3 (N:=1) rfl ?_;simp(disch:=omega)only[Hs9,k0,k1,e0,q1,q2,q3,q4,q5,q6,q7,q8,q9,qa,EVM,EVC,EVR,L1,Al,simprocAttr]
def Dl8 (z:Zone) (l:List Rec):∀r∈sigsR z l,r.typ=46:=fun r hr=>by
 unfold sigsR at hr;obtain⟨x,_,hr⟩:=Vd.1 hr;have hc:∀n t,∀y∈covR z n t,y.typ=46:=fun n t y hy=>by have:=(Cm.1 hy).2;simp only[Br,decide_eq_true_eq] at this;exact this.1.2
 unfold Av9 at hr;split at hr
 .cases hr
 .unfold sigsOf at hr;split at hr
  .exact hc _ _ r hr
  .split at hr
   .obtain⟨y,hy,rfl⟩:=Ev.1 hr;exact hc _ _ y hy
   .cases hr
def Cq9 (z:Zone) (m:Msg) (hz:z.wf) (hl:z.recs.length<=60) (hq:m.q.name.length<=9223372036854775807):(proveM z m).ans.length<=100000∧(proveM z m).auth.length<=10000000:=by
 obtain⟨b1,b2,b3,_,_⟩:=kz z m hz hl hq;unfold proveM;split
 .omega
 .have h1:=I7 z (respondM z m).ans hl;have h2:=O4 (sigsR z (Yh z m.q (respondM z m).auth)) (Yh z m.q (respondM z m).auth);have h3:=I7 z (Yh z m.q (respondM z m).auth) hl;have hn:=(Vv z m.q hl).len;have h4:=Sm z m.q.typ hl (chaseM z m.q).1 m.q.name (respondM z m).auth;have h5:(Yh z m.q (respondM z m).auth).length<=(respondM z m).auth.length+3660*9+60:=by
   unfold Yh;split
   .rename_i last _;split
    .have:=O4 (ib z last.owner) (proofsF z m.q.typ (chaseM z m.q).1 m.q.name (respondM z m).auth);have:=Dk7 z last.owner;omega
    .omega
   .omega
  constructor
  .simp only[Bt];omega
  .simp only;omega
def T7 (l:List Rec) (x:Rec) (hl:l.length<=100000000):S Ch3 2 [B6 l,x.pv]=some [.b (decide (x∈l))]:=by
 refine Hh4 (N:=l.length+1) rfl ?_;have key:El5.ev S (l.length+1) [B6 l,x.pv]=some (if(l.any fun c=>decide (c=x))=true then .ret [.b true] else .yld 0 []):=by
  refine F4 l (fun i=>[.i .i64 (i:Int)]) (fun i r=>if(r.any fun c=>decide (c=x))=true then .ret [.b true] else .yld 0 []) rfl (by omega) (fun i c r hd hi hc=> ?_) ?_
  .by_cases h:c=x
   .right;simp(disch:=omega)only[Dg1,hc,h,Ah,simprocAttr];simp[h,Out.goes]
   .left;simp(disch:=omega)only[Dg1,hc,h,Ah,simprocAttr];simp[h]
  .simp(disch:=omega)only[Dg1,Ah,simprocAttr];simp[Out.goes]
 have e:(l.any fun c=>decide (c=x))=decide (x∈l):=by rw[D6];simp only[Dy,decide_eq_true_eq];exact⟨fun⟨c,h1,h2⟩=>h2▸h1,fun h=>⟨x,h,rfl⟩⟩
 rw[e] at key;rcases Bn (decide (x∈l)) with h|h<;>rw[h] at key ⊢<;>simp(disch:=omega)only[Dg1,key,Ah,simprocAttr]<;>simp
def Db6 {P:List UInt8->Int->Prop} {g:List SetR} {r:Rec} (hg:∀x∈g,P x.name x.typ) (hr:P r.name r.typ):∀x∈addS g r,P x.name x.typ:=by
 intro x hx;unfold addS at hx;split at hx
 .rename_i y hy;have hym:=Kf hy;split at hx
  .rcases Cf.1 hx with hx|hx
   .exact hg x (List.dropLast_subset _ hx)
   .rw[Cg.1 hx];exact hg y hym
  .rcases Cf.1 hx with hx|hx
   .exact hg x hx
   .rw[Cg.1 hx];exact hr
 .rw[Cg.1 hx];exact hr
def Y5 {P:List UInt8->Int->Prop}:∀(l:List Rec) (g:List SetR),(∀x∈g,P x.name x.typ)->(∀r∈l,P r.name r.typ)->∀x∈l.foldl addS g,P x.name x.typ
 |[],_,hg,_=>hg
 |r::l,g,hg,hl=>Y5 l (addS g r) (Db6 hg (hl r (.head _))) (fun y hy=>hl y (.tail _ hy))
def Gn0 (l:List Rec):∀x∈setsR l,∃r∈l,r.name=x.name∧r.typ=x.typ:=
 Y5 (P:=fun n t=>∃r∈l,r.name=n∧r.typ=t) (sortR l) [] (by simp) fun r hr=>⟨r,(((Oh l).2 r).1 hr).mem,rfl,rfl⟩
def Eb0 (g:List SetR) (r:Rec):(∃x∈addS g r,x.name=r.name∧x.typ=r.typ)∧∀y∈g,∃x∈addS g r,x.name=y.name∧x.typ=y.typ:=by
 unfold addS;split
 .rename_i y hy;split
  .rename_i h;refine⟨⟨_,Cf.2 (.inr (.head _)),h⟩,fun w hw=> ?_⟩;have hne:g≠[]:=fun e=>by rw[e] at hw;cases hw
   have hgl:=List.getLast?_eq_some_getLast hne;rw[hy] at hgl;injection hgl with hgl;rw[<-Ld hne] at hw;rcases Cf.1 hw with hw|hw
   .exact⟨w,Cf.2 (.inl hw),rfl,rfl⟩
   .rw[Cg.1 hw,<-hgl];exact⟨_,Cf.2 (.inr (.head _)),rfl,rfl⟩
  .exact⟨⟨_,Cf.2 (.inr (.head _)),rfl,rfl⟩,fun w hw=>⟨w,Cf.2 (.inl hw),rfl,rfl⟩⟩
 .rename_i hn;rw[List.getLast?_eq_none_iff] at hn;subst hn;exact⟨⟨_,.head _,rfl,rfl⟩,fun w hw=>by cases hw⟩
def j8:∀(l:List Rec) (g:List SetR),(∀r∈l,∃x∈l.foldl addS g,x.name=r.name∧x.typ=r.typ)∧∀y∈g,∃x∈l.foldl addS g,x.name=y.name∧x.typ=y.typ
 |[],g=>⟨by simp,fun y hy=>⟨y,hy,rfl,rfl⟩⟩
 |r::l,g=>by
  obtain⟨a1,a2⟩:=Eb0 g r;obtain⟨i1,i2⟩:=j8 l (addS g r);refine⟨fun s hs=> ?_,fun y hy=> ?_⟩
  .rcases Cj.1 hs with rfl|hs
   .obtain⟨x,hx,n1,n2⟩:=a1;obtain⟨w,hw,m1,m2⟩:=i2 x hx;exact⟨w,hw,m1.trans n1,m2.trans n2⟩
   .exact i1 s hs
  .obtain⟨x,hx,n1,n2⟩:=a2 y hy;obtain⟨w,hw,m1,m2⟩:=i2 x hx;exact⟨w,hw,m1.trans n1,m2.trans n2⟩
def Gw4 (l:List Rec) (r:Rec) (hr:r∈l):∃x∈setsR l,x.name=r.name∧x.typ=r.typ:=by obtain⟨y,hy,hk,_⟩:=Dz4 l r hr;obtain⟨x,hx,n1,n2⟩:=(j8 (sortR l) []).1 y (((Oh l).2 y).2 hy);have e:=hk;unfold Hz at e;simp only[B4] at e;exact⟨x,hx,n1.trans e.1,n2.trans e.2.1⟩
def Cq0 {z:Zone} {n:List UInt8} (ho:ZOk z) (hu:under n z.origin=true) (hc:cutN z n=[]∨cutN z n=n) {r:Rec} (hr:r∈z.recs) (hn:r.name=n):exB z n=true:=by
 rcases Bn (exB z n) with h|h
 .exact h
 .have:=Zx ho hu h hc r hr;rw[hn,Od (Dq.1 hu).1] at this;cases this
def Hr1 {z:Zone} {n u:List UInt8} (ho:ZOk z) (hu:under n z.origin=true) (hc:cutN z n=[]∨cutN z n=n) (h:Ed9 z n=some u) {r:Rec} (hr:r∈z.recs) (hn:r.name=u):exB z u=true:=by
 have hm:=(Ny hu).1 (Ik (Jv h));by_cases e:u=n
 .subst e;exact Cq0 ho hu hc hr hn
 .refine Cq0 ho hm.2 (.inl (Classical.byContradiction fun h0=> ?_)) hr hn;obtain⟨_,g2⟩:=N5 z u z.recs [] (.inl rfl);obtain⟨g1,g3,_,_⟩:=g2 h0;obtain⟨x,hxm,x1,x2⟩:=g3.resolve_left h0;change x.name=cutN z u at x2;change under u (cutN z u)=true at g1;rw[<-x2] at g1;have hnx:=Oc hm.1 g1;obtain⟨k1,k2⟩:=N5 z n z.recs [] (.inl rfl);rcases hc with hc|hc
  .have:=(k1 hc).2 x hxm x1;rw[hnx] at this;cases this
  .by_cases hc0:cutN z n=[]
   .have:=(k1 hc0).2 x hxm x1;rw[hnx] at this;cases this
   .obtain⟨_,_,_,k3⟩:=k2 hc0;have h3:=k3 x hxm x1 hnx;change (lbl (cutN z n)).length<=_ at h3;rw[hc] at h3;obtain⟨_,_,s1⟩:=Dq.1 g1;have:=s1.length_le;exact e (Kv hm.1 (by omega)).symm
def qp (z:Zone) (t:Int):List UInt8->List Res->Prop
 |_,[]=>True
 |n,r::rs=>r=findM z ⟨n,t⟩∧qp z t r.target rs
def Rl (z:Zone) (t:Int):∀(k:Nat) (out:List Res) (seen:List (List UInt8)) (n:List UInt8),∃rest,(Kr z t k out seen n).1=out++rest∧qp z t n rest
 |0,out,_,n=>⟨[],by simp[Kr],trivial⟩
 |k+1,out,seen,n=>by
  rw[Pj];have h1:qp z t n [findM z ⟨n,t⟩]:=⟨rfl,trivial⟩;split
  .exact⟨_,rfl,h1⟩
  .split
   .exact⟨_,rfl,h1⟩
   .split
    .exact⟨_,rfl,h1⟩
    .split
     .exact⟨_,rfl,h1⟩
     .obtain⟨l,hl,hk⟩:=Rl z t k (out++[findM z ⟨n,t⟩]) (seen++[(findM z ⟨n,t⟩).target]) (findM z ⟨n,t⟩).target;exact⟨findM z ⟨n,t⟩::l,by rw[hl,Cw];rfl,rfl,hk⟩
def ansF_from (z:Zone) (t:Int):∀(l:List Res) (n:List UInt8) (acc:List Rec),qp z t n l->∀a∈ansF n acc l,a∈acc∨∃n',a∈Up n' (findM z ⟨n',t⟩)
 |[],_,_,_,a,h=> .inl h
 |r::l,n,acc,hL,a,h=>by
  obtain⟨h1,h2⟩:=hL;rcases ansF_from z t l r.target (acc++Up n r) h2 a h with h|h
  .rcases Cf.1 h with h|h
   .exact .inl h
   .exact .inr ⟨n,by rw[<-h1];exact h⟩
  .exact .inr h
def Cj7 {l:List Rec} {t:Int} (h46:t≠46) (h255:t≠255):∀a∈(saysM l t).recs,a.typ≠46∧a∈l:=by
 intro a ha;unfold saysM at ha;split at ha
 .rename_i c hc;rw[Cg.1 ha];unfold Fp0 at hc;split at hc
  .cases hc
  .have h1:=List.find?_some hc;simp only[decide_eq_true_eq] at h1;exact⟨by omega,Jv hc⟩
 .split at ha
  .cases ha
  .simp only at ha;unfold typedR at ha;rw[if_neg h255] at ha;obtain⟨h1,h2⟩:=Cm.1 ha;simp only[decide_eq_true_eq] at h2;exact⟨by omega,h1⟩
def Ez7 {z:Zone} {n:List UInt8} {t:Int} (ho:ZOk z) (h46:t≠46) (h255:t≠255):∀a∈Up n (findM z ⟨n,t⟩),a.typ≠46∧(a∈z.recs->exB z a.name=true):=by
 intro a ha;have sub:a∈(findM z ⟨n,t⟩).recs∨(findM z ⟨n,t⟩).kind=3∧a=pf n (findM z ⟨n,t⟩):=by
  unfold Up at ha;split at ha
  .exact .inl ha
  .split at ha
   .rename_i hk;split at ha
    .exact .inl ha
    .rcases Cf.1 ha with ha|ha
     .exact .inl ha
     .exact .inr ⟨hk,Cg.1 ha⟩
   .cases ha
 have nk:(findM z ⟨n,t⟩).kind≠4:=fun hk=>by unfold Up at ha;rw[hk] at ha;rw[if_neg (by omega),if_neg (by omega)] at ha;cases ha
 unfold findM at sub nk;split at sub
 .rename_i hu;rw[if_pos hu] at nk;split at sub
  .rename_i hc;rw[if_pos hc] at nk;exact absurd rfl nk
  .rename_i hc;have hc':cutN z n=[]∨cutN z n=n:=by
    by_cases h0:cutN z n=[]
    .exact .inl h0
    .exact .inr (Classical.byContradiction fun h1=>hc ⟨h0,.inl h1⟩)
   have here:a.name=n->a∈z.recs->exB z a.name=true:=fun e hm=>by rw[e];exact Cq0 ho hu hc' hm e
   unfold oh at sub;split at sub
   .rename_i x hx;unfold Ax2 at hx;obtain⟨u,hu2,rfl⟩:=Bs.1 hx;rcases sub with h|⟨_,rfl⟩
    .unfold Tl at h;split at h
     .rename_i r rest hf;simp only[Cg] at h;subst h;have hty:=(Lp.1 (show a∈findR z.recs u 39 by rw[hf];exact .head _)).2;exact⟨by omega,fun hz=>by rw[hty.1];exact Hr1 ho hu hc' hu2 hz hty.1⟩
     .cases h
    .exact⟨by show (5:Int)≠46;omega,here rfl⟩
   .split at sub
    .rename_i hex;rcases sub with h|⟨hk,_⟩
     .obtain⟨h1,h2⟩:=Cj7 h46 h255 a h;have h3:=(Cm.1 h2).2;simp only[decide_eq_true_eq] at h3;exact⟨h1,fun _=>by rw[h3];exact hex⟩
     .have hk':(saysM (allR z n) t).kind=3:=hk;rcases says_kind (allR z n) t with h|h|h<;>omega
    .unfold bd at sub;split at sub
     .simp only[Dz] at sub;rcases sub with h|⟨hk,_⟩
      .obtain⟨h1,h2⟩:=Cj7 h46 h255 a h;obtain⟨y,_,rfl⟩:=Ev.1 h2;exact⟨h1,here rfl⟩
      .have hk':(saysM ((allR z (starN (encN z n))).map (Ps n)) t).kind=3:=hk;rcases says_kind ((allR z (starN (encN z n))).map (Ps n)) t with h|h|h<;>omega
     .rcases sub with h|⟨hk,_⟩
      .simp at h
      .simp at hk
 .rcases sub with h|⟨hk,_⟩
  .simp[Fr9] at h
  .simp[Fr9] at hk
def Hk5 {z:Zone} {m:Msg} (ho:ZOk z) (h46:m.q.typ≠46) (h255:m.q.typ≠255):∀a∈(respondM z m).ans,a.typ≠46∧(a∈z.recs->exB z a.name=true):=by
 have hL:qp z m.q.typ m.q.name (chaseM z m.q).1:=by obtain⟨rest,h1,h2⟩:=Rl z m.q.typ 9 [] [m.q.name] m.q.name;unfold chaseM;rw[h1];exact h2
 have ha:∀a∈(respondM z m).ans,a∈ansF m.q.name [] (chaseM z m.q).1:=by
  intro a h;unfold respondM at h;split at h
  .cases h
  .unfold Dm9 at h;split at h
   .split at h
    .cases h
    .split at h
     .cases h
     .unfold Hv3 at h
      repeat' split at h
      all_goals exact h
   .cases h
 intro a h;rcases ansF_from z m.q.typ _ _ _ hL a (ha a h) with h|⟨n,h⟩
 .cases h
 .exact Ez7 ho h46 h255 a h
structure SgOk (z:Zone) (l:List Rec):Prop where
 own:∀a∈l,a.typ=46->∃b∈l,b.name=a.name∧b.typ=a.data.a∧b.typ≠46
 all:∀a∈l,a.typ≠46->a∈z.recs->∀s∈z.recs,s.name=a.name->s.typ=46->s.data.a=a.typ->s∈l
def Hb7 {z:Zone} {m:Msg} (ho:ZOk z) (hd:m.dok=true) (h46:m.q.typ≠46) (h255:m.q.typ≠255):SgOk z (proveM z m).ans:=by
 have hA:=Hk5 (z:=z) (m:=m) ho h46 h255;by_cases h0:(respondM z m).ans=[]
 .have e:(proveM z m).ans=[]:=by
   unfold proveM;split
   .exact h0
   .simp only[h0];rfl
  rw[e];exact⟨by simp,by simp⟩
 .have e:(proveM z m).ans=(respondM z m).ans++sigsR z (respondM z m).ans:=by unfold proveM;have:=Cs.2 h0;rw[if_neg (by simp[hd];intro q;exact absurd q h0)]
  rw[e];generalize (respondM z m).ans=y at*;refine⟨fun a ha ht=> ?_,fun a ha ht hz s hs hn h2 h3=> ?_⟩
  .rcases Cf.1 ha with h|h
   .exact absurd ht (hA a h).1
   .have h':=h;unfold sigsR at h';obtain⟨x,hx,hax⟩:=Vd.1 h';obtain⟨b,hb,n1,n2⟩:=Gn0 y x hx;have hax2:a.name=x.name∧a.data.a=x.typ:=by
     unfold Av9 at hax;split at hax
     .cases hax
     .unfold sigsOf at hax;have hc:∀n t,∀w∈covR z n t,w.name=n∧w.data.a=t:=fun n t w hw=>by have:=(Cm.1 hw).2;simp only[Br,decide_eq_true_eq] at this;exact⟨this.1.1,this.2⟩
      split at hax
      .exact hc _ _ a hax
      .split at hax
       .obtain⟨w,hw,rfl⟩:=Ev.1 hax;exact⟨rfl,(hc _ _ w hw).2⟩
       .cases hax
    exact⟨b,Cf.2 (.inl hb),n1.trans hax2.1.symm,n2.trans hax2.2.symm,(hA b hb).1⟩
  .rcases Cf.1 ha with h|h
   .obtain⟨x,hx,n1,n2⟩:=Gw4 y a h;refine Cf.2 (.inr ?_);unfold sigsR;refine Vd.2 ⟨x,hx,?_⟩;unfold Av9;rw[if_neg (by omega)];unfold sigsOf;have hex:=(hA a h).2 hz;rw[if_pos (by rw[n1];simp[hex])];refine Cm.2 ⟨hs,?_⟩;simp only[Br,decide_eq_true_eq];exact⟨⟨hn.trans n1.symm,h2⟩,h3.trans n2.symm⟩
   .exact absurd (Dl8 z y a h) ht
def W9 (a b:Rec):Bool:=(decide (b.name=a.name) && decide (b.typ=a.data.a)) && decide (b.typ≠46)
def Bt2 (z:Zone) (q:Ques) (x:Msg) (i:Nat) (a:Rec) (N:Nat) (p2 p3:PV) (hi:x.ans[i]? =some a) (hN:x.ans.length<N) (hl:x.ans.length<=1000000):
  Gp1.ev S N [z.pv,q.pv,p2,p3,x.pv,.i .i64 (i:Int)]=some (.yld 2 [.b (decide (a.typ≠46)||x.ans.any (W9 a))]):=by
 have hil:=(Bp.1 hi).1;refine E5 x.ans (fun j (f:Bool)=>[.b f,.i .i64 (j:Int)]) (fun _ f r=> .yld 2 [.b (f||r.any (W9 a))]) (fun _ _=>True) (decide (a.typ≠46)) ?_ trivial hN (fun j f c r hd hj hc _=> ?_) (fun f _=> ?_)
 .simp(disch:=omega)only[hi,Ag,simprocAttr]
 .left;have hjl:(j:Int)<(x.ans.length:Int):=by omega
  refine⟨f||W9 a c,?_,trivial,by simp[Bool.or_assoc]⟩;unfold W9;cases f with
  |true=>
   simp(disch:=omega)only[Yp,hi,hc,hjl,Ag,simprocAttr]
   try simp
  |false=>
   by_cases h1:c.name=a.name
   .by_cases h2:c.typ=a.data.a
    .simp(disch:=omega)only[Yp,hi,hc,hjl,h1,h2,Ag,simprocAttr]
     try simp
    .simp(disch:=omega)only[Yp,hi,hc,hjl,h1,h2,Ag,simprocAttr]
     try simp[h1,h2]
   .simp(disch:=omega)only[Yp,hi,hc,hjl,h1,Ag,simprocAttr]
    try simp[h1]
 .simp(disch:=omega)only[Yp,Hh,Ag,simprocAttr]
  try simp[Out.goes]
def Bt1 (z:Zone) (q:Ques) (x:Msg) (i:Nat) (a:Rec) (N:Nat) (p2 p3 p6 p7:PV) (hi:x.ans[i]? =some a) (hN:z.recs.length<N) (hl:x.ans.length<=1000000) (hz:z.recs.length<=60)
  (h:∀s∈z.recs,s.name=a.name->s.typ=46->s.data.a=a.typ->s∈x.ans):
  Gp0.ev S N [z.pv,q.pv,p2,p3,x.pv,.i .i64 (i:Int),p6,p7]=some (.yld 2 []):=by
 have hil:=(Bp.1 hi).1;refine F4 z.recs (fun j=>[.i .i64 (j:Int)]) (fun _ _=> .yld 2 []) (by simp(disch:=omega)only[Ag,simprocAttr]) hN (fun j c r hd hj hc=> ?_) ?_
 .left;have hjl:(j:Int)<(z.recs.length:Int):=by omega
  refine⟨?_,rfl⟩;have kc:=T7 x.ans c (by omega);by_cases h1:c.name=a.name
  .by_cases h2:c.typ=46
   .by_cases h3:c.data.a=a.typ
    .rw[decide_eq_true (h c (Cz hc) h1 h2 h3)] at kc;simp(disch:=omega)only[Yp,hi,hc,hjl,h1,h2,h3,kc,Ag,simprocAttr]
    .simp(disch:=omega)only[Yp,hi,hc,hjl,h1,h2,h3,kc,Ag,simprocAttr]
   .simp(disch:=omega)only[Yp,hi,hc,hjl,h1,h2,kc,Ag,simprocAttr]
  .simp(disch:=omega)only[Yp,hi,hc,hjl,h1,kc,Ag,simprocAttr]
 .simp(disch:=omega)only[Yp,Hh,Ag,simprocAttr]
  try simp[Out.goes]
def law_ProveSigned (z:Zone) (q:Ques) (hz:z.wf) (hq:q.wf):S Hv0 2 [z.pv,q.pv]=some [.b true]:=by
 have k0:=Bx9;have hqn:q.name.length<=9223372036854775807:=hq.name;by_cases h3:z.recs.length<=60
 .have k2:=ry z hz (by omega);have h3':¬(60:Int)<(z.recs.length:Int):=by omega
  by_cases h4:q.name.length<=300
  .have h4':¬(300:Int)<(q.name.length:Int):=by omega
   by_cases h46:q.typ=46
   .refine Fr1 (N:=1) rfl ?_;simp(disch:=omega)only[Yp,k0,h3',h4',h46,Ag,simprocAttr]
   .by_cases h255:q.typ=255
    .refine Fr1 (N:=1) rfl ?_;simp(disch:=omega)only[Yp,k0,h3',h4',h255,Ag,simprocAttr]
    .by_cases h5:M2 z=0
     .have ho:=Xm h5;have k3:=lq z ⟨0,0,0,false,false,false,false,false,false,false,true,512,q,[],[],[]⟩ hz h3 hqn;have hs:=Hb7 (z:=z) (m:=⟨0,0,0,false,false,false,false,false,false,false,true,512,q,[],[],[]⟩) ho rfl h46 h255;obtain⟨c1,_⟩:=Cq9 z ⟨0,0,0,false,false,false,false,false,false,false,true,512,q,[],[],[]⟩ hz h3 hqn;generalize proveM z ⟨0,0,0,false,false,false,false,false,false,false,true,512,q,[],[],[]⟩=x at*;have key:Gp3.ev S (x.ans.length+100) [z.pv,q.pv,.b true,.i .i64 0,x.pv]=some (.yld 0 []):=by
       refine F4 x.ans (fun i=>[.i .i64 (i:Int)]) (fun _ _=> .yld 0 []) (by simp(disch:=omega)only[Ag,simprocAttr]) (by omega) (fun i a r hd hi ha=> ?_) ?_
       .left;refine⟨?_,rfl⟩;have hil:(i:Int)<(x.ans.length:Int):=by omega
        have ham:=Cz ha;have g1:=Bt2 z q x i a (x.ans.length+100) (.b true) (.i .i64 0) ha (by omega) (by omega);have kc:=T7 z.recs a (by omega);by_cases ht:a.typ=46
        .obtain⟨b,hb,n1,n2,n3⟩:=hs.own a ham ht;have e:(decide (a.typ≠46)||x.ans.any (W9 a))=true:=by rw[Ck];refine .inr (Dy.2 ⟨b,hb,?_⟩);unfold W9;simp[n1,n2];rw[<-n2];exact n3
         rw[e] at g1;simp(disch:=omega)only[Yp,ha,hil,g1,ht,Ag,simprocAttr]
        .have e:(decide (a.typ≠46)||x.ans.any (W9 a))=true:=by simp[ht]
         rw[e] at g1;by_cases hm:a∈z.recs
         .have g2:=fun p6 p7=>Bt1 z q x i a (x.ans.length+100) (.b true) (.i .i64 0) p6 p7 ha (by omega) (by omega) h3 (hs.all a ham ht hm);rw[decide_eq_true hm] at kc;simp(disch:=omega)only[Yp,ha,hil,g1,g2,ht,kc,Ag,simprocAttr]
         .rw[decide_eq_false hm] at kc;simp(disch:=omega)only[Yp,ha,hil,g1,ht,kc,Ag,simprocAttr]
       .simp(disch:=omega)only[Yp,Hh,Ag,simprocAttr]
        try simp[Out.goes]
      rw[h5] at k2;refine Fr1 (N:=x.ans.length+100) rfl ?_;simp(disch:=omega)only[Yp,k0,k2,k3,key,h3',h4',h46,h255,Ag,simprocAttr]
     .refine Fr1 (N:=1) rfl ?_;simp(disch:=omega)only[Yp,k0,k2,h3',h4',h46,h255,h5,Ag,simprocAttr]
  .have h4':(300:Int)<(q.name.length:Int):=by omega
   refine Fr1 (N:=1) rfl ?_;simp(disch:=omega)only[Yp,k0,h3',h4',Ag,simprocAttr]
 .have h3':(60:Int)<(z.recs.length:Int):=by omega
  refine Fr1 (N:=1) rfl ?_;simp(disch:=omega)only[Yp,k0,h3',Ag,simprocAttr]
end Go.X.G
