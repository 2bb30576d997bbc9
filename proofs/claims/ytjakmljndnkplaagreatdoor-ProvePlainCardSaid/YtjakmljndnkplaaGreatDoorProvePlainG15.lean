/- The law LookupResponds. -/
import Derived.Test.YtjakmljndnkplaaGreatDoorProvePlainG14
open Bool renaming eq_false_or_eq_true->Bn,and_eq_true->Br,eq_iff_iff->D7,and_true->Mt
open Int renaming toNat_natCast->Fx,lt_irrefl->Mr,le_refl->Bb2
open List renaming getElem?_eq_some_iff->Bp,length_append->Bt,getElem?_eq_getElem->B0,append_assoc->Ck,length_take->Cq,length_cons->Cw,getElem?_append_right->Cy,pairwise_cons->Cc,mem_of_getElem?->Cd,mem_singleton->Cp,length_pos_iff->Cr,mem_filter->Cs,mem_append->Ct,length_nil->C1,any_eq_true->Dy,length_singleton->Ev,mem_map->Eh,length_map->Er,append_nil->Es,drop_zero->Ft,flatMap_cons->F1,map_cons->G4,mem_of_getLast?->Qj
open Nat renaming le_refl->B7,zero_le->Dz
open Option renaming map_some->Cb
set_option maxHeartbeats 1000000
set_option linter.defProp false
set_option linter.unusedVariables false
set_option linter.unusedSimpArgs false
namespace Go.X.G
open Go Go.X
def Al:=And.intro xe<|And.intro EVP EV
def Ah:=And.intro EVC<|And.intro xe<|And.intro EVP EV
def Ag:=And.intro EVM<|And.intro EVC<|And.intro xe<|And.intro EVP EV
def Y6 (z:Zone) (m:Msg) (hz:z.wf) (hl:z.recs.length<=60) (hq:m.q.name.length<=9223372036854775807):S Ch1 2 [z.pv,m.pv]=some [(respondM z m).pv]:=by
 refine Hh6 (N:=1000) rfl ?_;have k1:=Ck3 m;unfold respondM;by_cases h1:m.op=0
 .by_cases h2:m.q.typ=251
  .rw[if_pos (.inr (.inl h2))];have k1:=k1 4;generalize replyM m 4=o at*;simp(disch:=omega)only[M8,h1,h2,k1,EVM,EVC,EVR,L2,Al,simprocAttr]
  .by_cases h3:m.q.typ=252
   .rw[if_pos (.inr (.inr h3))];have k1:=k1 4;generalize replyM m 4=o at*;simp(disch:=omega)only[M8,h1,h3,k1,EVM,EVC,EVR,L2,Al,simprocAttr]
   .rw[if_neg (by simp[h1,h2,h3])];have k2:=Ah2 z m.q hz (by omega) hq;have hrs:=Vy z m.q hl;have hwf:=pn z m.q hz hq;have hne:=pp z m.q;generalize chaseM z m.q=cm at*;obtain⟨l,ok⟩:=cm;simp only at k2 hrs hwf hne ⊢;have hlen:=hrs.len;obtain⟨r,rest,hr⟩:=List.exists_cons_of_ne_nil hne;have hr0:l[0]? =some r:=by rw[hr];rfl
    obtain⟨last,hla⟩:∃x,l.getLast? =some x:=⟨_,List.getLast?_eq_some_getLast hne⟩;have hlm:last∈l:=Qj hla;have hli:=Ad1 l hne hlen;rw[hla,Cb] at hli;have hi0:Hm 5 (H4 l) (.i .i64 0)=some r.pv:=by rw[eq _ _ _ (by omega)];simp[hr0]
    unfold Fx6;rw[hr0,hla];simp only;by_cases h4:r.kind=0
    .rw[if_pos h4];have k1:=k1 5;generalize replyM m 5=o at*;simp(disch:=omega)only[M8,h1,h2,h3,k1,k2,hi0,h4,EVM,EVC,EVR,L2,Al,simprocAttr]
    .rw[if_neg h4];cases ok with
     |false=>
      rw[if_pos rfl];have k1:=k1 2;generalize replyM m 2=o at*;simp(disch:=omega)only[M8,h1,h2,h3,k1,k2,hi0,h4,EVM,EVC,EVR,L2,Al,simprocAttr]
     |true=>
      rw[if_neg (by simp)];have k1:=k1 0;have k3:=fun p3 p4=>Fx5 z m l p3 p4 .u hrs;have k4:=Cs8 last.recs (by have:=hrs.recs last hlm;omega);have hhl:=O6 last.recs [];have hhw:=P3 last.recs [] (hwf last hlm) (by simp);have hrl:=hrs.recs last hlm;rw[C1] at hhl;have k5:=Dd9 z (hostsF [] last.recs) hz hl (by omega) hhw;have k6:=g7 z (hostsF [] last.recs) hl (by omega);have k7:=Fr0 z (by omega);unfold Hn3;generalize replyM m 0=o at*;generalize ansF m.q.name [] l=an at*;generalize (hostsF [] last.recs).flatMap (Bz4 z)=gl at*;generalize (hostsF [] last.recs).flatMap (By4 z)=ad at*;generalize hostsF [] last.recs=ho at*;generalize soaR z=so at*;by_cases e4:last.kind=4
      .simp only[e4,if_true];simp(disch:=omega)only[M8,h1,h2,h3,k1,k2,k3,k4,k5,hi0,hli,h4,e4,EVM,EVC,EVR,L2,Al,simprocAttr]
      .by_cases e5:last.kind=5
       .simp only[e5,if_true,show¬(5:Int)=4 by omega,if_false];simp(disch:=omega)only[M8,h1,h2,h3,k1,k2,k3,k7,hi0,hli,h4,e5,EVM,EVC,EVR,L2,Al,simprocAttr]
       .by_cases e6:last.kind=6
        .simp only[e6,if_true,show¬(6:Int)=4 by omega,show¬(6:Int)=5 by omega,if_false];simp(disch:=omega)only[M8,h1,h2,h3,k1,k2,k3,k7,hi0,hli,h4,e6,EVM,EVC,EVR,L2,Al,simprocAttr]
        .by_cases e1:last.kind=1
         .simp only[e1,if_true,show¬(1:Int)=4 by omega,show¬(1:Int)=5 by omega,show¬(1:Int)=6 by omega,if_false];simp(disch:=omega)only[M8,h1,h2,h3,k1,k2,k3,k4,k6,hi0,hli,h4,e1,EVM,EVC,EVR,L2,Al,simprocAttr]
         .by_cases e3:last.kind=3
          .by_cases et:last.target=[]
           .simp only[e3,et,if_true,show¬(3:Int)=4 by omega,show¬(3:Int)=5 by omega,show¬(3:Int)=6 by omega,show¬(3:Int)=1 by omega,if_false,and_self];simp(disch:=omega)only[M8,h1,h2,h3,k1,k2,k3,hi0,hli,h4,e3,et,EVM,EVC,EVR,L2,Al,simprocAttr]
           .simp only[e3,et,show¬(3:Int)=4 by omega,show¬(3:Int)=5 by omega,show¬(3:Int)=6 by omega,show¬(3:Int)=1 by omega,if_false,and_false];simp(disch:=omega)only[M8,h1,h2,h3,k1,k2,k3,hi0,hli,h4,e3,et,EVM,EVC,EVR,L2,Al,simprocAttr]
          .simp only[e1,e3,e4,e5,e6,if_false,false_and];simp(disch:=omega)only[M8,h1,h2,h3,k1,k2,k3,hi0,hli,h4,e1,e3,e4,e5,e6,EVM,EVC,EVR,L2,Al,simprocAttr]
 .rw[if_pos (.inl h1)];have k1:=k1 4;generalize replyM m 4=o at*;simp(disch:=omega)only[M8,h1,k1,EVM,EVC,EVR,L2,Al,simprocAttr]
def o4:∀l:List Rec,PV.flat.flats (l.map Rec.pv)=true
 |[]=>by simp[PV.flat.flats]
 |x::l=>by simp only[G4,PV.flat.flats,o4 l,Mt];simp[Rec.pv,Rec.cells,Dat.cells,PV.flat,PV.flat.flats]
def ep (l:List Rec):Bv0 (B6 l)=some (B6 l):=by unfold Bv0 B6;simp only[o4,if_true]
def Pv (l m:List Rec) (hl:l.length+m.length<=100000000):S Bk7 1048578 [B6 l,B6 m]=some [B6 (joinN l m)]:=by
 refine Hh0 (N:=m.length+1) rfl ?_;have key:Eh7.ev S (m.length+1) [B6 l,B6 m]=some (.yld 0 [B6 (joinN l m)]):=by
  refine E8 m (fun i (g:List Rec)=>[B6 g,.i .i64 (i:Int)]) (fun i g r=> .yld 0 [B6 (joinN g r)]) (fun i g=>g.length<=l.length+i) l rfl (by omega) (by omega) (fun i g c r hd hi hc hI=> ?_) (fun g hI=> ?_)
  .left;have kc:=Uv g c (by omega);have hil:(i:Int)<(m.length:Int):=by omega
   refine⟨if c∈g then g else g++[c],?_,by split<;>(try rw[Bt,Ev])<;>omega,by simp only[joinN]⟩;by_cases h:c∈g
   .have h':decide (c∈g)=true:=by simp[h]
    rw[h'] at kc;rw[if_pos h];simp(disch:=omega)only[Df6,hc,hil,kc,Ah,simprocAttr]
   .have h':decide (c∈g)=false:=by simp[h]
    rw[h'] at kc;rw[if_neg h];simp(disch:=omega)only[Df6,hc,hil,kc,Ah,simprocAttr]
  .simp(disch:=omega)only[Df6,Mr,Ah,simprocAttr];simp[Out.goes,joinN]
 simp(disch:=omega)only[Df6,key,Ah,simprocAttr]
def l4 {α:Type} [DecidableEq α]:∀(l m:List α),l.Pairwise (fun a b=>a≠b)->(∀x∈l,x∈m)->l.length<=m.length
 |[],m,_,_=>by simp
 |x::l,m,hp,hs=>by rw[Cc] at hp;have hx:=hs x (.head _);have:=l4 l (m.erase x) hp.2 fun y hy=>(List.mem_erase_of_ne (hp.1 y hy).symm).2 (hs y (.tail _ hy));rw[List.length_erase_of_mem hx] at this;have hp:=List.length_pos_of_mem hx;rw[Cw];omega
def Fy4 (z:Zone) (n:List UInt8):(outD z n).length<=z.recs.length:=by
 refine l4 _ _ ?_ fun x hx=>by simpa using (Cs.1 hx).2
 have h:(neededN z n).Pairwise fun a b=>a≠b:=by
  unfold neededN;split
  .split
   .exact .nil
   .refine List.Pairwise.filter _ ((qv z).imp fun {a b} h e=> ?_);rw[e] at h;exact to_N.irr _ h
  .exact .nil
 exact h.filter _
def aj (z:Zone) (n:List UInt8) (hl:z.recs.length<=60):(denialN z n).length<=3660:=by have h1:=Fy4 z n;have h2:=I6 z (outD z n) hl;unfold denialN;rw[Bt];omega
def O4:∀(m l:List Rec),(joinN l m).length<=l.length+m.length
 |[],l=>by simp[joinN]
 |r::m,l=>by
  have h:=O4 m (if r∈l then l else l++[r]);unfold joinN;rw[Cw];split at h
  .rename_i hr;rw[if_pos hr];omega
  .rename_i hr;rw[if_neg hr];rw[Bt,Ev] at h;omega
def Sp (z:Zone) (t:Int) (hl:z.recs.length<=60):∀(l:List Res) (n:List UInt8) (a:List Rec),(proofsF z t l n a).length<=a.length+3660*l.length
 |[],n,a=>by simp[proofsF]
 |r::l,n,a=>by
  unfold proofsF;have h:=Sp z t hl l r.target (if Dk9 r=true then joinN a (denialN z n) else a);have h1:=O4 (denialN z n) a;have h2:=aj z n hl;rw[Cw];split at h
  .rename_i hd;rw[if_pos hd];omega
  .rename_i hd;rw[if_neg hd];omega
def Xv (f:List UInt8->List Rec) (k:Nat) (h:∀x,(f x).length<=k):∀l:List (List UInt8),(l.flatMap f).length<=k*l.length
 |[]=>by simp
 |x::r=>by have h1:=Xv f k h r;have h2:=h x;rw[F1,Bt,Cw,Nat.mul_add];omega
def Dk6 (z:Zone) (o:List UInt8):(Z9 z o).length<=z.recs.length:=by unfold Z9;split<;>exact Hw z o _
def Wz (z:Zone) (m:Msg) (hz:z.wf) (hl:z.recs.length<=60) (hq:m.q.name.length<=9223372036854775807):
  (respondM z m).auth.length<=60∧(respondM z m).ans.length<=600∧(respondM z m).ext.length<=1000000∧(∀r∈(respondM z m).auth,r.wf)∧(∀r∈(respondM z m).ans,r.wf):=by
 have hnil:∀c,(replyM m c).auth=[]∧(replyM m c).ans=[]∧(replyM m c).ext=[]:=fun c=>⟨rfl,rfl,rfl⟩;unfold respondM;split
 .simp[replyM]
 .have hrs:=Vy z m.q hl;have hwf:=pn z m.q hz hq;have htg:∀r∈(chaseM z m.q).1,r.target.length<=9223372036854775807:=Lr (fun r=>r.target.length<=9223372036854775807) z m.q.typ (fun n=>Ml z ⟨n,m.q.typ⟩ hz) 9 [] [m.q.name] m.q.name (by simp);generalize (chaseM z m.q).1=l at*;generalize (chaseM z m.q).2=ok at*;have haw:∀(l:List Res) (n:List UInt8) (acc:List Rec),n.length<=9223372036854775807->(∀r∈l,∀x∈r.recs,x.wf)->(∀r∈l,r.target.length<=9223372036854775807)->(∀x∈acc,x.wf)->∀x∈ansF n acc l,x.wf:=by
   intro l
   induction l with
   |nil=>intro n acc _ _ _ h;exact h
   |cons r l ih=>
    intro n acc hn h1 h2 h3;refine ih r.target _ (h2 r (.head _)) (fun x hx=>h1 x (.tail _ hx)) (fun x hx=>h2 x (.tail _ hx)) fun x hx=> ?_;rcases Ct.1 hx with hx|hx
    .exact h3 x hx
    .unfold Aj2 at hx;split at hx
     .exact h1 r (.head _) x hx
     .split at hx
      .split at hx
       .exact h1 r (.head _) x hx
       .rcases Ct.1 hx with hx|hx
        .exact h1 r (.head _) x hx
        .rw[Cp.1 hx];have i0:R6 0:=⟨by decide,by decide⟩;have u0:Dd0 0:=⟨by decide,by decide⟩;have i5:R6 5:=⟨by decide,by decide⟩;refine⟨hn,i5,?_,⟨u0,u0,h2 r (.head _),Dz _,Dz _,i0,i0,i0,i0,i0,i0,u0⟩⟩;show R6 (((r.recs[0]?).map Rec.ttl).getD 0);cases h0:r.recs[0]? with
         |none=>exact⟨by decide,by decide⟩
         |some x0=>exact(h1 r (.head _) x0 (Cd h0)).ttl
      .cases hx
  unfold Fx6;split
  .rename_i r last h0 h1;split
   .simp[replyM]
   .split
    .simp[replyM]
    .have ha:=Al3 l m.q.name [] hrs.recs;have hn:=hrs.len;have hlm:=Qj h1;have hlr:=hrs.recs last hlm;have hh:=O6 last.recs [];have hs:=Dl1 z;have hsw:∀x∈soaR z,x.wf:=fun x hx=>by
      unfold soaR at hx;split at hx
      .cases hx
      .rename_i y _ hy;rw[Cp.1 hx];have hyw:=Rc hz (n:=z.origin) (t:=6) (r:=y) (by rw[hy];exact .head _);refine⟨hyw.name,hyw.typ,?_,hyw.data⟩;show R6 (if y.data.e<y.ttl then y.data.e else y.ttl);split
       .exact hyw.data.e
       .exact hyw.ttl
     have hg:=Xv (Bz4 z) 120 (fun x=>by have:=Ev6 z x;omega) (hostsF [] last.recs);have hd:=Xv (By4 z) 120 (fun x=>by have:=Al9 z x;omega) (hostsF [] last.recs);have hw:=haw l m.q.name [] hq hwf htg (by simp);rw[C1] at ha hh;unfold Hn3;generalize ansF m.q.name [] l=an at*;generalize (hostsF [] last.recs).flatMap (Bz4 z)=gl at*;generalize (hostsF [] last.recs).flatMap (By4 z)=ad at*;have n0:∀x∈(replyM m 0).auth,x.wf:=fun x hx=>by cases hx
     split
     .exact⟨hlr,by simp only;omega,by simp only;omega,hwf last hlm,hw⟩
     .split
      .exact⟨by simp only;omega,by simp only;omega,by simp[replyM],hsw,hw⟩
      .split
       .exact⟨by simp only;omega,by simp only;omega,by simp[replyM],hsw,hw⟩
       .split
        .exact⟨by simp[replyM],by simp only;omega,by simp only;omega,n0,hw⟩
        .split
         .exact⟨by simp[replyM],by simp only;omega,by simp[replyM],n0,hw⟩
         .exact⟨by simp[replyM],by simp only;omega,by simp[replyM],n0,hw⟩
  .simp[replyM]
def nmF:List Res->List UInt8->List UInt8
 |[],n=>n
 |r::rs,_=>nmF rs r.target
def Hl1 (z:Zone) (m:Msg) (l:List Res) (a:List Rec) (p2 p3 p4 p7:PV) (hz:z.wf) (hl:z.recs.length<=60) (hll:l.length<=9) (ha:a.length<=60) (ht:∀r∈l,r.target.length<=9223372036854775807) (hq:m.q.name.length<=9223372036854775807):
  Gp2.ev S 1000 [z.pv,m.pv,p2,p3,p4,B6 a,H4 l,p7]=some (.yld 0 [B6 (proofsF z m.q.typ l m.q.name a),.s (nmF l m.q.name)]):=by
 refine E8 l (fun i (g:List UInt8×List Rec)=>[.i .i64 (i:Int),B6 g.2,.s g.1]) (fun i g r=> .yld 0 [B6 (proofsF z m.q.typ r g.1 g.2),.s (nmF r g.1)]) (fun i g=>g.1.length<=9223372036854775807∧g.2.length<=60+3660*i) (m.q.name,a) (by simp(disch:=omega)only[EVM,EVC,EVR,L2,Al,simprocAttr]) ⟨hq,by simpa using ha⟩ (by omega) (fun i g c r hd hi hc hI=> ?_) (fun g hI=> ?_)
 .left;obtain⟨nm,g⟩:=g;obtain⟨i1,i2⟩:=hI;simp only at i1 i2;have hcm:=Cd hc;have kd:=By9 z ⟨nm,m.q.typ⟩ hz hl i1;simp only at kd;have hdl:=aj z nm hl;have kj:=Pv g (denialN z nm) (by omega);have hjl:=O4 (denialN z nm) g;have hil:(i:Int)<(l.length:Int):=by omega
  refine⟨(c.target,if Dk9 c=true then joinN g (denialN z nm) else g),?_,⟨ht c hcm,?_⟩,rfl⟩
  .unfold Dk9;generalize joinN g (denialN z nm)=gj at*;generalize denialN z nm=dn at*;by_cases h6:c.kind=6
   .simp(disch:=omega)only[Dc8,hc,hil,h6,kd,kj,Ex,Il,EVM,EVC,EVR,L2,Al,simprocAttr]
    try simp
   .by_cases h5:c.kind=5
    .simp(disch:=omega)only[Dc8,hc,hil,h5,kd,kj,Ex,Il,EVM,EVC,EVR,L2,Al,simprocAttr]
     try simp
    .cases hw:c.wild with
     |true=>
      simp(disch:=omega)only[Dc8,hc,hil,h5,h6,hw,kd,kj,Ex,Il,EVM,EVC,EVR,L2,Al,simprocAttr]
      try simp
     |false=>
      simp(disch:=omega)only[Dc8,hc,hil,h5,h6,hw,kd,kj,Ex,Il,EVM,EVC,EVR,L2,Al,simprocAttr]
      try simp[h5,h6]
  .show List.length (if Dk9 c=true then joinN g (denialN z nm) else g)<=_;split<;>omega
 .simp(disch:=omega)only[Dc8,Mr,EVM,EVC,EVR,L2,Al,simprocAttr]
  try simp[Out.goes,proofsF,nmF]
def Ad5 {l m:List Rec} (h1:∀r∈l,r.wf) (h2:∀r∈m,r.wf):∀r∈joinN l m,r.wf:=fun r hr=>by
 rcases (mem_joinN r m l).1 hr with h|h
 .exact h1 r h
 .exact h2 r h
def Dl4 {z:Zone} {l:List Rec} (hz:z.wf) (hw:∀r∈l,r.wf):∀r∈sigsR z l,r.wf:=fun r hr=>by
 unfold sigsR at hr;obtain⟨x,hx,hr⟩:=List.mem_flatMap.1 hr;have hn:=Av8 l hw x hx;unfold Bz3 at hr;split at hr
 .cases hr
 .unfold sigsOf at hr;have hc:∀n t,∀y∈covR z n t,y.wf:=fun n t y hy=>hz.recs.2 y (Cs.1 hy).1;split at hr
  .exact hc _ _ r hr
  .split at hr
   .obtain⟨y,hy,rfl⟩:=Eh.1 hr;have:=hc _ _ y hy;exact⟨hn,this.typ,this.ttl,this.data⟩
   .cases hr
def Bw4 {z:Zone} (hz:z.wf) (n:List UInt8):∀r∈denialN z n,r.wf:=fun r hr=>by
 unfold denialN at hr;rcases Ct.1 hr with h|h
 .exact uz hz n r h
 .exact Dl4 hz (uz hz n) r h
def Zj {z:Zone} (hz:z.wf) (t:Int):∀(l:List Res) (n:List UInt8) (a:List Rec),(∀r∈a,r.wf)->∀r∈proofsF z t l n a,r.wf
 |[],_,_,h=>h
 |c::l,n,a,h=>by
  unfold proofsF;refine Zj hz t l _ _ ?_;split
  .exact Ad5 h (Bw4 hz n)
  .exact h
def lw (z:Zone) (m:Msg) (hz:z.wf) (hl:z.recs.length<=60) (hq:m.q.name.length<=9223372036854775807):S Gn4 2 [z.pv,m.pv]=some [(proveM z m).pv]:=by
 refine Ht0 (N:=1000) rfl ?_;have k1:=Y6 z m hz hl hq;obtain⟨b1,b2,b3,w1,w2⟩:=Wz z m hz hl hq;have k2:=Ah2 z m.q hz (by omega) hq;have hrs:=Vy z m.q hl;have hne:=pp z m.q;have htg:∀r∈(chaseM z m.q).1,r.target.length<=9223372036854775807:=Lr (fun r=>r.target.length<=9223372036854775807) z m.q.typ (fun n=>Ml z ⟨n,m.q.typ⟩ hz) 9 [] [m.q.name] m.q.name (by simp);unfold proveM Lt;generalize respondM z m=o at*;generalize chaseM z m.q=cm at*;obtain⟨l,ok⟩:=cm;simp only at k2 hrs hne htg ⊢;have hlen:=hrs.len;obtain⟨last,hla⟩:∃x,l.getLast? =some x:=⟨_,List.getLast?_eq_some_getLast hne⟩;have hli:=Ad1 l hne hlen;rw[hla,Cb] at hli;rw[hla];simp only;cases hd:m.dok with
 |false=>
  rw[if_pos (.inl rfl)];simp(disch:=omega)only[Dc8,k1,hd,EVM,EVC,EVR,L2,Al,simprocAttr]
 |true=>
  by_cases h0:o.ans.length+o.auth.length=0
  .have h0':(o.ans.length:Int)+(o.auth.length:Int)=0:=by omega
   rw[if_pos (.inr h0)];simp(disch:=omega)only[Dc8,k1,hd,h0',EVM,EVC,EVR,L2,Al,simprocAttr]
  .have h0':¬(o.ans.length:Int)+(o.auth.length:Int)=0:=by omega
   rw[if_neg (fun h=>h.elim (fun e=>by first|cases e|(rw[hd] at e;cases e)) h0)];have k3:=Oz o.ans (by omega);have k4:=Vd z o.ans hz hl w2 (by omega);have k5:=Oz o.auth (by omega);have k6:=fun p2 p3 p4 p7=>Hl1 z m l o.auth p2 p3 p4 p7 hz hl hlen b1 htg hq;have hpl:=Sp z m.q.typ hl l m.q.name o.auth;have hpw:=Zj hz m.q.typ l m.q.name o.auth w1;have hsl:=I6 z o.ans hl;have f1:=ep (sigsR z o.ans);have a1:=Jx o.ans (sigsR z o.ans) (by omega);generalize sigsR z o.ans=sa at*;generalize nmF l m.q.name=nl at*;generalize proofsF z m.q.typ l m.q.name o.auth=pa at*;by_cases h4:last.kind=4
   .rw[if_pos h4];have c1:=Jw z last.owner 43 (by omega);have c2:=Jw z last.owner 47 (by omega);have hdl:=Dk6 z last.owner;have hdw:∀r∈Z9 z last.owner,r.wf:=fun r hr=>by unfold Z9 at hr;split at hr<;>exact Rc hz hr
    have kj:=Pv pa (Z9 z last.owner) (by omega);have hjl:=O4 (Z9 z last.owner) pa;have hjw:=Ad5 hpw hdw;have k7:=Vd z (joinN pa (Z9 z last.owner)) hz hl hjw (by omega);have hs2:=I6 z (joinN pa (Z9 z last.owner)) hl;have f2:=ep (sigsR z (joinN pa (Z9 z last.owner)));have k8:=Pv (joinN pa (Z9 z last.owner)) (sigsR z (joinN pa (Z9 z last.owner))) (by omega);generalize joinN (joinN pa (Z9 z last.owner)) (sigsR z (joinN pa (Z9 z last.owner)))=r8 at*;generalize sigsR z (joinN pa (Z9 z last.owner))=sb at*;generalize joinN pa (Z9 z last.owner)=ja at*;unfold Z9 at kj hdl;by_cases h5:findR z.recs last.owner 43=[]
    .rw[if_pos h5] at kj hdl;rw[h5] at c1;generalize findR z.recs last.owner 47=fn at*;simp(disch:=omega)only[Dc8,k1,k2,k3,k4,k5,k6,k7,k8,f1,f2,a1,c1,c2,kj,hd,h0',h4,hli,Dj1,Ex,Il,EVM,EVC,EVR,L2,Al,simprocAttr]
    .rw[if_neg h5] at kj hdl;have h6:¬((findR z.recs last.owner 43).length:Int)=0:=by have:=Cr.2 h5;omega
     generalize findR z.recs last.owner 43=fn at*;simp(disch:=omega)only[Dc8,k1,k2,k3,k4,k5,k6,k7,k8,f1,f2,a1,c1,h6,kj,hd,h0',h4,hli,Dj1,Ex,Il,EVM,EVC,EVR,L2,Al,simprocAttr]
   .rw[if_neg h4];have k7:=Vd z pa hz hl hpw (by omega);have hs2:=I6 z pa hl;have f2:=ep (sigsR z pa);have k8:=Pv pa (sigsR z pa) (by omega);generalize joinN pa (sigsR z pa)=r8 at*;generalize sigsR z pa=sb at*;simp(disch:=omega)only[Dc8,k1,k2,k3,k4,k5,k6,k7,k8,f1,f2,a1,hd,h0',h4,hli,Dj1,Ex,Il,EVM,EVC,EVR,L2,Al,simprocAttr]
def P5:Msg:=⟨0,0,0,false,false,false,false,false,false,false,true,512,⟨[97,46,120,46],1⟩,[],[],[]⟩
def Fp9:Rec:=⟨[97,46,120,46],1,9,⟨false,0,1,[],[],[],0,0,0,0,0,0,0⟩⟩
def V7:chaseM Ip ⟨[97,46,120,46],1⟩=([⟨1,[42,46,120,46],true,[],[Fp9]⟩],true):=by
 unfold chaseM;rw[Rl]
 kernel_rfl
def An8:(respondM Ip P5).ans=[Fp9]∧(respondM Ip P5).auth=[]:=by unfold respondM;rw[if_neg (by decide),show P5.q=⟨[97,46,120,46],1⟩ from rfl,V7];exact⟨rfl,rfl⟩
def tg:(proveM Ip P5).ans=[Fp9,Gw6]∧(proveM Ip P5).auth=[Ch3]:=by
 obtain⟨h1,h2⟩:=An8;have h3:Lt Ip P5.q []=[Ch3]:=by
  unfold Lt;rw[show P5.q=⟨[97,46,120,46],1⟩ from rfl,V7];show (if(1:Int)=4 then _ else proofsF Ip 1 [⟨1,[42,46,120,46],true,[],[Fp9]⟩] [97,46,120,46] [])=_;rw[if_neg (by decide)];unfold proofsF proofsF;rw[if_pos (by rfl),Bs8]
  kernel_rfl
 have h4:sigsR Ip [Ch3]=[]:=by kernel_rfl
 have h5:sigsR Ip [Fp9]=[Gw6]:=by kernel_rfl
 unfold proveM;rw[if_neg (by rw[h1,h2];decide)];simp only[h1,h2,h3,h4,h5];exact⟨rfl,rfl⟩
def By0:S Hv0 0 []=some [.b true]:=by
 have k0:=t7;have k1:=lw Ip P5 Dl2 (by decide) (by decide);obtain⟨h1,h2⟩:=tg;have e0:Msg.pv ⟨0,0,0,false,false,false,false,false,false,false,true,512,⟨[97,46,120,46],1⟩,[],[],[]⟩=P5.pv:=rfl;have q1:((proveM Ip P5).ans.length:Int)=2:=by rw[h1];rfl
 have q2:((proveM Ip P5).auth.length:Int)=1:=by rw[h2];rfl
 have q3:(proveM Ip P5).ans[0]? =some Fp9:=by rw[h1];rfl
 have q4:(proveM Ip P5).ans[1]? =some Gw6:=by rw[h1];rfl
 have q5:(proveM Ip P5).auth[0]? =some Ch3:=by rw[h2];rfl
 have q6:Fp9.typ=1:=rfl;have q7:Gw6.typ=46:=rfl;have q8:Gw6.name=[97,46,120,46]:=rfl;have q9:Ch3.typ=47:=rfl;have qa:Ch3.name=[42,46,120,46]:=rfl;generalize proveM Ip P5=x at*;refine Ht1 (N:=1) rfl ?_;simp(disch:=omega)only[Hs7,k0,k1,e0,q1,q2,q3,q4,q5,q6,q7,q8,q9,qa,EVM,EVC,EVR,L2,Al,simprocAttr]
def Ax4 (l:List Rec):K9 l.length l:=fun i r h1 h2=>by have:=(Bp.1 h2).1;omega
def Cr7 (l m:List Rec):l.length<=(joinN l m).length:=by obtain⟨s,hs⟩:=Ll m l;rw[hs,Bt];omega
def Pt (z:Zone) (t:Int):∀(l:List Res) (n:List UInt8) (a:List Rec) (k:Nat),k<=a.length->K9 k a->K9 k (proofsF z t l n a)∧k<=(proofsF z t l n a).length∧∃s,proofsF z t l n a=a++s
 |[],_,a,k,hk,h=>⟨h,hk,[],by simp[proofsF]⟩
 |r::l,n,a,k,hk,h=>by
  unfold proofsF;split
  .have h1:=Cr7 a (denialN z n);obtain⟨g1,g2,s,g3⟩:=Pt z t l r.target (joinN a (denialN z n)) k (by omega) (Nl _ _ _ hk h);obtain⟨s1,hs1⟩:=Ll (denialN z n) a;exact⟨g1,g2,s1++s,by rw[g3,hs1,Ck]⟩
  .exact Pt z t l r.target a k hk h
def Cf3 (z:Zone) (q:Ques) (a:List Rec):K9 a.length (joinN (Lt z q a) (sigsR z (Lt z q a)))∧∃s,joinN (Lt z q a) (sigsR z (Lt z q a))=a++s:=by
 obtain⟨g1,g2,s,g3⟩:=Pt z q.typ (chaseM z q).1 q.name a a.length (B7 _) (Ax4 a);have h:K9 a.length (Lt z q a)∧a.length<=(Lt z q a).length∧∃s,Lt z q a=a++s:=by
  unfold Lt;split
  .rename_i last _;split
   .have h1:=Cr7 (proofsF z q.typ (chaseM z q).1 q.name a) (Z9 z last.owner);obtain⟨s1,hs1⟩:=Ll (Z9 z last.owner) (proofsF z q.typ (chaseM z q).1 q.name a);exact⟨Nl _ _ _ g2 g1,by omega,s++s1,by rw[hs1,g3,Ck]⟩
   .exact⟨g1,g2,s,g3⟩
  .exact⟨g1,g2,s,g3⟩
 obtain⟨h1,h2,s2,h3⟩:=h;obtain⟨s3,hs3⟩:=Ll (sigsR z (Lt z q a)) (Lt z q a);refine⟨Nl _ _ _ h2 h1,s2++s3,?_⟩;rw[hs3,<-Ck,<-h3]
def Dl5 (z:Zone) (l:List Rec):∀r∈sigsR z l,r.typ=46:=fun r hr=>by
 unfold sigsR at hr;obtain⟨x,_,hr⟩:=List.mem_flatMap.1 hr;have hc:∀n t,∀y∈covR z n t,y.typ=46:=fun n t y hy=>by have:=(Cs.1 hy).2;simp only[Br,decide_eq_true_eq] at this;exact this.1.2
 unfold Bz3 at hr;split at hr
 .cases hr
 .unfold sigsOf at hr;split at hr
  .exact hc _ _ r hr
  .split at hr
   .obtain⟨y,hy,rfl⟩:=Eh.1 hr;exact hc _ _ y hy
   .cases hr
def ux (z:Zone) (m:Msg):∃sa sb,proveM z m={respondM z m with ans:=(respondM z m).ans++sa,auth:=(respondM z m).auth++sb}∧(∀r∈sa,r.typ=46)∧K9 (respondM z m).auth.length ((respondM z m).auth++sb)∧(m.dok=false->sa=[]∧sb=[]):=by
 unfold proveM;split
 .exact⟨[],[],by simp,by simp,by rw[Es];exact Ax4 _,fun _=>⟨rfl,rfl⟩⟩
 .rename_i h;obtain⟨h1,s,h2⟩:=Cf3 z m.q (respondM z m).auth;refine⟨sigsR z (respondM z m).ans,s,by rw[<-h2],Dl5 z _,by rw[<-h2];exact h1,fun hd=>absurd (.inl hd) h⟩
def Cq6 (z:Zone) (m:Msg) (hz:z.wf) (hl:z.recs.length<=60) (hq:m.q.name.length<=9223372036854775807):(proveM z m).ans.length<=100000∧(proveM z m).auth.length<=10000000:=by
 obtain⟨b1,b2,b3,_,_⟩:=Wz z m hz hl hq;unfold proveM;split
 .omega
 .have h1:=I6 z (respondM z m).ans hl;have h2:=O4 (sigsR z (Lt z m.q (respondM z m).auth)) (Lt z m.q (respondM z m).auth);have h3:=I6 z (Lt z m.q (respondM z m).auth) hl;have hn:=(Vy z m.q hl).len;have h4:=Sp z m.q.typ hl (chaseM z m.q).1 m.q.name (respondM z m).auth;have h5:(Lt z m.q (respondM z m).auth).length<=(respondM z m).auth.length+3660*9+60:=by
   unfold Lt;split
   .rename_i last _;split
    .have:=O4 (Z9 z last.owner) (proofsF z m.q.typ (chaseM z m.q).1 m.q.name (respondM z m).auth);have:=Dk6 z last.owner;omega
    .omega
   .omega
  constructor
  .simp only[Bt];omega
  .simp only;omega
def Bq5 (x y:Msg) (a b:List Rec) (h:x={y with ans:=a,auth:=b}):S Ej3 2 [x.pv,y.pv]=some [.b true]:=by subst h;refine Hh9 (N:=1) rfl ?_;simp(disch:=omega)only[Hx7,Gt5,beq_self_eq_true,Ag,simprocAttr]
def pc (l:List Rec) (x:Rec) (hl:l.length<=100000000):S Ej2 2 [B6 l,x.pv]=some [.b (decide (x∈l))]:=by
 refine Hh5 (N:=l.length+1) rfl ?_;have key:El0.ev S (l.length+1) [B6 l,x.pv]=some (if(l.any fun c=>decide (c=x))=true then .ret [.b true] else .yld 0 []):=by
  refine Gq l (fun i=>[.i .i64 (i:Int)]) (fun i r=>if(r.any fun c=>decide (c=x))=true then .ret [.b true] else .yld 0 []) rfl (by omega) (fun i c r hd hi hc=> ?_) ?_
  .by_cases h:c=x
   .right;simp(disch:=omega)only[Df8,hc,h,Ah,simprocAttr];simp[h,Out.goes]
   .left;simp(disch:=omega)only[Df8,hc,h,Ah,simprocAttr];simp[h]
  .simp(disch:=omega)only[Df8,Ah,simprocAttr];simp[Out.goes]
 have e:(l.any fun c=>decide (c=x))=decide (x∈l):=by rw[D7];simp only[Dy,decide_eq_true_eq];exact⟨fun⟨c,h1,h2⟩=>h2▸h1,fun h=>⟨x,h,rfl⟩⟩
 rw[e] at key;rcases Bn (decide (x∈l)) with h|h<;>rw[h] at key ⊢<;>simp(disch:=omega)only[Df8,key,Ah,simprocAttr]<;>simp
def law_ProvePlain (z:Zone) (m:Msg) (hz:z.wf) (hm:m.wf):S Hv1 2 [z.pv,m.pv]=some [.b true]:=by
 have k0:=By0;have hqn:m.q.name.length<=9223372036854775807:=hm.q.name;by_cases h3:z.recs.length<=60
 .have k2:=rv z hz (by omega);have h3':¬(60:Int)<(z.recs.length:Int):=by omega
  by_cases h4:m.q.name.length<=300
  .have h4':¬(300:Int)<(m.q.name.length:Int):=by omega
   by_cases h5:M4 z=0
   .have k3:=lw z m hz h3 hqn;have k4:=Y6 z m hz h3 hqn;obtain⟨b1,b2,b3,_,_⟩:=Wz z m hz h3 hqn;obtain⟨c1,c2⟩:=Cq6 z m hz h3 hqn;obtain⟨sa,sb,hx,t46,once,hdo⟩:=ux z m;have r0:=Bq5 _ _ _ _ hx;have ha:(proveM z m).ans=(respondM z m).ans++sa:=by rw[hx]
    have hb:(proveM z m).auth=(respondM z m).auth++sb:=by rw[hx]
    have he:(proveM z m).ext=(respondM z m).ext:=by rw[hx]
    rw[<-hb] at once;generalize proveM z m=x at*;generalize respondM z m=y at*;have la:x.ans.length=y.ans.length+sa.length:=by rw[ha,Bt]
    have lb:x.auth.length=y.auth.length+sb.length:=by rw[hb,Bt]
    have r1:=Ld y.ext (by omega);have r2:=Ld y.ans (by omega);have r3:=Ld y.auth (by omega);have ta:x.ans.take y.ans.length=y.ans:=by rw[ha];simp
    have tb:x.auth.take y.auth.length=y.auth:=by rw[hb];simp
    have lsl:∀(l:List Rec) (i:Nat),i<=l.length->Iz 16 (B6 l) (.i .i64 0) (.i .i64 (i:Int))=some (B6 (l.take i)):=fun l i hi=>by
     have h1:(0:Int)<=(i:Int):=by omega
     have h2:(i:Int)<=((l.map Rec.pv).length:Int):=by rw[Er];omega
     simp only[Iz,B6,Bb2,h1,h2,and_self,if_true,Fx,Int.toNat_zero,Ft,List.map_take]
    have e1:=lsl x.ans y.ans.length (by omega);have e2:=lsl x.auth y.auth.length (by omega);rw[ta] at e1;rw[tb] at e2;have g1:¬(x.ans.length:Int)<(y.ans.length:Int):=by omega
    have g2:¬(x.auth.length:Int)<(y.auth.length:Int):=by omega
    have key0:Gp3.ev S (x.ans.length+x.auth.length+1) [z.pv,m.pv,.b true,.i .i64 0,x.pv,y.pv,.b true,.b true,.b true,.b true]=some (.yld 0 []):=by
     refine Jf (α:=Nat) (fun i=>[.i .i64 (i:Int)]) (fun _=> .yld 0 []) (fun i=>y.ans.length<=i∧i<=x.ans.length) (fun i=>x.ans.length - i) y.ans.length ?_ ⟨B7 _,by omega⟩ (by omega) ?_
     .simp(disch:=omega)only[Ag,simprocAttr]
     .rintro i ⟨i1,i2⟩;by_cases hi:i<x.ans.length
      .left;obtain⟨c,hc⟩:∃c,x.ans[i]? =some c:=⟨_,B0 hi⟩;have ht:c.typ=46:=t46 c (by have hc2:=hc;rw[ha,Cy i1] at hc2;exact Cd hc2)
       have hil:(i:Int)<(x.ans.length:Int):=by omega
       refine⟨i+1,?_,by omega,by omega,rfl⟩;simp(disch:=omega)only[Df4,hc,hil,ht,Ag,simprocAttr]
      .right;have hil:¬(i:Int)<(x.ans.length:Int):=by omega
       simp(disch:=omega)only[Df4,hil,Ag,simprocAttr]
       try simp[Out.goes]
    have key1:Gp1.ev S (x.ans.length+x.auth.length+1) [z.pv,m.pv,.b true,.i .i64 0,x.pv,y.pv,.b true,.b true,.b true,.b true]=some (.yld 0 []):=by
     refine Jf (α:=Nat) (fun i=>[.i .i64 (i:Int)]) (fun _=> .yld 0 []) (fun i=>y.auth.length<=i∧i<=x.auth.length) (fun i=>x.auth.length - i) y.auth.length ?_ ⟨B7 _,by omega⟩ (by omega) ?_
     .simp(disch:=omega)only[Ag,simprocAttr]
     .rintro i ⟨i1,i2⟩;by_cases hi:i<x.auth.length
      .left;obtain⟨c,hc⟩:∃c,x.auth[i]? =some c:=⟨_,B0 hi⟩;have hn:=once i c i1 hc;have e3:=lsl x.auth i (by omega);have kc:=pc (x.auth.take i) c (by rw[Cq];omega);rw[decide_eq_false hn] at kc;generalize x.auth.take i=ti at*;have hil:(i:Int)<(x.auth.length:Int):=by omega
       refine⟨i+1,?_,by omega,by omega,rfl⟩;simp(disch:=omega)only[Df4,hc,hil,e3,kc,Ag,simprocAttr]
      .right;have hil:¬(i:Int)<(x.auth.length:Int):=by omega
       simp(disch:=omega)only[Df4,hil,Ag,simprocAttr]
       try simp[Out.goes]
    refine Hq8 (N:=x.ans.length+x.auth.length+1) rfl ?_;cases hd:m.dok with
    |false=>
     obtain⟨rfl,rfl⟩:=hdo hd;have m1:(x.ans.length:Int)=(y.ans.length:Int):=by simp at la;omega
     have m2:(x.auth.length:Int)=(y.auth.length:Int):=by simp at lb;omega
     simp(disch:=omega)only[Df4,k0,k2,h3',h4',h5,k3,k4,r0,he,r1,r2,r3,e1,e2,g1,g2,hd,m1,m2,Ag,simprocAttr]
    |true=>
     simp(disch:=omega)only[Df4,k0,k2,h3',h4',h5,k3,k4,r0,he,r1,r2,r3,e1,e2,g1,g2,hd,key0,key1,Ag,simprocAttr]
   .refine Hq8 (N:=1) rfl ?_;simp(disch:=omega)only[Df4,k0,k2,h3',h4',h5,Ag,simprocAttr]
  .have h4':(300:Int)<(m.q.name.length:Int):=by omega
   refine Hq8 (N:=1) rfl ?_;simp(disch:=omega)only[Df4,k0,h3',h4',Ag,simprocAttr]
 .have h3':(60:Int)<(z.recs.length:Int):=by omega
  refine Hq8 (N:=1) rfl ?_;simp(disch:=omega)only[Df4,k0,h3',Ag,simprocAttr]
end Go.X.G
