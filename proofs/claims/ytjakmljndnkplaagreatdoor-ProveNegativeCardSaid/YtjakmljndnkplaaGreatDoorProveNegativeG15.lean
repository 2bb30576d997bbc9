/- The law LookupResponds. -/
import Derived.Test.YtjakmljndnkplaaGreatDoorProveNegativeG14
import Derived.Test.YtjakmljndnkplaaGreatDoorProveNegativeG11
open Bool renaming eq_false_or_eq_true->Bm,and_eq_true->Bp,not_eq_true'->Cf,eq_iff_iff->D8,true_and->N0,and_true->N2
open Int renaming lt_irrefl->Nt
open List renaming getElem?_eq_some_iff->Br,length_append->Bt,getElem?_eq_getElem->B0,mem_of_getElem?->Cq,append_assoc->Cv,length_cons->Cy,getElem?_append_right->Cz,pairwise_cons->Cd,mem_filter->Cg,mem_append->Cn,all_eq_true->Cr,mem_singleton->C0,length_pos_iff->C1,length_nil->C3,any_eq_true->Dj,getElem?_cons_zero->Db,nil_append->Dc,mem_map->Ev,length_singleton->Ew,mem_iff_getElem?->Et,pairwise_iff_getElem->E1,take_of_length_le->E5,flatMap_cons->Gj,map_cons->Hq,all_cons->Ns,mem_of_getLast?->Rn,length_eq_zero_iff->Xb
open Nat renaming le_refl->B7,zero_le->Df,add_sub_cancel_left->Lc
open Option renaming map_eq_some_iff->Bs,map_some->Cc,getD_some->Dd
set_option maxHeartbeats 1000000
set_option linter.defProp false
set_option linter.unusedVariables false
set_option linter.unusedSimpArgs false
namespace Go.X.G
open Go Go.X
def Ah:=And.intro xe<|And.intro EVP EV
def Ag:=And.intro EVC<|And.intro xe<|And.intro EVP EV
def Bz4 (z:Zone) (m:Msg) (hz:z.wf) (hl:z.recs.length<=60) (hq:m.q.name.length<=9223372036854775807):S El3 2 [z.pv,m.pv]=some [(respondM z m).pv]:=by
 refine Ig3 (N:=1000) rfl ?_;have k1:=Ch7 m;unfold respondM;by_cases h1:m.op=0
 .by_cases h2:m.q.typ=251
  .rw[if_pos (.inr (.inl h2))];have k1:=k1 4;generalize replyM m 4=o at*;simp(disch:=omega)only[Oq,h1,h2,k1,EVM,EVC,EVR,Ms,Ah,simprocAttr]
  .by_cases h3:m.q.typ=252
   .rw[if_pos (.inr (.inr h3))];have k1:=k1 4;generalize replyM m 4=o at*;simp(disch:=omega)only[Oq,h1,h3,k1,EVM,EVC,EVR,Ms,Ah,simprocAttr]
   .rw[if_neg (by simp[h1,h2,h3])];have k2:=Bq7 z m.q hz (by omega) hq;have hrs:=l6 z m.q hl;have hwf:=wg z m.q hz hq;have hne:=wh z m.q;generalize chaseM z m.q=cm at*;obtain⟨l,ok⟩:=cm;simp only at k2 hrs hwf hne ⊢;have hlen:=hrs.len;obtain⟨r,rest,hr⟩:=List.exists_cons_of_ne_nil hne;have hr0:l[0]? =some r:=by rw[hr];rfl
    obtain⟨last,hla⟩:∃x,l.getLast? =some x:=⟨_,List.getLast?_eq_some_getLast hne⟩;have hlm:last∈l:=Rn hla;have hli:=At7 l hne hlen;rw[hla,Cc] at hli;have hi0:H6 5 (Iy l) (.i .i64 0)=some r.pv:=by rw[kw _ _ _ (by omega)];simp[hr0]
    unfold Eb3;rw[hr0,hla];simp only;by_cases h4:r.kind=0
    .rw[if_pos h4];have k1:=k1 5;generalize replyM m 5=o at*;simp(disch:=omega)only[Oq,h1,h2,h3,k1,k2,hi0,h4,EVM,EVC,EVR,Ms,Ah,simprocAttr]
    .rw[if_neg h4];cases ok with
     |false=>
      rw[if_pos rfl];have k1:=k1 2;generalize replyM m 2=o at*;simp(disch:=omega)only[Oq,h1,h2,h3,k1,k2,hi0,h4,EVM,EVC,EVR,Ms,Ah,simprocAttr]
     |true=>
      rw[if_neg (by simp)];have k1:=k1 0;have k3:=fun p3 p4=>Gk0 z m l p3 p4 .u hrs;have k4:=Df8 last.recs (by have:=hrs.recs last hlm;omega);have hhl:=Qy last.recs [];have hhw:=Rw last.recs [] (hwf last hlm) (by simp);have hrl:=hrs.recs last hlm;rw[C3] at hhl;have k5:=Ev8 z (hostsF [] last.recs) hz hl (by omega) hhw;have k6:=mm z (hostsF [] last.recs) hl (by omega);have k7:=Gl4 z (by omega);unfold Fb9;generalize replyM m 0=o at*;generalize ansF m.q.name [] l=an at*;generalize (hostsF [] last.recs).flatMap (Br9 z)=gl at*;generalize (hostsF [] last.recs).flatMap (Bp6 z)=ad at*;generalize hostsF [] last.recs=ho at*;generalize soaR z=so at*;by_cases e4:last.kind=4
      .simp only[e4,if_true];simp(disch:=omega)only[Oq,h1,h2,h3,k1,k2,k3,k4,k5,hi0,hli,h4,e4,EVM,EVC,EVR,Ms,Ah,simprocAttr]
      .by_cases e5:last.kind=5
       .simp only[e5,if_true,show¬(5:Int)=4 by omega,if_false];simp(disch:=omega)only[Oq,h1,h2,h3,k1,k2,k3,k7,hi0,hli,h4,e5,EVM,EVC,EVR,Ms,Ah,simprocAttr]
       .by_cases e6:last.kind=6
        .simp only[e6,if_true,show¬(6:Int)=4 by omega,show¬(6:Int)=5 by omega,if_false];simp(disch:=omega)only[Oq,h1,h2,h3,k1,k2,k3,k7,hi0,hli,h4,e6,EVM,EVC,EVR,Ms,Ah,simprocAttr]
        .by_cases e1:last.kind=1
         .simp only[e1,if_true,show¬(1:Int)=4 by omega,show¬(1:Int)=5 by omega,show¬(1:Int)=6 by omega,if_false];simp(disch:=omega)only[Oq,h1,h2,h3,k1,k2,k3,k4,k6,hi0,hli,h4,e1,EVM,EVC,EVR,Ms,Ah,simprocAttr]
         .by_cases e3:last.kind=3
          .by_cases et:last.target=[]
           .simp only[e3,et,if_true,show¬(3:Int)=4 by omega,show¬(3:Int)=5 by omega,show¬(3:Int)=6 by omega,show¬(3:Int)=1 by omega,if_false,and_self];simp(disch:=omega)only[Oq,h1,h2,h3,k1,k2,k3,hi0,hli,h4,e3,et,EVM,EVC,EVR,Ms,Ah,simprocAttr]
           .simp only[e3,et,show¬(3:Int)=4 by omega,show¬(3:Int)=5 by omega,show¬(3:Int)=6 by omega,show¬(3:Int)=1 by omega,if_false,and_false];simp(disch:=omega)only[Oq,h1,h2,h3,k1,k2,k3,hi0,hli,h4,e3,et,EVM,EVC,EVR,Ms,Ah,simprocAttr]
          .simp only[e1,e3,e4,e5,e6,if_false,false_and];simp(disch:=omega)only[Oq,h1,h2,h3,k1,k2,k3,hi0,hli,h4,e1,e3,e4,e5,e6,EVM,EVC,EVR,Ms,Ah,simprocAttr]
 .rw[if_pos (.inl h1)];have k1:=k1 4;generalize replyM m 4=o at*;simp(disch:=omega)only[Oq,h1,k1,EVM,EVC,EVR,Ms,Ah,simprocAttr]
def vf:∀l:List Rec,PV.flat.flats (l.map Rec.pv)=true
 |[]=>by simp[PV.flat.flats]
 |x::l=>by simp only[Hq,PV.flat.flats,vf l,N2];simp[Rec.pv,Rec.cells,Dat.cells,PV.flat,PV.flat.flats]
def kf (l:List Rec):Bh9 (B6 l)=some (B6 l):=by unfold Bh9 B6;simp only[vf,if_true]
def Qn (l m:List Rec) (hl:l.length+m.length<=100000000):S Bg6 1048578 [B6 l,B6 m]=some [B6 (joinN l m)]:=by
 refine If4 (N:=m.length+1) rfl ?_;have key:Fz8.ev S (m.length+1) [B6 l,B6 m]=some (.yld 0 [B6 (joinN l m)]):=by
  refine E7 m (fun i (g:List Rec)=>[B6 g,.i .i64 (i:Int)]) (fun i g r=> .yld 0 [B6 (joinN g r)]) (fun i g=>g.length<=l.length+i) l rfl (by omega) (by omega) (fun i g c r hd hi hc hI=> ?_) (fun g hI=> ?_)
  .left;have kc:=Wv g c (by omega);have hil:(i:Int)<(m.length:Int):=by omega
   refine⟨if c∈g then g else g++[c],?_,by split<;>(try rw[Bt,Ew])<;>omega,by simp only[joinN]⟩;by_cases h:c∈g
   .have h':decide (c∈g)=true:=by simp[h]
    rw[h'] at kc;rw[if_pos h];simp(disch:=omega)only[Ew4,hc,hil,kc,Ag,simprocAttr]
   .have h':decide (c∈g)=false:=by simp[h]
    rw[h'] at kc;rw[if_neg h];simp(disch:=omega)only[Ew4,hc,hil,kc,Ag,simprocAttr]
  .simp(disch:=omega)only[Ew4,Nt,Ag,simprocAttr];simp[Out.goes,joinN]
 simp(disch:=omega)only[Ew4,key,Ag,simprocAttr]
def Yg {α:Type} [DecidableEq α]:∀(l m:List α),l.Pairwise (fun a b=>a≠b)->(∀x∈l,x∈m)->l.length<=m.length
 |[],m,_,_=>by simp
 |x::l,m,hp,hs=>by rw[Cd] at hp;have hx:=hs x (.head _);have:=Yg l (m.erase x) hp.2 fun y hy=>(List.mem_erase_of_ne (hp.1 y hy).symm).2 (hs y (.tail _ hy));rw[List.length_erase_of_mem hx] at this;have hp:=List.length_pos_of_mem hx;rw[Cy];omega
def Gk6 (z:Zone) (n:List UInt8):(outD z n).length<=z.recs.length:=by
 refine Yg _ _ ?_ fun x hx=>by simpa using (Cg.1 hx).2
 have h:(neededN z n).Pairwise fun a b=>a≠b:=by
  unfold neededN;split
  .split
   .exact .nil
   .refine List.Pairwise.filter _ ((V8 z).imp fun {a b} h e=> ?_);rw[e] at h;exact to_N.irr _ h
  .exact .nil
 exact h.filter _
def f4 (z:Zone) (n:List UInt8) (hl:z.recs.length<=60):(denialN z n).length<=3660:=by have h1:=Gk6 z n;have h2:=Ks z (outD z n) hl;unfold denialN;rw[Bt];omega
def Tx:∀(m l:List Rec),(joinN l m).length<=l.length+m.length
 |[],l=>by simp[joinN]
 |r::m,l=>by
  have h:=Tx m (if r∈l then l else l++[r]);unfold joinN;rw[Cy];split at h
  .rename_i hr;rw[if_pos hr];omega
  .rename_i hr;rw[if_neg hr];rw[Bt,Ew] at h;omega
def dc (z:Zone) (t:Int) (hl:z.recs.length<=60):∀(l:List Res) (n:List UInt8) (a:List Rec),(proofsF z t l n a).length<=a.length+3660*l.length
 |[],n,a=>by simp[proofsF]
 |r::l,n,a=>by
  unfold proofsF;have h:=dc z t hl l r.target (if Wp r=true then joinN a (denialN z n) else a);have h1:=Tx (denialN z n) a;have h2:=f4 z n hl;rw[Cy];split at h
  .rename_i hd;rw[if_pos hd];omega
  .rename_i hd;rw[if_neg hd];omega
def Zb (f:List UInt8->List Rec) (k:Nat) (h:∀x,(f x).length<=k):∀l:List (List UInt8),(l.flatMap f).length<=k*l.length
 |[]=>by simp
 |x::r=>by have h1:=Zb f k h r;have h2:=h x;rw[Gj,Bt,Cy,Nat.mul_add];omega
def Gc8 (z:Zone) (o:List UInt8):(fp z o).length<=z.recs.length:=by unfold fp;split<;>exact Hl z o _
def qz (z:Zone) (m:Msg) (hz:z.wf) (hl:z.recs.length<=60) (hq:m.q.name.length<=9223372036854775807):
  (respondM z m).auth.length<=60∧(respondM z m).ans.length<=600∧(respondM z m).ext.length<=1000000∧(∀r∈(respondM z m).auth,r.wf)∧(∀r∈(respondM z m).ans,r.wf):=by
 have hnil:∀c,(replyM m c).auth=[]∧(replyM m c).ans=[]∧(replyM m c).ext=[]:=fun c=>⟨rfl,rfl,rfl⟩;unfold respondM;split
 .simp[replyM]
 .have hrs:=l6 z m.q hl;have hwf:=wg z m.q hz hq;have htg:∀r∈(chaseM z m.q).1,r.target.length<=9223372036854775807:=Mh (fun r=>r.target.length<=9223372036854775807) z m.q.typ (fun n=>Nh z ⟨n,m.q.typ⟩ hz) 9 [] [m.q.name] m.q.name (by simp);generalize (chaseM z m.q).1=l at*;generalize (chaseM z m.q).2=ok at*;have haw:∀(l:List Res) (n:List UInt8) (acc:List Rec),n.length<=9223372036854775807->(∀r∈l,∀x∈r.recs,x.wf)->(∀r∈l,r.target.length<=9223372036854775807)->(∀x∈acc,x.wf)->∀x∈ansF n acc l,x.wf:=by
   intro l
   induction l with
   |nil=>intro n acc _ _ _ h;exact h
   |cons r l ih=>
    intro n acc hn h1 h2 h3;refine ih r.target _ (h2 r (.head _)) (fun x hx=>h1 x (.tail _ hx)) (fun x hx=>h2 x (.tail _ hx)) fun x hx=> ?_;rcases Cn.1 hx with hx|hx
    .exact h3 x hx
    .unfold xv at hx;split at hx
     .exact h1 r (.head _) x hx
     .split at hx
      .split at hx
       .exact h1 r (.head _) x hx
       .rcases Cn.1 hx with hx|hx
        .exact h1 r (.head _) x hx
        .rw[C0.1 hx];have i0:T8 0:=⟨by decide,by decide⟩;have u0:Eq4 0:=⟨by decide,by decide⟩;have i5:T8 5:=⟨by decide,by decide⟩;refine⟨hn,i5,?_,⟨u0,u0,h2 r (.head _),Df _,Df _,i0,i0,i0,i0,i0,i0,u0⟩⟩;show T8 (((r.recs[0]?).map Rec.ttl).getD 0);cases h0:r.recs[0]? with
         |none=>exact⟨by decide,by decide⟩
         |some x0=>exact(h1 r (.head _) x0 (Cq h0)).ttl
      .cases hx
  unfold Eb3;split
  .rename_i r last h0 h1;split
   .simp[replyM]
   .split
    .simp[replyM]
    .have ha:=Bw0 l m.q.name [] hrs.recs;have hn:=hrs.len;have hlm:=Rn h1;have hlr:=hrs.recs last hlm;have hh:=Qy last.recs [];have hs:=Ey9 z;have hsw:∀x∈soaR z,x.wf:=fun x hx=>by
      unfold soaR at hx;split at hx
      .cases hx
      .rename_i y _ hy;rw[C0.1 hx];have hyw:=Qz hz (n:=z.origin) (t:=6) (r:=y) (by rw[hy];exact .head _);refine⟨hyw.name,hyw.typ,?_,hyw.data⟩;show T8 (if y.data.e<y.ttl then y.data.e else y.ttl);split
       .exact hyw.data.e
       .exact hyw.ttl
     have hg:=Zb (Br9 z) 120 (fun x=>by have:=Ep6 z x;omega) (hostsF [] last.recs);have hd:=Zb (Bp6 z) 120 (fun x=>by have:=Bw6 z x;omega) (hostsF [] last.recs);have hw:=haw l m.q.name [] hq hwf htg (by simp);rw[C3] at ha hh;unfold Fb9;generalize ansF m.q.name [] l=an at*;generalize (hostsF [] last.recs).flatMap (Br9 z)=gl at*;generalize (hostsF [] last.recs).flatMap (Bp6 z)=ad at*;have n0:∀x∈(replyM m 0).auth,x.wf:=fun x hx=>by cases hx
     split
     .exact⟨hlr,by simp only;omega,by simp only;omega,hwf last hlm,hw⟩
     .split
      .exact⟨by simp only;omega,by simp only;omega,by simp[replyM],hsw,hw⟩
      .split
       .exact⟨by simp only;omega,by simp only;omega,by simp[replyM],hsw,hw⟩
       .split
        .exact⟨by simp[replyM],by simp only;omega,by simp only;omega,n0,hw⟩
        .split
         .exact⟨by simp[replyM],by simp only;omega,by simp[replyM],n0,hw⟩
         .exact⟨by simp[replyM],by simp only;omega,by simp[replyM],n0,hw⟩
  .simp[replyM]
def nmF:List Res->List UInt8->List UInt8
 |[],n=>n
 |r::rs,_=>nmF rs r.target
def Ig6 (z:Zone) (m:Msg) (l:List Res) (a:List Rec) (p2 p3 p4 p7:PV) (hz:z.wf) (hl:z.recs.length<=60) (hll:l.length<=9) (ha:a.length<=60) (ht:∀r∈l,r.target.length<=9223372036854775807) (hq:m.q.name.length<=9223372036854775807):
  Hl0.ev S 1000 [z.pv,m.pv,p2,p3,p4,B6 a,Iy l,p7]=some (.yld 0 [B6 (proofsF z m.q.typ l m.q.name a),.s (nmF l m.q.name)]):=by
 refine E7 l (fun i (g:List UInt8×List Rec)=>[.i .i64 (i:Int),B6 g.2,.s g.1]) (fun i g r=> .yld 0 [B6 (proofsF z m.q.typ r g.1 g.2),.s (nmF r g.1)]) (fun i g=>g.1.length<=9223372036854775807∧g.2.length<=60+3660*i) (m.q.name,a) (by simp(disch:=omega)only[EVM,EVC,EVR,Ms,Ah,simprocAttr]) ⟨hq,by simpa using ha⟩ (by omega) (fun i g c r hd hi hc hI=> ?_) (fun g hI=> ?_)
 .left;obtain⟨nm,g⟩:=g;obtain⟨i1,i2⟩:=hI;simp only at i1 i2;have hcm:=Cq hc;have kd:=Br1 z ⟨nm,m.q.typ⟩ hz hl i1;simp only at kd;have hdl:=f4 z nm hl;have kj:=Qn g (denialN z nm) (by omega);have hjl:=Tx (denialN z nm) g;have hil:(i:Int)<(l.length:Int):=by omega
  refine⟨(c.target,if Wp c=true then joinN g (denialN z nm) else g),?_,⟨ht c hcm,?_⟩,rfl⟩
  .unfold Wp;generalize joinN g (denialN z nm)=gj at*;generalize denialN z nm=dn at*;by_cases h6:c.kind=6
   .simp(disch:=omega)only[Eq2,hc,hil,h6,kd,kj,Ey,Jk,EVM,EVC,EVR,Ms,Ah,simprocAttr]
    try simp
   .by_cases h5:c.kind=5
    .simp(disch:=omega)only[Eq2,hc,hil,h5,kd,kj,Ey,Jk,EVM,EVC,EVR,Ms,Ah,simprocAttr]
     try simp
    .cases hw:c.wild with
     |true=>
      simp(disch:=omega)only[Eq2,hc,hil,h5,h6,hw,kd,kj,Ey,Jk,EVM,EVC,EVR,Ms,Ah,simprocAttr]
      try simp
     |false=>
      simp(disch:=omega)only[Eq2,hc,hil,h5,h6,hw,kd,kj,Ey,Jk,EVM,EVC,EVR,Ms,Ah,simprocAttr]
      try simp[h5,h6]
  .show List.length (if Wp c=true then joinN g (denialN z nm) else g)<=_;split<;>omega
 .simp(disch:=omega)only[Eq2,Nt,EVM,EVC,EVR,Ms,Ah,simprocAttr]
  try simp[Out.goes,proofsF,nmF]
def W8 {l m:List Rec} (h1:∀r∈l,r.wf) (h2:∀r∈m,r.wf):∀r∈joinN l m,r.wf:=fun r hr=>by
 rcases (mem_joinN r m l).1 hr with h|h
 .exact h1 r h
 .exact h2 r h
def Al0 {z:Zone} {l:List Rec} (hz:z.wf) (hw:∀r∈l,r.wf):∀r∈sigsR z l,r.wf:=fun r hr=>by
 unfold sigsR at hr;obtain⟨x,hx,hr⟩:=List.mem_flatMap.1 hr;have hn:=Al2 l hw x hx;unfold Br8 at hr;split at hr
 .cases hr
 .unfold sigsOf at hr;have hc:∀n t,∀y∈covR z n t,y.wf:=fun n t y hy=>hz.recs.2 y (Cg.1 hy).1;split at hr
  .exact hc _ _ r hr
  .split at hr
   .obtain⟨y,hy,rfl⟩:=Ev.1 hr;have:=hc _ _ y hy;exact⟨hn,this.typ,this.ttl,this.data⟩
   .cases hr
def Bm7 {z:Zone} (hz:z.wf) (n:List UInt8):∀r∈denialN z n,r.wf:=fun r hr=>by
 unfold denialN at hr;rcases Cn.1 hr with h|h
 .exact Aj1 hz n r h
 .exact Al0 hz (Aj1 hz n) r h
def Un {z:Zone} (hz:z.wf) (t:Int):∀(l:List Res) (n:List UInt8) (a:List Rec),(∀r∈a,r.wf)->∀r∈proofsF z t l n a,r.wf
 |[],_,_,h=>h
 |c::l,n,a,h=>by
  unfold proofsF;refine Un hz t l _ _ ?_;split
  .exact W8 h (Bm7 hz n)
  .exact h
def qg (z:Zone) (m:Msg) (hz:z.wf) (hl:z.recs.length<=60) (hq:m.q.name.length<=9223372036854775807):S Hh2 2 [z.pv,m.pv]=some [(proveM z m).pv]:=by
 refine Ir7 (N:=1000) rfl ?_;have k1:=Bz4 z m hz hl hq;obtain⟨b1,b2,b3,w1,w2⟩:=qz z m hz hl hq;have k2:=Bq7 z m.q hz (by omega) hq;have hrs:=l6 z m.q hl;have hne:=wh z m.q;have htg:∀r∈(chaseM z m.q).1,r.target.length<=9223372036854775807:=Mh (fun r=>r.target.length<=9223372036854775807) z m.q.typ (fun n=>Nh z ⟨n,m.q.typ⟩ hz) 9 [] [m.q.name] m.q.name (by simp);unfold proveM I8;generalize respondM z m=o at*;generalize chaseM z m.q=cm at*;obtain⟨l,ok⟩:=cm;simp only at k2 hrs hne htg ⊢;have hlen:=hrs.len;obtain⟨last,hla⟩:∃x,l.getLast? =some x:=⟨_,List.getLast?_eq_some_getLast hne⟩;have hli:=At7 l hne hlen;rw[hla,Cc] at hli;rw[hla];simp only;cases hd:m.dok with
 |false=>
  rw[if_pos (.inl rfl)];simp(disch:=omega)only[Eq2,k1,hd,EVM,EVC,EVR,Ms,Ah,simprocAttr]
 |true=>
  by_cases h0:o.ans.length+o.auth.length=0
  .have h0':(o.ans.length:Int)+(o.auth.length:Int)=0:=by omega
   rw[if_pos (.inr h0)];simp(disch:=omega)only[Eq2,k1,hd,h0',EVM,EVC,EVR,Ms,Ah,simprocAttr]
  .have h0':¬(o.ans.length:Int)+(o.auth.length:Int)=0:=by omega
   rw[if_neg (fun h=>h.elim (fun e=>by first|cases e|(rw[hd] at e;cases e)) h0)];have k3:=P0 o.ans (by omega);have k4:=Xz z o.ans hz hl w2 (by omega);have k5:=P0 o.auth (by omega);have k6:=fun p2 p3 p4 p7=>Ig6 z m l o.auth p2 p3 p4 p7 hz hl hlen b1 htg hq;have hpl:=dc z m.q.typ hl l m.q.name o.auth;have hpw:=Un hz m.q.typ l m.q.name o.auth w1;have hsl:=Ks z o.ans hl;have f1:=kf (sigsR z o.ans);have a1:=J4 o.ans (sigsR z o.ans) (by omega);generalize sigsR z o.ans=sa at*;generalize nmF l m.q.name=nl at*;generalize proofsF z m.q.typ l m.q.name o.auth=pa at*;by_cases h4:last.kind=4
   .rw[if_pos h4];have c1:=J2 z last.owner 43 (by omega);have c2:=J2 z last.owner 47 (by omega);have hdl:=Gc8 z last.owner;have hdw:∀r∈fp z last.owner,r.wf:=fun r hr=>by unfold fp at hr;split at hr<;>exact Qz hz hr
    have kj:=Qn pa (fp z last.owner) (by omega);have hjl:=Tx (fp z last.owner) pa;have hjw:=W8 hpw hdw;have k7:=Xz z (joinN pa (fp z last.owner)) hz hl hjw (by omega);have hs2:=Ks z (joinN pa (fp z last.owner)) hl;have f2:=kf (sigsR z (joinN pa (fp z last.owner)));have k8:=Qn (joinN pa (fp z last.owner)) (sigsR z (joinN pa (fp z last.owner))) (by omega);generalize joinN (joinN pa (fp z last.owner)) (sigsR z (joinN pa (fp z last.owner)))=r8 at*;generalize sigsR z (joinN pa (fp z last.owner))=sb at*;generalize joinN pa (fp z last.owner)=ja at*;unfold fp at kj hdl;by_cases h5:findR z.recs last.owner 43=[]
    .rw[if_pos h5] at kj hdl;rw[h5] at c1;generalize findR z.recs last.owner 47=fn at*;simp(disch:=omega)only[Eq2,k1,k2,k3,k4,k5,k6,k7,k8,f1,f2,a1,c1,c2,kj,hd,h0',h4,hli,Dh0,Ey,Jk,EVM,EVC,EVR,Ms,Ah,simprocAttr]
    .rw[if_neg h5] at kj hdl;have h6:¬((findR z.recs last.owner 43).length:Int)=0:=by have:=C1.2 h5;omega
     generalize findR z.recs last.owner 43=fn at*;simp(disch:=omega)only[Eq2,k1,k2,k3,k4,k5,k6,k7,k8,f1,f2,a1,c1,h6,kj,hd,h0',h4,hli,Dh0,Ey,Jk,EVM,EVC,EVR,Ms,Ah,simprocAttr]
   .rw[if_neg h4];have k7:=Xz z pa hz hl hpw (by omega);have hs2:=Ks z pa hl;have f2:=kf (sigsR z pa);have k8:=Qn pa (sigsR z pa) (by omega);generalize joinN pa (sigsR z pa)=r8 at*;generalize sigsR z pa=sb at*;simp(disch:=omega)only[Eq2,k1,k2,k3,k4,k5,k6,k7,k8,f1,f2,a1,hd,h0',h4,hli,Dh0,Ey,Jk,EVM,EVC,EVR,Ms,Ah,simprocAttr]
def Rb:Msg:=⟨0,0,0,false,false,false,false,false,false,false,true,512,⟨[97,46,120,46],1⟩,[],[],[]⟩
def Gl3:Rec:=⟨[97,46,120,46],1,9,⟨false,0,1,[],[],[],0,0,0,0,0,0,0⟩⟩
def X6:chaseM Jv ⟨[97,46,120,46],1⟩=([⟨1,[42,46,120,46],true,[],[Gl3]⟩],true):=by
 unfold chaseM;rw[L3]
 kernel_rfl
def By8:(respondM Jv Rb).ans=[Gl3]∧(respondM Jv Rb).auth=[]:=by unfold respondM;rw[if_neg (by decide),show Rb.q=⟨[97,46,120,46],1⟩ from rfl,X6];exact⟨rfl,rfl⟩
def zf:(proveM Jv Rb).ans=[Gl3,Hk0]∧(proveM Jv Rb).auth=[Dx3]:=by
 obtain⟨h1,h2⟩:=By8;have h3:I8 Jv Rb.q []=[Dx3]:=by
  unfold I8;rw[show Rb.q=⟨[97,46,120,46],1⟩ from rfl,X6];show (if(1:Int)=4 then _ else proofsF Jv 1 [⟨1,[42,46,120,46],true,[],[Gl3]⟩] [97,46,120,46] [])=_;rw[if_neg (by decide)];unfold proofsF proofsF;rw[if_pos (by rfl),Cf1]
  kernel_rfl
 have h4:sigsR Jv [Dx3]=[]:=by kernel_rfl
 have h5:sigsR Jv [Gl3]=[Hk0]:=by kernel_rfl
 unfold proveM;rw[if_neg (by rw[h1,h2];decide)];simp only[h1,h2,h3,h4,h5];exact⟨rfl,rfl⟩
def Bp1:S Ij3 0 []=some [.b true]:=by
 have k0:=zm;have k1:=qg Jv Rb Ez0 (by decide) (by decide);obtain⟨h1,h2⟩:=zf;have e0:Msg.pv ⟨0,0,0,false,false,false,false,false,false,false,true,512,⟨[97,46,120,46],1⟩,[],[],[]⟩=Rb.pv:=rfl;have q1:((proveM Jv Rb).ans.length:Int)=2:=by rw[h1];rfl
 have q2:((proveM Jv Rb).auth.length:Int)=1:=by rw[h2];rfl
 have q3:(proveM Jv Rb).ans[0]? =some Gl3:=by rw[h1];rfl
 have q4:(proveM Jv Rb).ans[1]? =some Hk0:=by rw[h1];rfl
 have q5:(proveM Jv Rb).auth[0]? =some Dx3:=by rw[h2];rfl
 have q6:Gl3.typ=1:=rfl;have q7:Hk0.typ=46:=rfl;have q8:Hk0.name=[97,46,120,46]:=rfl;have q9:Dx3.typ=47:=rfl;have qa:Dx3.name=[42,46,120,46]:=rfl;generalize proveM Jv Rb=x at*;refine Ir8 (N:=1) rfl ?_;simp(disch:=omega)only[Ir4,k0,k1,e0,q1,q2,q3,q4,q5,q6,q7,q8,q9,qa,EVM,EVC,EVR,Ms,Ah,simprocAttr]
def Ef5 (l:List Rec):P7 l.length l:=fun i r h1 h2=>by have:=(Br.1 h2).1;omega
def Gx5 (l m:List Rec):l.length<=(joinN l m).length:=by obtain⟨s,hs⟩:=O9 m l;rw[hs,Bt];omega
def Rj (z:Zone) (t:Int):∀(l:List Res) (n:List UInt8) (a:List Rec) (k:Nat),k<=a.length->P7 k a->P7 k (proofsF z t l n a)∧k<=(proofsF z t l n a).length∧∃s,proofsF z t l n a=a++s
 |[],_,a,k,hk,h=>⟨h,hk,[],by simp[proofsF]⟩
 |r::l,n,a,k,hk,h=>by
  unfold proofsF;split
  .have h1:=Gx5 a (denialN z n);obtain⟨g1,g2,s,g3⟩:=Rj z t l r.target (joinN a (denialN z n)) k (by omega) (Sm _ _ _ hk h);obtain⟨s1,hs1⟩:=O9 (denialN z n) a;exact⟨g1,g2,s1++s,by rw[g3,hs1,Cv]⟩
  .exact Rj z t l r.target a k hk h
def wz (l:List Rec) (x:Rec) (hl:l.length<=100000000):S El2 2 [B6 l,x.pv]=some [.b (decide (x∈l))]:=by
 refine Ig2 (N:=l.length+1) rfl ?_;have key:Fb2.ev S (l.length+1) [B6 l,x.pv]=some (if(l.any fun c=>decide (c=x))=true then .ret [.b true] else .yld 0 []):=by
  refine Gx l (fun i=>[.i .i64 (i:Int)]) (fun i r=>if(r.any fun c=>decide (c=x))=true then .ret [.b true] else .yld 0 []) rfl (by omega) (fun i c r hd hi hc=> ?_) ?_
  .by_cases h:c=x
   .right;simp(disch:=omega)only[Ew6,hc,h,Ag,simprocAttr];simp[h,Out.goes]
   .left;simp(disch:=omega)only[Ew6,hc,h,Ag,simprocAttr];simp[h]
  .simp(disch:=omega)only[Ew6,Ag,simprocAttr];simp[Out.goes]
 have e:(l.any fun c=>decide (c=x))=decide (x∈l):=by rw[D8];simp only[Dj,decide_eq_true_eq];exact⟨fun⟨c,h1,h2⟩=>h2▸h1,fun h=>⟨x,h,rfl⟩⟩
 rw[e] at key;rcases Bm (decide (x∈l)) with h|h<;>rw[h] at key ⊢<;>simp(disch:=omega)only[Ew6,key,Ag,simprocAttr]<;>simp
def Gd2 {z:Zone} (ho:ZOk z) (n:List UInt8):∀x∈denialN z n,x∈z.recs:=by
 intro x hx;unfold denialN at hx;have hO:∀y∈outD z n,y∈z.recs∧exB z y.name=true:=fun y hy=>by have h1:=Cg.1 hy;exact⟨by simpa using h1.2,Fb7 ho (Pm (An1 y h1.1))⟩
 rcases Cn.1 hx with h|h
 .exact(hO x h).1
 .unfold sigsR at h;obtain⟨s,hs,h⟩:=List.mem_flatMap.1 h;have hex:exB z s.name=true:=ir (P:=fun n=>exB z n=true) (sortR (outD z n)) [] (by simp) (fun r hr=>(hO r (((Ud (outD z n)).2 r).1 hr).mem).2) s hs;unfold Br8 at h;split at h
  .cases h
  .unfold sigsOf at h;rw[if_pos (.inr hex)] at h;exact(Cg.1 h).1
def proofsF_sub {z:Zone} (ho:ZOk z) (t:Int):∀(l:List Res) (n:List UInt8) (a:List Rec),∀x∈proofsF z t l n a,x∈a∨x∈z.recs
 |[],_,_,x,h=> .inl h
 |r::l,n,a,x,h=>by
  unfold proofsF at h;rcases proofsF_sub ho t l r.target _ x h with h|h
  .split at h
   .rcases (mem_joinN x _ _).1 h with h|h
    .exact .inl h
    .exact .inr (Gd2 ho n x h)
   .exact .inl h
  .exact .inr h
def Dt6 {z:Zone} (ho:ZOk z) (q:Ques) (a:List Rec):∀x∈I8 z q a,x∈a∨x∈z.recs:=by
 intro x h;unfold I8 at h;have hp:=proofsF_sub ho q.typ (chaseM z q).1 q.name a x;split at h
 .rename_i last _;split at h
  .rcases (mem_joinN x _ _).1 h with h|h
   .exact hp h
   .unfold fp at h;split at h<;>exact .inr (Cg.1 h).1
  .exact hp h
 .exact hp h
def Bf7 (z:Zone) (q:Ques) (a:List Rec):P7 a.length (I8 z q a)∧∃s,I8 z q a=a++s:=by
 obtain⟨g1,g2,s,g3⟩:=Rj z q.typ (chaseM z q).1 q.name a a.length (B7 _) (Ef5 a);unfold I8;split
 .rename_i last _;split
  .obtain⟨s1,hs1⟩:=O9 (fp z last.owner) (proofsF z q.typ (chaseM z q).1 q.name a);exact⟨Sm _ _ _ g2 g1,s++s1,by rw[hs1,g3,Cv]⟩
  .exact⟨g1,s,g3⟩
 .exact⟨g1,s,g3⟩
def Fk0 {z:Zone} (ho:ZOk z) (q:Ques) (a:List Rec):(I8 z q a).length<=a.length+z.recs.length:=by
 obtain⟨h1,s,hs⟩:=Bf7 z q a;have hsub:=Dt6 ho q a;rw[hs] at h1 hsub ⊢;have hnot:∀i r,s[i]? =some r->r∉a++s.take i:=fun i r hr hm=>by
  refine h1 (a.length+i) r (by omega) ?_ ?_
  .rw[Cz (by omega),Lc];exact hr
  .rw[List.take_append,E5 (by omega),Lc];exact hm
 have:=Yg s z.recs (by
  rw[E1];intro i j hi hj hij e;refine hnot j s[j] (B0 hj) (Cn.2 (.inr ?_));rw[<-e];exact Cq (i:=i) (by rw[List.getElem?_take_of_lt hij];exact B0 hi)) fun x hx=>by
  rcases hsub x (Cn.2 (.inr hx)) with h|h
  .obtain⟨i,hi⟩:=Et.1 hx;exact absurd (Cn.2 (.inl h)) (hnot i x hi)
  .exact h
 rw[Bt];omega
def Fj9 {z:Zone} (hz:z.wf) (q:Ques) {a:List Rec} (h:∀r∈a,r.wf):∀r∈I8 z q a,r.wf:=by
 have hp:=Un hz q.typ (chaseM z q).1 q.name a h;intro r hr;unfold I8 at hr;split at hr
 .rename_i last _;split at hr
  .refine W8 hp (fun x hx=> ?_) r hr;unfold fp at hx;split at hx<;>exact Qz hz hx
  .exact hp r hr
 .exact hp r hr
def wild_kind {z:Zone} {q:Ques}:(findM z q).wild=true->(findM z q).kind=1∨(findM z q).kind=2∨(findM z q).kind=5:=by
 unfold findM;split
 .split
  .intro h;cases h
  .unfold bd;split
   .rename_i x hx;intro h;unfold jj at hx;obtain⟨u,_,rfl⟩:=Bs.1 hx;unfold Sf at h;split at h<;>simp[Gm5] at h
   .split
    .intro h;simp[Mx] at h
    .unfold R7;split
     .simp only[Dd];intro _;rcases says_kind ((allR z (starN (encN z q.name))).map (P5 q.name)) q.typ with h|h|h<;>simp[h.1]
     .intro h;cases h
 .intro h;simp[Gm5] at h
structure AuOk (z:Zone) (q:Ques) (l:List Rec):Prop where
 len:l.length<=1000000
 wf:∀r∈l,r.wf
 abs:(findM z q).kind=6->Vy l z.origin q.name=true
 exp:(findM z q).wild=true->(findM z q).kind≠2->H9 l z.origin q.name (findM z q).owner=true
 emp:(findM z q).kind=5->q.typ≠46->q.typ≠47->(q.typ≠43∨q.name≠z.origin)->fc l z.origin q=true
def Ip4 {z:Zone} {m:Msg} (hz:z.wf) (hl:z.recs.length<=60) (hqn:m.q.name.length<=9223372036854775807) (hc:Jm z=0) (hp:Pl z) (h:Bh4 z) (hd:m.dok=true) (hop:m.op=0) (h251:m.q.typ≠251) (h252:m.q.typ≠252):AuOk z m.q (proveM z m).auth:=by
 have ho:=Z4 hc;obtain⟨b1,b2,b3,w1,w2⟩:=qz z m hz hl hqn;have hsays:=vm z m.q ho;by_cases h0:(respondM z m).ans.length+(respondM z m).auth.length=0
 .have e:proveM z m=respondM z m:=by unfold proveM;rw[if_pos (.inr h0)]
  rw[e];have ha:(respondM z m).ans=[]:=Xb.1 (by omega);have hb:(respondM z m).auth=[]:=Xb.1 (by omega);have no:(findM z m.q).kind≠6∧(findM z m.q).kind≠5∧((findM z m.q).wild=true->(findM z m.q).kind=2):=by
   have hso:soaR z≠[]:=by
    unfold soaR;split
    .rename_i hf;have:=ho.soa;rw[hf] at this;cases this
    .simp
   have lone:Y5 (findM z m.q)=false->(chaseM z m.q).1=[findM z m.q]∧(chaseM z m.q).2=true:=fun hb=>by unfold chaseM;rw[L3];show (if Y5 (findM z m.q)=false then([]++[findM z m.q],true) else _).1=_∧(if Y5 (findM z m.q)=false then([]++[findM z m.q],true) else _).2=true;rw[if_pos hb];exact⟨rfl,rfl⟩
   have hresp:Y5 (findM z m.q)=false->(findM z m.q).kind≠0->respondM z m=Fb9 z {replyM m 0 with aa:=decide ((findM z m.q).kind≠(4:Int)),ans:=ansF m.q.name [] [findM z m.q]} (findM z m.q):=fun hb hk=>by obtain⟨l1,l2⟩:=lone hb;unfold respondM;rw[if_neg (by simp[hop,h251,h252]),l1,l2];unfold Eb3;simp only[Db,List.getLast?_singleton];rw[if_neg hk,if_neg (by simp)]
   have lead0:(findM z m.q).kind≠2->(findM z m.q).kind≠3->Y5 (findM z m.q)=false:=fun h2 h3=>by unfold Y5;simp[h2,h3]
   refine⟨fun k=> ?_,fun k=> ?_,fun k=>Classical.byContradiction fun k2=> ?_⟩
   .have:=hresp (lead0 (by omega) (by omega)) (by omega);rw[this] at hb;unfold Fb9 at hb;rw[if_neg (by omega),if_neg (by omega),if_pos k] at hb;exact hso hb
   .have:=hresp (lead0 (by omega) (by omega)) (by omega);rw[this] at hb;unfold Fb9 at hb;rw[if_neg (by omega),if_pos k] at hb;exact hso hb
   .rcases wild_kind k with k1|k1|k1
    .have:=hresp (lead0 (by omega) (by omega)) (by omega);rw[this] at ha;unfold Fb9 at ha;rw[if_neg (by omega),if_neg (by omega),if_neg (by omega),if_pos k1] at ha;simp only[ansF,Dc] at ha;unfold xv at ha;rw[if_pos (.inr k1)] at ha;exact(hsays.ans k1).1 ha
    .exact k2 k1
    .have:=hresp (lead0 (by omega) (by omega)) (by omega);rw[this] at hb;unfold Fb9 at hb;rw[if_neg (by omega),if_pos k1] at hb;exact hso hb
  rw[hb];exact⟨by simp,by simp,fun k=>absurd k no.1,fun k k2=>absurd (no.2.2 k) k2,fun k=>absurd k no.2.1⟩
 .have e:(proveM z m).auth=joinN (I8 z m.q (respondM z m).auth) (sigsR z (I8 z m.q (respondM z m).auth)):=by unfold proveM;rw[if_neg (by simp only[hd];simp;intro q1 q2;exact h0 (by rw[q1,q2];rfl))]
  rw[e];have hal:=Fk0 ho m.q (respondM z m).auth;have haw:=Fj9 hz m.q w1;have h1:=Tx (sigsR z (I8 z m.q (respondM z m).auth)) (I8 z m.q (respondM z m).auth);have h2:=Ks z (I8 z m.q (respondM z m).auth) hl;obtain⟨g1,g2,g3⟩:=Gv1 (q:=m.q) ho hc hp h (respondM z m).auth;exact⟨by omega,W8 haw (Al0 hz haw),g1,fun k _=>g2 k,g3⟩
def Ed5 (x c:Rec):Bool:=decide (c.name=x.name) && !decide (c.typ=47) && !decide (c.typ=46)
def Hs1 (z:Zone) (i:Nat) (x:Rec) (hx:z.recs[i]? =some x) (N:Nat) (hN:z.recs.length<N) (hl:z.recs.length<=1000000) (p1 p2 p3:PV):Dz4.ev S N [z.pv,p1,p2,p3,.i .i64 (i:Int)]=some (.yld 2 [.b (z.recs.any (Ed5 x))]):=by
 have key:Dz4.ev S N [z.pv,p1,p2,p3,.i .i64 (i:Int)]=some (.yld 2 [.b (false||z.recs.any (Ed5 x))]):=by
  refine E7 z.recs (fun j (g:Bool)=>[.b g,.i .i64 (j:Int)]) (fun j g r=> .yld 2 [.b (g||r.any (Ed5 x))]) (fun _ _=>True) false rfl trivial hN (fun j g c r hd hj hc _=> ?_) (fun g _=> ?_)
  .left;refine⟨g||Ed5 x c,?_,trivial,by rw[List.any_cons,Bool.or_assoc]⟩;unfold Ed5;cases g
   .by_cases h1:c.name=x.name
    .by_cases h2:c.typ=47
     .simp(disch:=omega)only[Qp,hx,hc,h1,h2,Ag,simprocAttr]
      try simp
     .by_cases h3:c.typ=46
      .simp(disch:=omega)only[Qp,hx,hc,h1,h3,Ag,simprocAttr]
       try simp
      .simp(disch:=omega)only[Qp,hx,hc,h1,h2,h3,Ag,simprocAttr]
       try simp
    .simp(disch:=omega)only[Qp,hx,hc,h1,Ag,simprocAttr]
     try simp[h1]
   .simp(disch:=omega)only[Qp,hx,hc,Ag,simprocAttr]
    try simp
  .simp(disch:=omega)only[Qp,Ag,simprocAttr];simp[Out.goes]
 simpa using key
def Ht2 (z:Zone):Bool:=z.recs.all fun x=>z.recs.any (Ed5 x)
def Hs2 (z:Zone) (N:Nat) (hN:z.recs.length<N) (hl:z.recs.length<=1000000) (p1 p2 p3:PV):Fx8.ev S N [z.pv,p1,p2,p3]=some (if Ht2 z=true then .yld 0 [] else .ret [.b false]):=by
 refine Gx z.recs (fun i=>[.i .i64 (i:Int)]) (fun i r=>if(r.all fun x=>z.recs.any (Ed5 x))=true then .yld 0 [] else .ret [.b false]) rfl hN (fun i c r hd hi hc=> ?_) ?_
 .have k:=fun p1 p2 p3=>Hs1 z i c hc N hN hl p1 p2 p3;rcases Bm (z.recs.any (Ed5 c)) with h|h
  .left;rw[h] at k;refine⟨?_,by rw[Ns,h,N0]⟩;simp(disch:=omega)only[Qp,k,Ag,simprocAttr]
  .right;rw[h] at k;rw[Ns,h,Bool.false_and];simp(disch:=omega)only[Qp,k,Ag,simprocAttr];simp[Out.goes]
 .simp(disch:=omega)only[Qp,Ag,simprocAttr];simp[Out.goes]
def Hs3 (z:Zone) (l:List Rec) (N:Nat) (hN:l.length<N) (hl:l.length<=1000000) (hz:z.recs.length<=1000000) (p1 p3:PV):Fb1.ev S N [z.pv,p1,B6 l,p3]=some (if(l.all fun a=>decide (a∈z.recs))=true then .yld 0 [] else .ret [.b false]):=by
 refine Gx l (fun i=>[.i .i64 (i:Int)]) (fun i r=>if(r.all fun a=>decide (a∈z.recs))=true then .yld 0 [] else .ret [.b false]) rfl hN (fun i c r hd hi hc=> ?_) ?_
 .have k:=wz z.recs c (by omega);rcases Bm (decide (c∈z.recs)) with h|h
  .left;rw[h] at k;refine⟨?_,by rw[Ns,h,N0]⟩;simp(disch:=omega)only[Qp,hc,k,Ag,simprocAttr]
  .right;rw[h] at k;rw[Ns,h,Bool.false_and];simp(disch:=omega)only[Qp,hc,k,Ag,simprocAttr];simp[Out.goes]
 .simp(disch:=omega)only[Qp,Ag,simprocAttr];simp[Out.goes]
def chZ (z:Zone):Bool:=decide (z.recs.length<=60) && decide (Jm z=0) && ((chainN z).all fun a=>decide (a∈z.recs)) && Ht2 z
def wn (z:Zone) (hz:z.wf):S El1 1 [z.pv]=some [.b (chZ z)]:=by
 unfold chZ;by_cases hl:z.recs.length<=60
 .have k2:=yj z hz (by omega);have k3:=yq z hz (by omega);have hcl:=wt (z:=z) (by omega);refine Hx7 (N:=z.recs.length+(chainN z).length+1) rfl ?_;have l1:=fun p1 p2 p3=>Hs2 z (z.recs.length+(chainN z).length+1) (by omega) (by omega) p1 p2 p3;have l0:=fun p1 p3=>Hs3 z (chainN z) (z.recs.length+(chainN z).length+1) (by omega) (by omega) (by omega) p1 p3;generalize chainN z=ch at*;by_cases h:Jm z=0
  .rw[h] at k2;rw[if_pos h] at k3;rcases Bm (ch.all fun a=>decide (a∈z.recs)) with h4|h4
   .rw[h4] at l0 ⊢;rcases Bm (Ht2 z) with h3|h3<;>rw[h3] at l1 ⊢<;>simp(disch:=omega)only[Qp,k2,k3,l0,l1,F8,Gt,Ag,simprocAttr]<;>simp[hl,h]
   .rw[h4] at l0 ⊢;simp(disch:=omega)only[Qp,k2,k3,l0,F8,Gt,Ag,simprocAttr];simp
  .simp(disch:=omega)only[Qp,k2,h,F8,Gt,Ag,simprocAttr]
   try simp[h]
 .have hl':(z.recs.length:Int)>60:=by omega
  refine Hx7 (N:=1) rfl ?_;simp(disch:=omega)only[Qp,hl',F8,Gt,Ag,simprocAttr]
  try simp[hl]
def Gh5 {z:Zone} (h:Ht2 z=true):Pl z:=fun r hr=>by unfold Ht2 at h;have h1:=Cr.1 h r hr;obtain⟨x,hx,h2⟩:=Dj.1 h1;unfold Ed5 at h2;simp only[Bp,Cf,decide_eq_true_eq,decide_eq_false_iff_not] at h2;exact⟨x,hx,h2.1.1,h2.1.2,h2.2⟩
def law_ProveNegative (z:Zone) (q:Ques) (hz:z.wf) (hq:q.wf):S Ij4 2 [z.pv,q.pv]=some [.b true]:=by
 have k0:=Bp1;have hqn:q.name.length<=9223372036854775807:=hq.name;have hzn:z.origin.length<=9223372036854775807:=hz.origin;refine Ir9 (N:=1) rfl ?_;by_cases h4:q.name.length<=300
 .have h4':¬(300:Int)<(q.name.length:Int):=by omega
  by_cases h251:q.typ=251
  .simp(disch:=omega)only[Af8,k0,h4',h251,EVM,EVC,EVR,Ah,simprocAttr]
  .by_cases h252:q.typ=252
   .simp(disch:=omega)only[Af8,k0,h4',h252,EVM,EVC,EVR,Ah,simprocAttr]
   .have k1:=wn z hz;rcases Bm (chZ z) with hch|hch
    .rw[hch] at k1;unfold chZ at hch;simp only[Bp,decide_eq_true_eq] at hch;obtain⟨⟨⟨h3,h5⟩,hsub⟩,hall⟩:=hch;have hp:=Gh5 hall;have hhas:Bh4 z:=fun a ha=>by simpa using Cr.1 hsub a ha
     have k2:=Av4 z q hz (by omega) hqn;have k3:=qg z ⟨0,0,0,false,false,false,false,false,false,false,true,512,q,[],[],[]⟩ hz h3 hqn;have hau:=Ip4 (z:=z) (m:=⟨0,0,0,false,false,false,false,false,false,false,true,512,q,[],[],[]⟩) hz h3 hqn h5 hp hhas rfl rfl h251 h252;simp only at hau;obtain⟨a1,a2,a3,a4,a5⟩:=hau;generalize proveM z ⟨0,0,0,false,false,false,false,false,false,false,true,512,q,[],[],[]⟩=x at*;have e1:=Br4 x.auth z.origin q.name a2 a1 hzn hqn;have e2:=aw x.auth z.origin q.name (findM z q).owner a2 a1 hzn hqn;have e3:=Ek5 x.auth z.origin q a2 a1 hzn hqn;generalize findM z q=r at*;by_cases h6:r.kind=6
     .rw[a3 h6] at e1;simp(disch:=omega)only[Af8,k0,k1,k2,k3,h4',h251,h252,h6,e1,EVM,EVC,EVR,Ah,simprocAttr]
     .have st:Dr0.ev S 1 [z.pv,q.pv,.b true,.b true,r.pv,x.pv,.u]=some (.ret [.b true])∧Dr0.ev S 1 [z.pv,q.pv,.b true,.b true,r.pv,x.pv,.b true]=some (.ret [.b true]):=by
       by_cases k5:r.kind=5
       .by_cases t47:q.typ=47
        .constructor<;>simp(disch:=omega)only[Af8,k5,t47,EVM,EVC,EVR,Ah,simprocAttr]
        .by_cases t46:q.typ=46
         .constructor<;>simp(disch:=omega)only[Af8,k5,t46,EVM,EVC,EVR,Ah,simprocAttr]
         .by_cases t43:q.typ=43
          .by_cases hn:q.name=z.origin
           .constructor<;>simp(disch:=omega)only[Af8,k5,t43,hn,EVM,EVC,EVR,Ah,simprocAttr]
           .rw[a5 k5 t46 t47 (.inr hn)] at e3;constructor<;>simp(disch:=omega)only[Af8,k5,t43,hn,e3,EVM,EVC,EVR,Ah,simprocAttr]
          .rw[a5 k5 t46 t47 (.inl t43)] at e3;constructor<;>simp(disch:=omega)only[Af8,k5,t47,t46,t43,e3,EVM,EVC,EVR,Ah,simprocAttr]
       .constructor<;>simp(disch:=omega)only[Af8,k5,EVM,EVC,EVR,Ah,simprocAttr]
      obtain⟨st1,st2⟩:=st;generalize hC:Dr0=C2 at st1 st2;cases hw:r.wild with
      |false=>simp(disch:=omega)only[Af8,hC,k0,k1,k2,k3,h4',h251,h252,h6,hw,st1,EVM,EVC,EVR,Ah,simprocAttr]
      |true=>
       by_cases k2':r.kind=2
       .simp(disch:=omega)only[Af8,hC,k0,k1,k2,k3,h4',h251,h252,k2',hw,st1,EVM,EVC,EVR,Ah,simprocAttr]
       .rw[a4 hw k2'] at e2;simp(disch:=omega)only[Af8,hC,k0,k1,k2,k3,h4',h251,h252,h6,k2',hw,e2,st2,EVM,EVC,EVR,Ah,simprocAttr]
    .rw[hch] at k1;simp(disch:=omega)only[Af8,k0,k1,h4',h251,h252,EVM,EVC,EVR,Ah,simprocAttr]
 .have h4':(300:Int)<(q.name.length:Int):=by omega
  simp(disch:=omega)only[Af8,k0,h4',EVM,EVC,EVR,Ah,simprocAttr]
end Go.X.G
