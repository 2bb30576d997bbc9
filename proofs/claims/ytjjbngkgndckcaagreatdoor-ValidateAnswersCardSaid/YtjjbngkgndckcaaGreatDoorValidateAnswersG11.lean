/- The law ValidateAnswers. -/
import Derived.Test.YtjjbngkgndckcaaGreatDoorValidateAnswersG10
open Bool renaming eq_false_or_eq_true->Bm,and_eq_true->Bt,true_and->F0,false_or->Hb
open Int renaming lt_irrefl->C2
open List renaming mem_of_getElem?->B6,length_pos_iff->Ct,filter_cons_of_pos->C9,filter_cons_of_neg->D8,any_cons->J2
set_option maxHeartbeats 1000000
set_option linter.defProp false
set_option linter.unusedVariables false
set_option linter.unusedSimpArgs false
namespace Go.X.G
open Go Go.X
def Az:=And.intro EVC<|And.intro xe<|And.intro EVP EV
def ot {D:Type} (p q:D->Bool) (h:∀x,q x=true->p x=true):∀l:List D,(l.filter p).filter q=l.filter q
 |[]=>rfl
 |x::l=>by
  have ih:=ot p q h l;rcases Bm (q x) with hq|hq
  .rw[C9 (h x hq),C9 hq,C9 hq,ih]
  .rcases Bm (p x) with hp|hp
   .rw[C9 hp,D8 (by simp[hq]),D8 (by simp[hq]),ih]
   .rw[D8 (by simp[hp]),D8 (by simp[hq]),ih]
def bv {D:Type} (p q:D->Bool):∀l:List D,(l.filter p).any q=l.any fun x=>p x && q x
 |[]=>rfl
 |x::l=>by
  have ih:=bv p q l;rcases Bm (p x) with hp|hp
  .rw[C9 hp,J2,J2,ih,hp,F0]
  .rw[D8 (by simp[hp]),J2,ih,hp,Bool.false_and,Hb]
def Hd7 (l:List Rec) (zone n:List UInt8):(setsN l).filter (Iq zone n)=(setsR l).filter (Iq zone n):=by refine ot _ _ (fun x hx=> ?_) _;simp only[Iq,Bt,decide_eq_true_eq] at hx;simp[hx.1.1.1.1]
def zg (zone:List UInt8) (keys:List Dat) (m:Msg) (now:Int) (ha:AskOk zone keys) (hm:MsgOk m):
  S Ex2 4 [.s zone,Dm keys,m.pv,.i .i64 now]=some [.i .i64 (ansM zone keys m now)]:=by
 refine Ih2 (N:=2000) rfl ?_;unfold ansM;by_cases h:keys=[]
 .subst h;rw[if_pos rfl];simp(disch:=omega)only[Lv,Eb,EVT,EVM,Dj,Az,simprocAttr]
  try simp
 .have h':¬(keys.length:Int)=0:=by have:=Ct.2 h;omega
  rw[if_neg h];have hml:=hm.ans;have hsl:=Qq m.ans;have hpl:=Kb zone keys m now;have hml2:=hm.auth;have hpw:=Oj zone keys m now hm.authw;have hnw:=Pv m.ans hm.answ;have hnn:=Uq m.ans;have k1:=Xl zone keys m now ha hm;have k1':=gm m.ans hm.answ (by omega);have k2:=Cr7 m hm;have hfl:=wj m.ans m.q.typ hm.answ 8 m.q.name hm.qn;have k3:=F5 (folM m.ans m.q.typ 8 m.q.name).1 zone hfl ha.zoneL;have k4:=lf zone keys m now (folM m.ans m.q.typ 8 m.q.name).1 ha hm hfl;have k5:=jh zone (folM m.ans m.q.typ 8 m.q.name).1 (setsR m.ans) ha.zoneL hfl (by omega) (fun s hs=>(hnw s hs).1) hnn;have k6:=bc zone m ha.zoneL hm;have k7:=gp zone keys m now ha hm;have k8:=F5 (folM m.ans m.q.typ 8 m.q.name).1 (refM zone keys m now).1 hfl (Aq0 zone keys m now hm);have elb:longB (ckM zone keys m now) (folM m.ans m.q.typ 8 m.q.name).1=(decide (m.code=6) && ((setsR m.ans).filter (Iq zone (folM m.ans m.q.typ 8 m.q.name).1)).any (Xs (folM m.ans m.q.typ 8 m.q.name).1)):=by rw[<-Hd7];rfl
  have er1:(refM zone keys m now).1=(kidR zone m.auth).getD []:=by unfold refM;cases kidR zone m.auth<;>rfl
  have er2:(refM zone keys m now).2=km zone keys m now:=by unfold refM km;rw[if_neg h];cases kidR zone m.auth<;>rfl
  have er3:(kidR zone m.auth).isSome=false->(refM zone keys m now).2.2=3:=fun q=>by
   cases hk:kidR zone m.auth with
   |some c=>rw[hk] at q;cases q
   |none=>unfold refM;rw[hk]
  rw[<-er1] at k6;rw[<-er2] at k7;have ebad:(setsN m.ans).any (badS (ckM zone keys m now))=(setsR m.ans).any (fun s=> !decide (s.typ=46) && badS (ckM zone keys m now) s):=bv _ _ _;have hb:∀s,badS (ckM zone keys m now) s=(under s.name zone && !provB zone keys now s m.ans && !(m.ans.any (ij zone keys now (proofsN zone keys m now) s)) && !(decide (s.typ=5) && decide (s.data.length=1) && ((setsR m.ans).filter (Iq zone s.name)).any (X7 s))):=fun s=>by rw[<-Hd7];rfl
  rw[ebad];dsimp only;rw[elb];generalize badS (ckM zone keys m now)=bd at*;clear elb ebad er1 er2;have key:Fq4.ev S 2000 [.s zone,Dm keys,m.pv,.i .i64 now,B8 (proofsN zone keys m now),Dh (setsR m.ans)]=some (if(setsR m.ans).any (fun s=> !decide (s.typ=46) && bd s)=true then .ret [.i .i64 3] else .yld 0 []):=by
   refine Df (setsR m.ans) (fun i=>[.i .i64 (i:Int)]) (fun _ l=>if l.any (fun s=> !decide (s.typ=46) && bd s)=true then .ret [.i .i64 3] else .yld 0 []) rfl (by omega) (fun i s l hd2 hi hx=> ?_) ?_
   .have hil:(i:Int)<((setsR m.ans).length:Int):=by omega
    obtain⟨hsw,hsd⟩:=hnw s (B6 hx);have hsn:=hnn s (B6 hx);have g1:=F5 s.name zone hsw.name ha.zoneL;have g2:=Mx zone keys s m.ans now ha hsw (by omega) hm.answ (by omega);have g3:=Bf2 zone keys s m (proofsN zone keys m now) now ha hm hsw (by omega) (by omega) hpw;have g4:=oz zone s (setsR m.ans) ha.zoneL hsw hsn (by omega) (fun s hs=>(hnw s hs).1) hnn;have e:=hb s;generalize under s.name zone=b1 at*;generalize provB zone keys now s m.ans=b2 at*;generalize m.ans.any (ij zone keys now (proofsN zone keys m now) s)=b3 at*;generalize (decide (s.typ=5) && decide (s.data.length=1) && ((setsR m.ans).filter (Iq zone s.name)).any (X7 s))=b4 at*;generalize proofsN zone keys m now=pf at*;generalize setsR m.ans=ss at*;have yes:(!decide (s.typ=46) && bd s)=false->∀o:Option Out,o=some (.yld 1 [.i .i64 ((i:Int)+1)])->(o=some (.yld 1 [.i .i64 ((i+1:Nat):Int)])∧(if l.any (fun s=> !decide (s.typ=46) && bd s)=true then Out.ret [.i .i64 3] else .yld 0 [])=(if(s::l).any (fun s=> !decide (s.typ=46) && bd s)=true then Out.ret [.i .i64 3] else .yld 0 [])):=fun hf o ho=>⟨ho,by rw[J2,hf,Hb]⟩;by_cases h46:s.typ=46
    .left;refine yes (by simp[h46]) _ ?_;simp(disch:=omega)only[Lv,hx,hil,h46,Eb,EVT,EVM,Dj,Az,simprocAttr]
    .cases b1 with
     |false=>
      left;refine yes (by rw[e];simp) _ ?_;simp(disch:=omega)only[Lv,hx,hil,h46,g1,Eb,EVT,EVM,Dj,Az,simprocAttr]
     |true=>
      cases b2 with
      |true=>
       left;refine yes (by rw[e];simp) _ ?_;simp(disch:=omega)only[Lv,hx,hil,h46,g1,g2,Eb,EVT,EVM,Dj,Az,simprocAttr]
      |false=>
       cases b3 with
       |true=>
        left;refine yes (by rw[e];simp) _ ?_;simp(disch:=omega)only[Lv,hx,hil,h46,g1,g2,g3,Eb,EVT,EVM,Dj,Az,simprocAttr]
       |false=>
        cases b4 with
        |true=>
         left;refine yes (by rw[e];simp) _ ?_;simp(disch:=omega)only[Lv,hx,hil,h46,g1,g2,g3,g4,Eb,EVT,EVM,Dj,Az,simprocAttr]
        |false=>
         right;have e1:bd s=true:=by rw[e];rfl
         simp(disch:=omega)only[Lv,hx,hil,h46,g1,g2,g3,g4,Eb,EVT,EVM,Dj,Az,simprocAttr];simp[e1,h46,Out.goes]
   .simp(disch:=omega)only[Lv,C2,Eb,EVT,EVM,Dj,Az,simprocAttr];simp[Out.goes]
  generalize (setsR m.ans).any (fun s=> !decide (s.typ=46) && bd s)=bad at*;generalize folM m.ans m.q.typ 8 m.q.name=p at*;generalize nothB zone keys m now p.1=nb at*;generalize ((setsR m.ans).filter (Iq zone p.1)).any (Xs p.1)=lb at*;generalize refM zone keys m now=rf at*;generalize under p.1 zone=u1 at*;generalize under p.1 rf.1=u2 at*;generalize (kidR zone m.auth).isSome=kd at*;generalize proofsN zone keys m now=pf at*;generalize setsR m.ans=ss at*;obtain⟨nm,fo⟩:=p;obtain⟨ch,dd,st⟩:=rf;simp only at*;cases bad with
  |true=>
   simp(disch:=omega)only[Lv,h',k1,k1',key,Eb,EVT,EVM,Dj,Az,simprocAttr]
  |false=>
   cases fo with
   |true=>
    simp(disch:=omega)only[Lv,h',k1,k1',k2,key,Eb,EVT,EVM,Dj,Az,simprocAttr]
    try simp
   |false=>
    cases u1 with
    |false=>
     simp(disch:=omega)only[Lv,h',k1,k1',k2,k3,key,Eb,EVT,EVM,Dj,Az,simprocAttr]
     try simp
    |true=>
     cases nb with
     |true=>
      simp(disch:=omega)only[Lv,h',k1,k1',k2,k3,k4,key,Eb,EVT,EVM,Dj,Az,simprocAttr]
      try simp
     |false=>
      have rest:∀(lg:Bool),(decide (m.code=6) && lb)=lg->lg=false->True:=fun _ _ _=>trivial;by_cases h6:m.code=6
      .cases lb with
       |true=>
        simp(disch:=omega)only[Lv,h',k1,k1',k2,k3,k4,k5,h6,key,Eb,EVT,EVM,Dj,Az,simprocAttr]
        try simp
       |false=>
        cases kd with
        |false=>
         have h3:=er3 rfl;subst h3;simp(disch:=omega)only[Lv,h',k1,k1',k2,k3,k4,k5,k6,k7,h6,key,Eb,EVT,EVM,Dj,Az,simprocAttr]
         try simp
        |true=>
         by_cases s1:st=1
         .cases u2<;>simp(disch:=omega)only[Lv,h',k1,k1',k2,k3,k4,k5,k6,k7,k8,s1,h6,key,Eb,EVT,EVM,Dj,Az,simprocAttr]<;>try simp
         .by_cases s2:st=2
          .cases u2<;>simp(disch:=omega)only[Lv,h',k1,k1',k2,k3,k4,k5,k6,k7,k8,s2,h6,key,Eb,EVT,EVM,Dj,Az,simprocAttr]<;>try simp
          .cases u2<;>simp(disch:=omega)only[Lv,h',k1,k1',k2,k3,k4,k5,k6,k7,k8,s1,s2,h6,key,Eb,EVT,EVM,Dj,Az,simprocAttr]<;>try simp[s1,s2]
      .cases kd with
       |false=>
        have h3:=er3 rfl;subst h3;simp(disch:=omega)only[Lv,h',k1,k1',k2,k3,k4,k6,k7,h6,key,Eb,EVT,EVM,Dj,Az,simprocAttr]
        try simp
       |true=>
        by_cases s1:st=1
        .cases u2<;>simp(disch:=omega)only[Lv,h',k1,k1',k2,k3,k4,k6,k7,k8,s1,h6,key,Eb,EVT,EVM,Dj,Az,simprocAttr]<;>try simp
        .by_cases s2:st=2
         .cases u2<;>simp(disch:=omega)only[Lv,h',k1,k1',k2,k3,k4,k6,k7,k8,s2,h6,key,Eb,EVT,EVM,Dj,Az,simprocAttr]<;>try simp
         .cases u2<;>simp(disch:=omega)only[Lv,h',k1,k1',k2,k3,k4,k6,k7,k8,s1,s2,h6,key,Eb,EVT,EVM,Dj,Az,simprocAttr]<;>try simp[s1,s2]
def law_ValidateAnswers (x:Ask) (m:Msg) (hx:x.wf) (hm:m.wf):S Ht8 2 [x.pv,m.pv]=some [.b true]:=by
 have k0:=Bx8;have k1:=Ec5 x;obtain⟨b,k2,hb⟩:=Ap0 m hm;refine Ir5 (N:=1) rfl ?_;by_cases h1:(x.keys.length:Int)<=8
 .have ha:AskOk x.zone x.keys:=⟨hx.zone,hx.keys,by omega⟩;rw[decide_eq_true h1] at k1;cases b with
  |true=>
   obtain⟨hm1,_,_⟩:=hb rfl;have k3:=By9 x.zone x.keys m x.now ha hm1;have k4:=zg x.zone x.keys m x.now ha hm1;generalize ansM x.zone x.keys m x.now=v at*;simp(disch:=omega)only[Iq6,k0,k1,k2,k3,k4,Ij9,EVT,EVM,Dj,Az,simprocAttr]
  |false=>
   simp(disch:=omega)only[Iq6,k0,k1,k2,Ij9,EVT,EVM,Dj,Az,simprocAttr]
 .rw[decide_eq_false h1] at k1;simp(disch:=omega)only[Iq6,k0,k1,Ij9,EVT,EVM,Dj,Az,simprocAttr]
end Go.X.G
