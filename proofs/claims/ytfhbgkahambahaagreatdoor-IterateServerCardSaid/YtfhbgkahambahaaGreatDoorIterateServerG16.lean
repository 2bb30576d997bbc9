/- iterate: a task whose messages are answered from one zone without aliases. -/
import Derived.Test.YtfhbgkahambahaaGreatDoorIterateServerG13
import Derived.Test.YtfhbgkahambahaaGreatDoorIterateServerG15
open Bool renaming eq_false_or_eq_true→Bm
open List renaming mem_filter→C0,all_eq_true→C1,length_drop→Dv,getElem?_cons_zero→Dc,mem_map→E2,filter_eq_self→U3,find?_eq_none→ct
open Nat renaming le_refl→B7,zero_le→Dr
open Option renaming getD_some→Dz
set_option maxHeartbeats 1000000
set_option linter.defProp false
set_option linter.unusedVariables false
set_option linter.unusedSimpArgs false
namespace Go.X.G
open Go Go.X
def Ah:=And.intro EVC<|And.intro xe<|And.intro EVP EV
def Ag:=And.intro EVM<|And.intro EVC<|And.intro xe<|And.intro EVP EV
def sM (q:Ques):Msg:={Ax4 with dok:=true,size:=1232,q:=q}
def dsM (r:Msg):Msg:={r with dok:=true,size:=1232}
def Bk0 (z:Zone) (q:Ques):respondM z (sM q)=dsM (respondM z (qM q)):=by
 have e0:∀c,replyM (sM q) c=dsM (replyM (qM q) c):=fun c=>rfl;unfold respondM;have e1:(sM q).q=q:=rfl;have e2:(qM q).q=q:=rfl;have e3:(sM q).op=0:=rfl;have e4:(qM q).op=0:=rfl;rw[e1,e2,e3,e4];split
 ·exact e0 4
 ·generalize (chaseM z q).1=l;generalize (chaseM z q).2=ok;unfold Yd;rw[e1,e2];split
  ·split
   ·exact e0 5
   ·split
    ·exact e0 2
    ·unfold Bm3;split
     ·rfl
     ·split
      ·rfl
      ·split
       ·rfl
       ·split
        ·rfl
        ·split<;>rfl
  ·exact e0 0
def Fr5 (r:Msg) (zone:List UInt8):kindM (insideM (dsM r) zone) zone=kindM (insideM r zone) zone:=rfl
def Fc0 (z:Zone):Prop:=∀r∈z.recs,r.typ≠5∧r.typ≠39
def Ck9 {l:List Rec} {t:Int} (h:∀r∈l,r.typ≠5):(saysM l t).kind≠2:=by
 have e1:Fb9 l t=none:=by
  unfold Fb9;split
  ·rfl
  ·rw[ct];intro r hr;simp[h r hr]
 unfold saysM;rw[e1];simp only;split<;>simp
def Ef8 {z:Zone} (h:Fc0 z) (n:List UInt8):vz z n=none:=by
 unfold vz Fk3;rw[ct.2]
 ·rfl
 ·intro u _ hd;unfold dnB at hd;obtain⟨r,hr⟩:=List.exists_mem_of_length_pos (of_decide_eq_true hd);obtain⟨r1,_,r3⟩:=Km.1 hr;exact(h r r1).2 r3
def Ch9 {z:Zone} (h:Fc0 z) (q:Ques):(findM z q).kind≠2∧(findM z q).kind≠3:=by
 unfold findM;split
 ·split
  ·simp
  ·unfold Ys;rw[Ef8 h];simp only;have hs:∀n,(saysM (allR z n) q.typ).kind≠2∧(saysM (allR z n) q.typ).kind≠3:=fun n=>by
    refine⟨Ck9 fun r hr=> ?_,?_⟩
    ·unfold allR at hr;exact(h r (C0.1 hr).1).1
    ·rcases says_kind (allR z n) q.typ with⟨k,_⟩|⟨k,_⟩|⟨k,_⟩<;>rw[k]<;>decide
   split
   ·exact hs q.name
   ·unfold Yx;split
    ·simp only[Dz];refine⟨Ck9 fun r hr=> ?_,?_⟩
     ·obtain⟨w,hw,rfl⟩:=E2.1 hr;unfold allR at hw;exact(h w (C0.1 hw).1).1
     ·rcases says_kind ((allR z (starN (encN z q.name))).map (Uf q.name)) q.typ with⟨k,_⟩|⟨k,_⟩|⟨k,_⟩<;>rw[k]<;>decide
    ·simp
 ·simp
def z6 {z:Zone} {q:Ques} (h:(findM z q).kind≠4) (hu:under q.name z.origin=true):cutN z q.name=[]∨cutN z q.name=q.name:=by
 by_cases h0:cutN z q.name=[]
 ·exact .inl h0
 ·refine .inr (Classical.byContradiction fun h1=>h ?_);unfold findM;rw[if_pos hu,if_pos ⟨h0,.inl h1⟩]
def Es8 {z:Zone} {q:Ques} {n:List UInt8} (ho:ZOk z) (hna:Fc0 z) (h:(findM z q).kind≠4) (hq:under q.name n=true) (hn:under n z.origin=true) (hne:q.name≠n):(findM z ⟨n,2⟩).kind=1∨(findM z ⟨n,2⟩).kind=5∨(findM z ⟨n,2⟩).kind=6:=by
 have hk:=(Rz z ⟨n,2⟩ ho).kinds;obtain⟨a2,a3⟩:=Ch9 hna ⟨n,2⟩;have hu:=Mk hq hn;have hc:cutN z n=[]:=by
  refine Classical.byContradiction fun hc=> ?_;obtain⟨c1,c2⟩:=Mp z n z.recs [] (.inl rfl);obtain⟨d1,d2⟩:=Mp z q.name z.recs [] (.inl rfl);obtain⟨g1,g2,_,_⟩:=c2 hc;obtain⟨r,hr,hcut,hrn⟩:=g2.resolve_left hc;have hun:under n r.name=true:=by rw[hrn];exact g1
  have huq:=Mk hq hun;by_cases h0:cutN z q.name=[]
  ·have:=(d1 h0).2 r hr hcut;rw[huq] at this;cases this
  ·obtain⟨_,_,_,k3⟩:=d2 h0;have k4:=k3 r hr hcut huq;change (lbl (cutN z q.name)).length≤_ at k4;rw[(z6 h hu).resolve_left h0] at k4;have k5:=(C8.1 hun).2.2.length_le;exact hne (Kq hq (by omega))
 have k4:(findM z ⟨n,2⟩).kind≠4:=by intro q4;unfold findM at q4;rw[if_pos hn,if_neg (by rintro⟨w,_⟩;exact w hc)] at q4;exact rh z ⟨n,2⟩ q4
 have k0:(findM z ⟨n,2⟩).kind≠0:=fun q0=>by have:=(Rz z ⟨n,2⟩ ho).out q0;rw[hn] at this;cases this
 rcases hk with w|w|⟨w,_⟩|⟨w,_⟩|w|w|w
 ·exact absurd w k0
 ·exact .inl w
 ·exact absurd w a2
 ·exact absurd w a3
 ·exact absurd w k4
 ·exact .inr (.inl w)
 ·exact .inr (.inr w)
def srv:Adr:=⟨false,0,1⟩
def Dp5 {z:Zone} {q:Ques} (ho:ZOk z) (h1:q.typ≠251) (h2:q.typ≠252) (hk:(findM z q).kind=1∨(findM z q).kind=5∨(findM z q).kind=6):(respondM z (qM q)).ans.filter (inZ z.origin)=(respondM z (qM q)).ans:=by
 have hu:=Ot (z:=z) (q:=q) (by omega);obtain⟨c1,c2⟩:=t8 (z:=z) (q:=q) (by omega) (by omega);have hf:=Rz z q ho;unfold respondM;rw[if_neg (by simp[qM,h1,h2])];show (Yd z (qM q) (chaseM z q).1 (chaseM z q).2).ans.filter (inZ z.origin)=(Yd z (qM q) (chaseM z q).1 (chaseM z q).2).ans;rw[c1,c2];unfold Yd;simp only[Dc,List.getLast?_singleton];rw[if_neg (by omega),if_neg (by simp)];generalize findM z q=f at*;have e:∀o:Msg,(Bm3 z o f).ans=o.ans:=fun o=>by
  unfold Bm3;split
  ·rfl
  ·split
   ·rfl
   ·split
    ·rfl
    ·split
     ·rfl
     ·split<;>rfl
 rw[e];show (ansF q.name [] [f]).filter (inZ z.origin)=ansF q.name [] [f];have ha:ansF q.name [] [f]=[]++N7 q.name f:=rfl;rw[ha,U3];intro x hx;unfold N7 at hx;rcases hk with hk|hk|hk
 ·rw[if_pos (.inr hk)] at hx;obtain⟨_,_,_,r2⟩:=hf.ans hk;unfold inZ;rw[(r2 x hx).1];exact hu
 ·rw[if_neg (by omega),if_neg (by omega)] at hx;cases hx
 ·rw[if_neg (by omega),if_neg (by omega)] at hx;cases hx
def ny (z:Zone) (t:Tk):Tk:=Mb (sendT t srv).1 srv (respondM z (sendT t srv).2.1)
structure SInv (z:Zone) (q:Ques) (i:Nat) (t:Tk):Prop where
 qq:t.q=q
 name:t.name=q.name
 zone:t.zone=z.origin
 addrs:t.addrs=[srv]
 tried:t.tried=[]
 hosts:t.hosts=[]
 state:t.state=0
 sent:t.sent=(i:Int)
 chain:t.chain=[]
 last:t.last=Ax4
 more0:0≤t.more
 more1:t.more≤10
 more2:10≤t.more∨(i:Int)≤t.more
def Cq6 (z:Zone) (m:Msg):(respondM z m).q=m.q:=by
 unfold respondM;split
 ·rfl
 ·unfold Yd;split
  ·split
   ·rfl
   ·split
    ·rfl
    ·unfold Bm3;split
     ·rfl
     ·split
      ·rfl
      ·split
       ·rfl
       ·split
        ·rfl
        ·split<;>rfl
  ·rfl
def Cl0 {q:Ques} {zone:List UInt8} {more:Int} (h:(nextQ q zone more).1≠q):more<10∧(nextQ q zone more).1.typ=2∧q.name≠(nextQ q zone more).1.name:=by
 unfold nextQ at h ⊢;split
 ·rename_i hc;rw[if_pos hc] at h;exact absurd rfl h
 ·rename_i hc;rw[if_neg hc] at h;split
  ·rename_i hl;rw[if_pos hl] at h;exact absurd rfl h
  ·rename_i hl;simp only[not_or] at hc;refine⟨by omega,rfl,?_⟩;have hv:=Ty (n:=q.name) (z:=zone) (by simpa using hc.1);intro e;simp only at e;have h2:=congrArg List.length (Jw hv ((lbl q.name).length - ((lbl zone).length+1+more.toNat))).2;rw[←e,Dv] at h2;omega
structure Fin3 (z:Zone) (q:Ques) (t:Tk):Prop where
 state:t.state=3
 qq:t.q=q
 chain:t.chain=[]
 last:t.last=insideM (dsM (respondM z (qM q))) z.origin
def Vj {z:Zone} {q:Ques} {i:Nat} {t:Tk} (ho:ZOk z) (hna:Fc0 z) (h1:q.typ≠251) (h2:q.typ≠252) (hk:(findM z q).kind=1∨(findM z q).kind=5∨(findM z q).kind=6) (hi:i≤10) (h:SInv z q i t):
  (sendT t srv).2.2=true∧(sendT t srv).2.1=sM (nextQ q z.origin t.more).1∧(SInv z q (i+1) (ny z t)∧t.more<10∨Fin3 z q (ny z t)):=by
 have hu:=Ot (z:=z) (q:=q) (by omega);have e0:Dm4 t=q:=by unfold Dm4;rw[h.name,h.qq]
 have es:sendT t srv=({t with dst:=srv,asked:=(nextQ q z.origin t.more).1,state:=1,sent:=t.sent+1},sM (nextQ q z.origin t.more).1,true):=by unfold sendT;rw[if_neg (by rw[h.state,h.addrs,h.tried];simp),if_neg (by rw[h.sent];omega),e0,h.zone];rfl
 refine⟨by rw[es],by rw[es],?_⟩;unfold ny;rw[es,Bk0];simp only;obtain⟨n1,n2,_⟩:=Eg0 (q:=q) (more:=t.more) hu;have np:= @Cl0 q z.origin t.more;generalize (nextQ q z.origin t.more).1=A at*;have eq1:(dsM (respondM z (qM A))).q=A:=Cq6 z _;have eo:Dm4 {t with dst:=srv,asked:=A,state:=1,sent:=t.sent+1}=q:=e0;unfold Mb;rw[if_neg (by rw[eq1];simp),eo];simp only[h.zone];rw[Fr5];by_cases hw:A=q
 ·right;obtain⟨k1,k5,k6,_⟩:=Ay5 (q:=q) ho h1 h2;rw[hw];generalize kindM (insideM (respondM z (qM q)) z.origin) z.origin=k at*;have hk3:k=1∨k=4∨k=5:=hk.elim (fun w=> .inl (k1 w)) (fun w=> .inr (w.elim (fun w=> .inl (k5 w)) (fun w=> .inr (k6 w))));rw[if_neg (by omega),if_neg (by omega),if_neg (by simp),if_neg (by simp),if_neg (by omega)];exact⟨rfl,h.qq,h.chain,rfl⟩
 ·left;obtain⟨p1,p2,p3⟩:=np hw;have hA:A=⟨A.name,2⟩:=by rw[←p2]
  have ak:=Es8 ho hna (by omega) n2 n1 p3;rw[←hA] at ak;obtain⟨k1,k5,k6,_⟩:=Ay5 (q:=A) ho (by omega) (by omega);generalize kindM (insideM (respondM z (qM A)) z.origin) z.origin=k at*;have hk3:k=1∨k=4∨k=5:=ak.elim (fun w=> .inl (k1 w)) (fun w=> .inr (w.elim (fun w=> .inl (k5 w)) (fun w=> .inr (k6 w))));have m0:=h.more0;have m2:=h.more2;have hs:=h.sent;rw[if_neg (by omega),if_neg (by omega)];refine⟨?_,p1⟩;split
  ·exact⟨h.qq,h.name,rfl,h.addrs,rfl,h.hosts,rfl,by show t.sent+1=_;omega,h.chain,h.last,by show (0:Int)≤10;decide,by show (10:Int)≤10;decide,.inl (by show (10:Int)≤10;decide)⟩
  ·exact⟨h.qq,h.name,rfl,h.addrs,rfl,h.hosts,rfl,by show t.sent+1=_;omega,h.chain,h.last,by show 0≤t.more+1;omega,by show t.more+1≤10;omega,.inr (by show ((i+1:Nat):Int)≤t.more+1;omega)⟩
def tS (z:Zone) (t0:Tk):Nat→Tk
 |0=>t0
 |n+1=>ny z (tS z t0 n)
def nv {z:Zone} {q:Ques} {t0:Tk} (ho:ZOk z) (hna:Fc0 z) (h1:q.typ≠251) (h2:q.typ≠252) (hk:(findM z q).kind=1∨(findM z q).kind=5∨(findM z q).kind=6):
  ∀(d i:Nat),i+d=10→SInv z q i (tS z t0 i)→∃N,i<N∧N≤11∧(∀j,i≤j→j<N→SInv z q j (tS z t0 j))∧Fin3 z q (tS z t0 N)
 |0,i,hd,h=>by
  obtain⟨_,_,r⟩:=Vj ho hna h1 h2 hk (by omega) h;rcases r with⟨_,r⟩|r
  ·have:=h.more2;omega
  ·exact⟨i+1,by omega,by omega,fun j a b=>by rw[show j=i by omega];exact h,r⟩
 |d+1,i,hd,h=>by
  obtain⟨_,_,r⟩:=Vj ho hna h1 h2 hk (by omega) h;rcases r with⟨r,_⟩|r
  ·obtain⟨N,a1,a2,a3,a4⟩:=nv ho hna h1 h2 hk d (i+1) (by omega) r;refine⟨N,by omega,a2,fun j b1 b2=> ?_,a4⟩;by_cases hj:j=i
   ·rw[hj];exact h
   ·exact a3 j (by omega) b2
  ·exact⟨i+1,by omega,by omega,fun j a b=>by rw[show j=i by omega];exact h,r⟩
def Cq2 {z:Zone} {t:Tk} {k:Nat} (hz:z.wf) (hl:z.recs.length≤60) (h:TOk t k) (hm:(sendT t srv).2.1.q.wf) (h1:Im (sendT t srv).2.1.id) (h2:Im (sendT t srv).2.1.op) (hk:k+8≤900000):TOk (ny z t) (k+8):=
 (h.send srv).receive (Pf z _ hz hl h1 h2 hm) srv hk
end Go.X.G
/- iterate: the law IterateServer. -/
namespace Go.X.G
open Go Go.X
def Fn1 (z:Zone):Bool:=z.recs.all fun r=> !(decide (r.typ=5)||decide (r.typ=39))
def Fn0 {z:Zone} (h:Fn1 z=true):Fc0 z:=fun r hr=>by have:=C1.1 h r hr;simpa using this
def Dl1 (z:Zone) (hl:z.recs.length≤60) (p1 p2 p3:PV):
  Hw7.ev S 100 [z.pv,p1,p2,p3]=some (if Fn1 z=true then .yld 0 [] else .ret [.b true]):=by
 refine F2 z.recs (fun i=>[.i .i64 (i:Int)]) (fun i r=>if(r.all fun r=> !(decide (r.typ=5)||decide (r.typ=39)))=true then .yld 0 [] else .ret [.b true]) rfl (by omega) (fun i c r hd hi hc=> ?_) ?_
 ·have hil:(i:Int)<(z.recs.length:Int):=by omega
  by_cases h1:c.typ=5
  ·right;simp(disch:=omega)only[At6,hc,hil,h1,Ag,simprocAttr];simp[h1,Out.goes]
  ·by_cases h2:c.typ=39
   ·right;simp(disch:=omega)only[At6,hc,hil,h2,Ag,simprocAttr];simp[h2,Out.goes]
   ·left;simp(disch:=omega)only[At6,hc,hil,h1,h2,Ag,simprocAttr];simp[h1,h2]
 ·simp(disch:=omega)only[At6,Int.lt_irrefl,Ag,simprocAttr];simp[Out.goes]
def Bt3 {z:Zone} {q:Ques} {t0:Tk} {N:Nat} (hz:z.wf) (ho:ZOk z) (hna:Fc0 z) (hl:z.recs.length≤60) (hq:q.wf) (h1:q.typ≠251) (h2:q.typ≠252) (hk:(findM z q).kind=1∨(findM z q).kind=5∨(findM z q).kind=6) (ht:TOk t0 0) (hN:N≤11)
  (hI:∀j,j<N→SInv z q j (tS z t0 j)):∀i,i≤N→TOk (tS z t0 i) (8*i)
 |0,_=>ht
 |i+1,hi=>by
  have ih:=Bt3 hz ho hna hl hq h1 h2 hk ht hN hI i (by omega);obtain⟨_,r2,_⟩:=Vj ho hna h1 h2 hk (by omega) (hI i (by omega));have hs:(sendT (tS z t0 i) srv).2.1.q=(nextQ q z.origin (tS z t0 i).more).1:=by rw[r2];rfl
  have:=Cq2 hz hl ih (by rw[hs];exact fg hq) (by rw[r2];show Im 0;unfold Im;simp) (by rw[r2];show Im 0;unfold Im;simp) (by omega);rw[show 8*(i+1)=8*i+8 by omega];exact this
def Dl0 (z:Zone) (q:Ques) (t0:Tk) (N:Nat) (hz:z.wf) (ho:ZOk z) (hna:Fc0 z) (hl:z.recs.length≤60) (hq:q.wf) (h1:q.typ≠251) (h2:q.typ≠252) (hk:(findM z q).kind=1∨(findM z q).kind=5∨(findM z q).kind=6) (ht:TOk t0 0) (hN:N≤11)
  (hI:∀j,j<N→SInv z q j (tS z t0 j)) (hF:Fin3 z q (tS z t0 N)) (p1 p2 p3 p4 p6:PV):
  Hw5.ev S 100 [z.pv,p1,p2,p3,p4,t0.pv,p6]=some (.yld 0 (tS z t0 N).cells):=by
 refine Gh N (fun i=> .i .i64 (i:Int)::(tS z t0 i).cells) (fun _=> .yld 0 (tS z t0 N).cells) ?_ (by omega) (fun i hi=> ?_) ?_
 ·rw[show tS z t0 0=t0 from rfl];simp(disch:=omega)only[U8,EVA,EVT,Ag,simprocAttr]
 ·left;refine⟨?_,rfl⟩;have hT:=Bt3 hz ho hna hl hq h1 h2 hk ht hN hI i (by omega);have hS:=hI i hi;obtain⟨r1,r2,r3⟩:=Vj ho hna h1 h2 hk (by omega) hS;have hs:=Ck1 (tS z t0 i) srv hT;have hTu:=hT.send srv;have hmq:(sendT (tS z t0 i) srv).2.1.q=(nextQ q z.origin (tS z t0 i).more).1:=by rw[r2];rfl
  have hqw:(sendT (tS z t0 i) srv).2.1.q.wf:=by rw[hmq];exact fg hq
  have hqn:(sendT (tS z t0 i) srv).2.1.q.name.length≤9223372036854775807:=hqw.name;have hr:=Zh z (sendT (tS z t0 i) srv).2.1 hz hl hqn;have hM:=Pf z (sendT (tS z t0 i) srv).2.1 hz hl (by rw[r2];show Im 0;unfold Im;simp) (by rw[r2];show Im 0;unfold Im;simp) hqw;have hv:=Bk3 (sendT (tS z t0 i) srv).1 srv (respondM z (sendT (tS z t0 i) srv).2.1) hTu hM;have e:Mb (sendT (tS z t0 i) srv).1 srv (respondM z (sendT (tS z t0 i) srv).2.1)=tS z t0 (i+1):=rfl;rw[e] at hv;rw[r1] at hs;have hst:=hS.state;have hi12:(i:Int)<12:=by omega
  clear hT hS hTu hM hqw hqn hmq r2 r1 r3 e hI hF;generalize (sendT (tS z t0 i) srv).1=u at*;generalize (sendT (tS z t0 i) srv).2.1=m at*;generalize respondM z m=rm at*;generalize tS z t0 (i+1)=t' at*;generalize tS z t0 i=g at*;unfold srv at hs hv;obtain⟨gq,gn,gz,gh,ga,gt,gs,gm,gd,gk,gse,gc,gl,ge⟩:=g;simp only at hst;subst hst;simp(disch:=omega)only[At6,hs,hr,hv,hi12,U8,EVA,EVT,Ag,simprocAttr]
 ·refine⟨?_,rfl⟩;have hst:=hF.state;have hi12:(N:Int)<12:=by omega
  generalize tS z t0 N=g at*;clear hF hI;obtain⟨gq,gn,gz,gh,ga,gt,gs,gm,gd,gk,gse,gc,gl,ge⟩:=g;simp only at hst;subst hst;simp(disch:=omega)only[At6,hi12,U8,EVA,EVT,Ag,simprocAttr]
def Cj0 {z:Zone} {q:Ques} (hu:under q.name z.origin=true) (hk:knw q.typ=true∨q.typ=255):(startT q z.origin [] [srv]).2=0∧SInv z q 0 (startT q z.origin [] [srv]).1:=by unfold startT;rw[if_neg (by rw[hu];simp),if_neg (by rintro⟨a,b⟩;rcases hk with c|c;rw[a] at c;cases c;exact b c)];refine⟨rfl,?_⟩;unfold Fq;rw[if_pos (by simp)];exact⟨rfl,rfl,rfl,rfl,rfl,rfl,rfl,rfl,rfl,rfl,by show (0:Int)≤0;omega,by show (0:Int)≤10;omega,.inr (by show ((0:Nat):Int)≤0;omega)⟩
def Fs9 {z:Zone} {q:Ques} {t:Tk} (h:Fin3 z q t) (hw:(respondM z (qM q)).ans.filter (inZ z.origin)=(respondM z (qM q)).ans):∃au ex,Hj9 t=(⟨0,0,(respondM z (qM q)).code,true,false,false,false,false,false,false,false,0,q,(respondM z (qM q)).ans,au,ex⟩,true):=by refine⟨t.last.auth,t.last.ext,?_⟩;unfold Hj9;rw[if_pos h.state,h.chain,h.qq,h.last];have e:(insideM (dsM (respondM z (qM q))) z.origin).ans=(respondM z (qM q)).ans:=hw;rw[e];rfl
def law_IterateServer (z:Zone) (q:Ques) (hz:z.wf) (hq:q.wf):S Hv9 2 [z.pv,q.pv]=some [.b true]:=by
 refine Jy2 (N:=100) rfl ?_;have ka:=Bh8;have hqn:q.name.length≤9223372036854775807:=hq.name;by_cases h3:z.recs.length≤60
 ·have h3':¬(z.recs.length:Int)>60:=by omega
  by_cases h4:q.name.length≤300
  ·have h4':¬(q.name.length:Int)>300:=by omega
   have k2:=Dm0 z hz (by omega);by_cases h5:b9 z=0
   ·have ho:=Dy6 h5;rw[h5] at k2;have l0:=fun p1 p2 p3=>Dl1 z h3 p1 p2 p3;rcases Bm (Fn1 z) with h6|h6
    ·rw[h6] at l0;have hna:=Fn0 h6;have k3:=Dv2 z q hz (by omega) hqn;by_cases hk:(findM z q).kind=1∨(findM z q).kind=5∨(findM z q).kind=6
     ·have hu:=Ot (z:=z) (q:=q) (by omega);have k4:=start_ok q z.origin [] [srv] hq hz.origin (by simp) (by simp) (by simp);by_cases hkn:knw q.typ=true∨q.typ=255
      ·have n1:q.typ≠251:=fun e=>by
        rw[e] at hkn;rcases hkn with c|c
        ·exact absurd c (by decide)
        ·omega
       have n2:q.typ≠252:=fun e=>by
        rw[e] at hkn;rcases hkn with c|c
        ·exact absurd c (by decide)
        ·omega
       obtain⟨s1,s2⟩:=Cj0 hu hkn;have hT0:=TOk.start (q:=q) (zone:=z.origin) (hosts:=[]) (addrs:=[srv]) hq hz.origin (by simp);rw[s1] at k4;generalize (startT q z.origin [] [srv]).1=t0 at*;obtain⟨N,_,hN,hI,hF⟩:=nv (t0:=t0) ho hna n1 n2 hk 10 0 rfl s2;have l1:=fun p1 p2 p3 p4 p6=>Dl0 z q t0 N hz ho hna h3 hq n1 n2 hk hT0 hN (fun j hj=>hI j (Dr _) hj) hF p1 p2 p3 p4 p6;have hTN:=Bt3 hz ho hna h3 hq n1 n2 hk hT0 hN (fun j hj=>hI j (Dr _) hj) N (B7 _);have hM:=Pf z (qM q) hz h3 (by show Im 0;unfold Im;simp) (by show Im 0;unfold Im;simp) hq;have k6:=Zh z (qM q) hz h3 hqn;have hL:LInv (tS z t0 N):=by
        have hMi:=(show MOk (dsM (respondM z (qM q))) from⟨⟨hM.wf.id,hM.wf.op,hM.wf.code,by show Im 1232;unfold Im;simp,hM.wf.q,hM.wf.ans,hM.wf.auth,hM.wf.ext⟩,hM.ans,hM.auth,hM.ext⟩).inside z.origin;refine⟨?_,?_,?_⟩
        ·rw[hF.last];exact hMi.ans
        ·rw[hF.last];exact hMi.auth
        ·rw[hF.last];exact hMi.ext
       have k5:=Fl3 (tS z t0 N) hTN hL;have hst:=hF.state;obtain⟨au,ex,er⟩:=Fs9 hF (Dp5 ho n1 n2 hk);rw[er] at k5;have k7:=Yg (respondM z (qM q)).ans (by have:=hM.ans;omega);have hcode:=hM.wf.code;clear hF hI hTN hL hM er;generalize tS z t0 N=tN at*;unfold qM at k5 k6 k7;generalize respondM z ⟨0,0,0,false,false,false,false,false,false,false,false,0,q,[],[],[]⟩=R at*;generalize findM z q=f at*;unfold srv at k4;obtain⟨gq,gn,gz,gh,ga,gt,gs,gm,gd,gk,gse,gc,gl,ge⟩:=tN;simp only at hst;subst hst;rcases hk with hk|hk|hk<;>simp(disch:=omega)only[At6,ka,h3',h4',k2,l0,k3,hk,k4,l1,k5,k6,k7,U8,EVA,EVT,EVM,EVR,Ah,simprocAttr]
      ·have he:startT q z.origin [] [srv]=(zTk,4):=by unfold startT;rw[if_neg (by rw[hu];simp),if_pos (by simpa [not_or] using hkn)]
       rw[he] at k4;generalize findM z q=f at*;generalize zTk=tz at*;unfold srv at k4;rcases hk with hk|hk|hk<;>simp(disch:=omega)only[At6,ka,h3',h4',k2,l0,k3,hk,k4,EVA,EVT,EVM,EVR,Ah,simprocAttr]
     ·simp only[not_or] at hk;generalize findM z q=f at*;simp(disch:=omega)only[At6,ka,h3',h4',k2,l0,k3,hk.1,hk.2.1,hk.2.2,EVA,EVT,EVM,EVR,Ah,simprocAttr]
    ·rw[h6] at l0;simp(disch:=omega)only[At6,ka,h3',h4',k2,l0,EVA,EVT,EVM,EVR,Ah,simprocAttr]
     try simp
   ·simp(disch:=omega)only[At6,ka,h3',h4',k2,h5,EVA,EVT,EVM,EVR,Ah,simprocAttr]
  ·have h4':(q.name.length:Int)>300:=by omega
   have h3'':¬(z.recs.length:Int)>60:=by omega
   simp(disch:=omega)only[At6,ka,h3'',h4',EVA,EVT,EVM,EVR,Ah,simprocAttr]
 ·have h3':(z.recs.length:Int)>60:=by omega
  simp(disch:=omega)only[At6,ka,h3',EVA,EVT,EVM,EVR,Ah,simprocAttr]
end Go.X.G
