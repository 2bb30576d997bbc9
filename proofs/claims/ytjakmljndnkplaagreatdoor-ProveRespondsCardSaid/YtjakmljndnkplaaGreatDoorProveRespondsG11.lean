/- prove: the records that deny, by the program and by the document. -/
import Derived.Test.YtjakmljndnkplaaGreatDoorProveRespondsG10
import Derived.Test.YtjakmljndnkplaaGreatDoorProveRespondsG9
open Bool renaming eq_false_or_eq_true->Bl,and_eq_true->Bs,false_eq_true->B5,or_eq_true->Cy,eq_iff_iff->D7,and_true->Ac2
open Int renaming lt_irrefl->Fq
open List renaming getElem?_eq_some_iff->Bp,length_append->Br,getElem?_eq_getElem->Bt,mem_of_getElem?->B8,length_cons->B9,append_assoc->Cj,mem_cons->Cq,getElem?_append_right->Cb,pairwise_cons->Cd,length_pos_iff->Cg,getElem?_append_left->Cp,mem_filter->Cs,mem_append->Ct,length_nil->C1,mem_singleton->C6,nil_append->C8,length_singleton->Dx,any_eq_true->Dc,length_filter_le->Dr,length_map->Dt,getElem?_cons_zero->D2,append_nil->Eb,filter_cons_of_pos->Er,mem_map->Es,take_length->E3,getElem_mem->Fw,flatMap_cons->Fy,filter_cons_of_neg->G9,map_cons->Hh,pairwise_iff_getElem->H0,getLast?_eq_getElem?->H1,take_append_of_le_length->H9,mem_of_getLast?->I5,getLast?_eq_some_getLast->L0,findIdx?_cons->Pd,exists_cons_of_ne_nil->Pf,mem_of_find?_eq_some->Sr,mem_flatMap->Fh9
open Nat renaming le_refl->B7,zero_le->C3,le_trans->D4,sub_self->Tn
open Option renaming map_some->Cf,getD_some->Dm
open Option.some renaming injEq->Bn
set_option maxHeartbeats 1000000
set_option linter.defProp false
set_option linter.unusedVariables false
set_option linter.unusedSimpArgs false
namespace Go.X.G
open Go Go.X
def Ac:=And.intro xe<|And.intro EVP EV
def Ab:=And.intro EVC<|And.intro xe<|And.intro EVP EV
def Az:=And.intro EVM<|And.intro EVC<|And.intro xe<|And.intro EVP EV
def Fg3 (l:List Rec) (x:Rec) (hl:l.length<=100000000):∃k:Int,(0<=k↔x∈l)∧S Bn2 2 [B4 l,x.pv]=some [.i .i64 k]:=by
 have key:Ep4.ev S (l.length+1) [B4 l,x.pv]=some (match l.findIdx? (·=x) with|some j=> .ret [.i .i64 ((0+j:Nat):Int)]|none=> .yld 0 []):=by
  refine Et l (fun i=>[.i .i64 (i:Int)]) (fun i r=>match r.findIdx? (·=x) with|some j=> .ret [.i .i64 ((i+j:Nat):Int)]|none=> .yld 0 []) rfl (by omega) (fun i c r hd hi hc=> ?_) ?_
  .by_cases h:x=c
   .right;subst h;simp(disch:=omega)only[wn,hc,Ab,simprocAttr];simp[Pd,Out.goes]
   .left;have h':¬c=x:=fun e=>h e.symm;simp(disch:=omega)only[wn,hc,h,Ab,simprocAttr];refine⟨trivial,?_⟩;simp only[Pd,h',decide_false,B5,if_false];cases r.findIdx? (·=x) with
    |none=>rfl
    |some j=>simp;omega
  .simp(disch:=omega)only[wn,Ab,simprocAttr];simp[Out.goes]
 cases h:l.findIdx? (·=x) with
 |none=>
  rw[h] at key;refine⟨-1,⟨fun q=>by omega,fun q=> ?_⟩,?_⟩
  .rw[List.findIdx?_eq_none_iff] at h;have:=h x q;simp at this
  .refine Gp2 (N:=l.length+1) rfl ?_;simp(disch:=omega)only[wn,key,Ab,simprocAttr]
 |some j=>
  rw[h] at key;refine⟨((0+j:Nat):Int),⟨fun _=> ?_,fun _=>by omega⟩,?_⟩
  .rw[List.findIdx?_eq_some_iff_getElem] at h;obtain⟨h1,h2,_⟩:=h;simp at h2;rw[<-h2];exact Fw _
  .refine Gp2 (N:=l.length+1) rfl ?_;simp(disch:=omega)only[wn,key,Ab,simprocAttr]
def Yf (l:List Rec) (x:Rec) (hl:l.length<=100000000):S Ec2 2 [B4 l,x.pv]=some [.b (decide (x∈l))]:=by refine Kz1 (N:=1) rfl ?_;obtain⟨k,h1,h2⟩:=Fg3 l x hl;simp(disch:=omega)only[Kj5,h2,Ab,simprocAttr];simp[h1]
def outD (z:Zone) (n:List UInt8):List Rec:=(neededN z n).filter fun r=>decide (r∈z.recs)
def denialN (z:Zone) (n:List UInt8):List Rec:=outD z n++sigsR z (outD z n)
def Eb4 (z:Zone) (hl:z.recs.length<=60):(namesN z).length<=16000:=by
 have h1:=Ub (Gh7 z);have h2:∀l:List Rec,(l.flatMap fun r=>upN z.origin r.name).length<=256*l.length:=by
  intro l
  induction l with
  |nil=>simp
  |cons x r ih=>
   have:=aj z.origin x.name;rw[Fy,Br,B9];omega
 have h3:=h2 (z.recs.filter fun r=>under r.name z.origin && !Oc z r.name);have h4:=Dr (fun r=>under r.name z.origin && !Oc z r.name) z.recs;show (setN (Gh7 z)).length<=16000;unfold Gh7 at h1 ⊢;omega
def j8 {z:Zone} (n:List UInt8) (hl:z.recs.length<=60):(neededN z n).length<=16000:=by
 have h1:(chainN z).length<=16000:=by have h0:=Rr z (minE z);have h2:=Eb4 z hl;rw[Xl];omega
 unfold neededN;split
 .split
  .simp
  .exact D4 (Dr _ _) h1
 .simp
def Cf1 {z:Zone} (hz:z.wf) (n:List UInt8):∀r∈neededN z n,r.wf:=by
 intro r hr;unfold neededN at hr;split at hr
 .split at hr
  .cases hr
  .exact Al7 hz r (Cs.1 hr).1
 .cases hr
def pw {z:Zone} (hz:z.wf) (n:List UInt8):∀r∈outD z n,r.wf:=fun r hr=>Cf1 hz n r (Cs.1 hr).1
def V0 (l:List Rec) (x:Rec) (hl:l.length<=100000000):S Ak2 2 [B4 l,x.pv]=some [.b (decide (x∈l))]:=by
 refine Jw7 (N:=l.length+1) rfl ?_;have key:En7.ev S (l.length+1) [B4 l,x.pv]=some (if(l.any fun c=>decide (c=x))=true then .ret [.b true] else .yld 0 []):=by
  refine Et l (fun i=>[.i .i64 (i:Int)]) (fun i r=>if(r.any fun c=>decide (c=x))=true then .ret [.b true] else .yld 0 []) rfl (by omega) (fun i c r hd hi hc=> ?_) ?_
  .by_cases h:c=x
   .right;simp(disch:=omega)only[Bz7,hc,h,Ab,simprocAttr];simp[h,Out.goes]
   .left;simp(disch:=omega)only[Bz7,hc,h,Ab,simprocAttr];simp[h]
  .simp(disch:=omega)only[Bz7,Ab,simprocAttr];simp[Out.goes]
 have e:(l.any fun c=>decide (c=x))=decide (x∈l):=by rw[D7];simp only[Dc,decide_eq_true_eq];exact⟨fun⟨c,h1,h2⟩=>h2▸h1,fun h=>⟨x,h,rfl⟩⟩
 rw[e] at key;rcases Bl (decide (x∈l)) with h|h<;>rw[h] at key ⊢<;>simp(disch:=omega)only[Bz7,key,Ab,simprocAttr]<;>simp
def Cr2 (z:Zone) (q:Ques) (hz:z.wf) (hl:z.recs.length<=60) (hq:q.name.length<=9223372036854775807):S Gx6 2 [z.pv,q.pv]=some [B4 (denialN z q.name)]:=by
 have k1:=Cp8 z q.name hz (fun _=>Al7 hz) (by omega) hq;have hnl:=j8 q.name hl;have how:=pw hz q.name;have hol:(outD z q.name).length<=16000:=D4 (Dr _ _) hnl;have k2:=Zr z (outD z q.name) hz (by omega) how (by omega);have hsl:=yk z (outD z q.name) hl hol;unfold denialN;have eo:outD z q.name=(neededN z q.name).filter fun r=>decide (r∈z.recs):=rfl;generalize outD z q.name=out at*;generalize neededN z q.name=nl at*;refine Kf2 (N:=nl.length+1) rfl ?_;have key:Hk2.ev S (nl.length+1) [z.pv,q.pv,B4 nl]=some (.yld 0 [B4 ([]++nl.filter fun r=>decide (r∈z.recs))]):=by
  refine Dh nl (fun i (g:List Rec)=>[B4 g,.i .i64 (i:Int)]) (fun i g r=> .yld 0 [B4 (g++r.filter fun r=>decide (r∈z.recs))]) (fun i g=>g.length<=i) [] rfl (C3 _) (by omega) (fun i g c r hd hi hc hI=> ?_) (fun g hI=> ?_)
  .left;have kc:=Yf z.recs c (by omega);have hil:(i:Int)<(nl.length:Int):=by omega
   by_cases h:c∈z.recs
   .refine⟨g++[c],?_,by simp;omega,by rw[Er (by simp[h]),Cj];rfl⟩;have h':decide (c∈z.recs)=true:=by simp[h]
    rw[h'] at kc;simp(disch:=omega)only[Fm0,hc,hil,kc,Az,simprocAttr]
   .refine⟨g,?_,by omega,by rw[G9 (by simp[h])]⟩;have h':decide (c∈z.recs)=false:=by simp[h]
    rw[h'] at kc;simp(disch:=omega)only[Fm0,hc,hil,kc,Az,simprocAttr]
  .simp(disch:=omega)only[Fm0,Fq,Az,simprocAttr];simp[Out.goes]
 rw[C8,<-eo] at key;generalize sigsR z out=sg at*;simp(disch:=omega)only[Fm0,k1,k2,key,Az,simprocAttr]
def Bx6 (z:Zone) (q:Ques) (hz:z.wf) (hl:z.recs.length<=60) (hq:q.name.length<=9223372036854775807):S Gq6 2 [z.pv,q.pv]=some [B4 (denialN z q.name)]:=by
 have k1:=Bx3 z q.name hz (fun _=>Al7 hz) (by omega) hq;have hnl:=j8 q.name hl;have how:=pw hz q.name;have hol:(outD z q.name).length<=16000:=D4 (Dr _ _) hnl;have k2:=V8 z (outD z q.name) hz (by omega) how (by omega);have hsl:=yk z (outD z q.name) hl hol;unfold denialN;have eo:outD z q.name=(neededN z q.name).filter fun r=>decide (r∈z.recs):=rfl;generalize outD z q.name=out at*;generalize neededN z q.name=nl at*;refine Kx8 (N:=nl.length+1) rfl ?_;have key:Gs1.ev S (nl.length+1) [z.pv,q.pv,B4 nl]=some (.yld 0 [B4 ([]++nl.filter fun r=>decide (r∈z.recs))]):=by
  refine Dh nl (fun i (g:List Rec)=>[B4 g,.i .i64 (i:Int)]) (fun i g r=> .yld 0 [B4 (g++r.filter fun r=>decide (r∈z.recs))]) (fun i g=>g.length<=i) [] rfl (C3 _) (by omega) (fun i g c r hd hi hc hI=> ?_) (fun g hI=> ?_)
  .left;have kc:=V0 z.recs c (by omega);have hil:(i:Int)<(nl.length:Int):=by omega
   by_cases h:c∈z.recs
   .refine⟨g++[c],?_,by simp;omega,by rw[Er (by simp[h]),Cj];rfl⟩;have h':decide (c∈z.recs)=true:=by simp[h]
    rw[h'] at kc;simp(disch:=omega)only[Fl4,hc,hil,kc,Az,simprocAttr]
   .refine⟨g,?_,by omega,by rw[G9 (by simp[h])]⟩;have h':decide (c∈z.recs)=false:=by simp[h]
    rw[h'] at kc;simp(disch:=omega)only[Fl4,hc,hil,kc,Az,simprocAttr]
  .simp(disch:=omega)only[Fl4,Fq,Az,simprocAttr];simp[Out.goes]
 rw[C8,<-eo] at key;generalize sigsR z out=sg at*;simp(disch:=omega)only[Fl4,k1,k2,key,Az,simprocAttr]
def Kh7:Rec:=⟨[120,46],47,5,⟨false,0,0,[42,46,120,46],[],[],0,0,0,0,0,0,211106232533060⟩⟩
def Ed7:Rec:=⟨[42,46,120,46],47,5,⟨false,0,0,[120,46],[],[],0,0,0,0,0,0,211106232532994⟩⟩
def Ag3:Jk J0=0:=by kernel_rfl
def Ag2:namesN J0=[[120,46],[42,46,120,46]]:=by unfold namesN;rw[<-cg];kernel_rfl
def Cx9:cutsN J0=[]:=by unfold cutsN;rw[<-cg];kernel_rfl
def Ag4:chainN J0=[Kh7,Ed7]:=by
 have e:chain0 J0 (minE J0)=[Hn1 [120,46] Kh7,Ed7]:=by
  unfold chain0;rw[Ag2];unfold K1 chBits;rw[Cx9]
  kernel_rfl
 have e2:chainN J0=Av1 2 0 [Hn1 [120,46] Kh7,Ed7]:=by unfold chainN;rw[e];rfl
 exact e2.trans (by kernel_rfl)
def Cx8:findM J0 ⟨[97,46,120,46],43⟩=⟨5,[42,46,120,46],true,[],[]⟩:=by kernel_rfl
def Cx7:neededN J0 [97,46,120,46]=[Ed7]:=by
 unfold neededN;rw[if_pos Ag3,Cx8,Ag4]
 kernel_rfl
def Dn1:denialN J0 [97,46,120,46]=[Ed7]:=by
 unfold denialN outD;rw[Cx7]
 kernel_rfl
structure IsC (z:Zone) (a:Rec):Prop where
 typ:a.typ=47
 nam:a.name∈namesN z
 hid:Oc z a.name=false
 own:∃r∈z.recs,r.name=a.name
 bits:a.data.bits=chBits z a.name
def inC (z:Zone) (n:List UInt8):Prop:=Oc z n=false∧∃r∈z.recs,r.name=n
def Az1 (z:Zone):(chainN z).Pairwise fun a b=>ltN a.name b.name:=by rw[H0];intro i j hi hj hij;obtain⟨a,ha,ea⟩:=Xm (Bt hi);obtain⟨b,hb,eb⟩:=Xm (Bt hj);rw[ea,eb,Bf5,Bf5];obtain⟨hi',ea'⟩:=Bp.1 ha;obtain⟨hj',eb'⟩:=Bp.1 hb;have:=H0.1 (tx z (minE z)) i j hi' hj' hij;rw[ea',eb'] at this;exact this
structure Gap (z:Zone) (a:Rec) (x:List UInt8):Prop where
 mem:a∈chainN z
 lt:ltN a.name x
 und:under x z.origin=true
 host:inC z a.data.host
 nxt:(a.data.host=z.origin∧∀n,inC z n->¬ltN a.name n)∨(a.data.host≠z.origin∧ltN x a.data.host∧∀n,inC z n->ltN a.name n->¬ltN n a.data.host)
def Kp0 (z:Zone) (x:List UInt8):Prop:=starOk (encN z x)=true∧allR z (starN (encN z x))≠[]
inductive MidC (z:Zone) (q:Ques):Prop
 |here (h:exB z q.name=true) (e:findM z q={saysM (allR z q.name) q.typ with owner:=q.name})
 |wild (h:exB z q.name=false) (u:Kp0 z q.name) (e:findM z q={saysM ((allR z (starN (encN z q.name))).map (Ns q.name)) q.typ with owner:=starN (encN z q.name),wild:=true})
 |none (h:exB z q.name=false) (u:¬Kp0 z q.name) (e:findM z q=⟨6,q.name,false,[],[]⟩)
end Go.X.G
/- Chains of aliases; the law LookupChases. -/
namespace Go.X
def Gb (l:List Res):PV:= .l 5 (l.map Res.pv)
def Fs7:PV.l 5 []=Gb []:=rfl
def Ht0 (x:Res):L4 5 [x.pv]=some (Gb [x]):=rfl
def Gz2 (l:List Res):Hj (Gb l)=some (.i .i64 (l.length:Int)):=by simp[Gb,Hj]
def Zx (l:List Res) (k:IntKind) (z:Int) (h:0<=z):H3 5 (Gb l) (.i k z)=(l[z.toNat]?).map Res.pv:=by simp[Gb,Yn _ _ _ _ h]
def Fd2 (l:List Res) (x:Res) (h:l.length+1<=1073741824):Jz 5 (Gb l) (Gb [x])=some (Gb (l++[x])):=by have:=V5 5 (l.map Res.pv) [x.pv] (by simpa using h);simpa [Gb] using this
def Dp0 (l:List Res):J8 (Gb l)=some (Gb l):=rfl
def Eq1 (l:List Res):Dj 0 (Gb l)=some (Gb l):=rfl
set_option linter.defProp false in
def Hk:=(And.intro @Fs7 (And.intro @Ht0 (And.intro @Gz2 (And.intro @Zx (And.intro @Fd2 (And.intro @Dp0 @Eq1))))))
end Go.X
namespace Go.X.G
open Go Go.X
def Av3 (r:Res):Bool:=(decide (r.kind=2)||decide (r.kind=3)) && decide (r.target≠[])
def L9 (z:Zone) (t:Int):Nat->List Res->List (List UInt8)->List UInt8->List Res×Bool
 |0,out,_,_=>(out,false)
 |k+1,out,seen,n=>
  if Av3 (findM z ⟨n,t⟩)=false then(out++[findM z ⟨n,t⟩],true)
  else if out.length=8 then(out++[findM z ⟨n,t⟩],false)
  else if under (findM z ⟨n,t⟩).target z.origin=false then(out++[findM z ⟨n,t⟩],true)
  else if(findM z ⟨n,t⟩).target∈seen then(out++[findM z ⟨n,t⟩],false)
  else L9 z t k (out++[findM z ⟨n,t⟩]) (seen++[(findM z ⟨n,t⟩).target]) (findM z ⟨n,t⟩).target
def Rp (z:Zone) (t:Int) (k:Nat) (out:List Res) (seen:List (List UInt8)) (n:List UInt8):L9 z t (k+1) out seen n=
  if Av3 (findM z ⟨n,t⟩)=false then(out++[findM z ⟨n,t⟩],true)
  else if out.length=8 then(out++[findM z ⟨n,t⟩],false)
  else if under (findM z ⟨n,t⟩).target z.origin=false then(out++[findM z ⟨n,t⟩],true)
  else if(findM z ⟨n,t⟩).target∈seen then(out++[findM z ⟨n,t⟩],false)
  else L9 z t k (out++[findM z ⟨n,t⟩]) (seen++[(findM z ⟨n,t⟩).target]) (findM z ⟨n,t⟩).target:=rfl
def chaseM (z:Zone) (q:Ques):List Res×Bool:=L9 z q.typ 9 [] [q.name] q.name
def Dr6 (n top to:List UInt8):(replN n top to).1.length<=254:=by
 unfold replN;split
 .split
  .split
   .assumption
   .simp
  .simp
 .simp
def bk (l:List Rec) (t:Int) (h:∀r∈l,r.data.host.length<=9223372036854775807):(saysM l t).target.length<=9223372036854775807:=by
 unfold saysM;cases ha:Cp6 l t with
 |some c=>
  unfold Cp6 at ha;split at ha
  .cases ha
  .exact h c (Sr ha)
 |none=>simp only;split<;>simp
def Kq (z:Zone) (q:Ques) (hz:z.wf):(findM z q).target.length<=9223372036854775807:=by
 have hh:∀n,∀r∈allR z n,r.data.host.length<=9223372036854775807:=fun n r hr=>(hz.recs.2 r (Cs.1 hr).1).data.host;unfold findM;split
 .split
  .simp
  .unfold ql;cases h:Bd6 z q.name with
   |some x=>
    show x.target.length<=9223372036854775807;unfold Bd6 at h;cases h2:Cy3 z q.name with
    |none=>rw[h2] at h;cases h
    |some u=>
     rw[h2] at h;simp only[Cf,Bn] at h;rw[<-h];unfold X7;split
     .rename_i r rest _;have:=Dr6 q.name u r.data.host;simp only[ab];split
      .simp
      .omega
     .simp
   |none=>
    simp only;split
    .exact bk _ _ (hh _)
    .unfold oq;split
     .simp only[Dm];refine bk _ _ fun r hr=> ?_;obtain⟨x,hx,rfl⟩:=Es.1 hr;exact hh _ x hx
     .simp
 .simp
def Cj4 (z:Zone) (q:Ques) (hz:z.wf) (hl:z.recs.length<=1000) (hq:q.name.length<=9223372036854775807):S Ed3 2 [z.pv,q.pv]=some [Gb (chaseM z q).1,.b (chaseM z q).2]:=by
 refine Kf4 (N:=1000) rfl ?_;have g1:=hz.origin;unfold Mw at g1;have key:Hk4.ev S 1000 [z.pv,q.pv]=some (.ret [Gb (chaseM z q).1,.b (chaseM z q).2]):=by
  refine I9 (D:=List Res×List (List UInt8)×List UInt8) (fun a=>[Gb a.1,Ch a.2.1,.s a.2.2]) (fun a=> .ret [Gb (L9 z q.typ (9 - a.1.length) a.1 a.2.1 a.2.2).1,.b (L9 z q.typ (9 - a.1.length) a.1 a.2.1 a.2.2).2])
   (fun a=>a.1.length<=8∧a.2.1.length<=100∧a.2.1.length=a.1.length+1∧a.2.2.length<=9223372036854775807) (fun a=>9 - a.1.length) ([],[q.name],q.name) ?_ ⟨by simp,by simp,by simp,hq⟩ (by simp) ?_
  .simp(disch:=omega)only[EVM,EVC,EVR,Hk,Ac,simprocAttr]
  .rintro⟨out,seen,n⟩ ⟨i1,i2,i3,i4⟩;simp only at i1 i2 i3 i4 ⊢;have hk:9 - out.length=(8 - out.length)+1:=by omega
   have k1:=Et7 z ⟨n,q.typ⟩ hz hl i4;have tt:=Kq z ⟨n,q.typ⟩ hz;rw[hk,Rp];generalize hr:findM z ⟨n,q.typ⟩=r at*;have k2:=F9 r.target z.origin tt g1;have k3:=M5 seen r.target (by omega);rcases Bl (Av3 r) with h1|h1
   .rw[if_neg (by simp[h1])];have h1':=h1;unfold Av3 at h1';simp only[Bs,Cy,decide_eq_true_eq,ne_eq] at h1';obtain⟨h2,h3⟩:=h1';have h4:¬(r.kind≠2∧r.kind≠3):=by omega
    by_cases h5:out.length=8
    .right;rw[if_pos h5];have h6:((out++[r]).length:Int)=9:=by simp;omega
     refine⟨?_,rfl⟩;rcases h2 with h2|h2<;>simp(disch:=omega)only[wv,k1,h2,h3,h6,EVM,EVC,EVR,Hk,Ac,simprocAttr]
    .rw[if_neg h5];have h6:¬((out++[r]).length:Int)=9:=by simp;omega
     rcases Bl (under r.target z.origin) with h7|h7
     .rw[if_neg (by simp[h7])];rw[h7] at k2;by_cases h8:r.target∈seen
      .right;rw[if_pos h8];refine⟨?_,rfl⟩;rcases h2 with h2|h2<;>simp(disch:=omega)only[wv,k1,k2,k3,h2,h3,h6,h8,EVM,EVC,EVR,Hk,Ac,simprocAttr]
      .left;rw[if_neg h8];refine⟨(out++[r],seen++[r.target],r.target),?_,⟨by simp only[Br,Dx];omega,by simp only[Br,Dx];omega,by simp only[Br,Dx];omega,tt⟩,by simp only[Br,Dx];omega,?_⟩
       .rcases h2 with h2|h2<;>simp(disch:=omega)only[wv,k1,k2,k3,h2,h3,h6,h8,EVM,EVC,EVR,Hk,Ac,simprocAttr]
       .have:9 - (out++[r]).length=8 - out.length:=by rw[Br,Dx];omega
        simp only[this]
     .right;rw[if_pos h7];rw[h7] at k2;refine⟨?_,rfl⟩;rcases h2 with h2|h2<;>simp(disch:=omega)only[wv,k1,k2,h2,h3,h6,EVM,EVC,EVR,Hk,Ac,simprocAttr]
   .right;rw[if_pos h1];unfold Av3 at h1;refine⟨?_,rfl⟩;by_cases h2:r.kind=2
    .have h3:r.target=[]:=by simpa [h2] using h1
     simp(disch:=omega)only[wv,k1,h2,h3,EVM,EVC,EVR,Hk,Ac,simprocAttr]
    .by_cases h3:r.kind=3
     .have h4:r.target=[]:=by simpa [h3] using h1
      simp(disch:=omega)only[wv,k1,h3,h4,EVM,EVC,EVR,Hk,Ac,simprocAttr]
     .simp(disch:=omega)only[wv,k1,h2,h3,EVM,EVC,EVR,Hk,Ac,simprocAttr]
 simp(disch:=omega)only[wv,key,EVM,EVC,EVR,Hk,Ac,simprocAttr]
def Gz6 (r:Res):S Bn1 1 [r.pv]=some [.b (Av3 r)]:=by
 refine Jx3 (N:=1) rfl ?_;unfold Av3;by_cases h1:r.kind=2
 .simp(disch:=omega)only[Dk9,h1,EVM,EVC,EVR,Hk,Ac,simprocAttr];try simp
 .by_cases h2:r.kind=3
  .simp(disch:=omega)only[Dk9,h2,EVM,EVC,EVR,Hk,Ac,simprocAttr];try simp
  .simp(disch:=omega)only[Dk9,h1,h2,EVM,EVC,EVR,Hk,Ac,simprocAttr];try simp
def yh (z:Zone) (q:Ques) (hz:z.wf) (hl:z.recs.length<=1000) (hq:q.name.length<=9223372036854775807) (hdn:∀u,(findR z.recs u 39).length<=1):S Ec1 2 [z.pv,q.pv]=some [Gb (chaseM z q).1,.b (chaseM z q).2]:=by
 refine Ky7 (N:=1000) rfl ?_;have g1:=hz.origin;unfold Mw at g1;have inner:∀(out:List Res) (seen:List (List UInt8)) (p4 p6 p7:PV) (r:Res),out.length<=8->seen.length<=100->Gr5.ev S 1000 [z.pv,q.pv,Gb out,Ch seen,p4,r.pv,p6,p7]=some (if r.target∈seen then .ret [Gb (out++[r]),.b false] else .yld 2 []):=by
  intro out seen p4 p6 p7 r ho hs;refine Et seen (fun i=>[.i .i64 (i:Int)]) (fun i l=>if r.target∈l then .ret [Gb (out++[r]),.b false] else .yld 2 []) rfl (by omega) (fun i c l hd hi hc=> ?_) ?_
  .by_cases h:c=r.target
   .right;simp(disch:=omega)only[ny,hc,h,EVM,EVC,EVR,Hk,Ac,simprocAttr]
    try simp[Out.goes]
   .left;have h2:¬r.target=c:=fun e=>h e.symm;simp(disch:=omega)only[ny,hc,h,EVM,EVC,EVR,Hk,Ac,simprocAttr]
    try simp[h2]
  .simp(disch:=omega)only[ny,EVM,EVC,EVR,Hk,Ac,simprocAttr]
   try simp[Out.goes]
 have key:Gs9.ev S 1000 [z.pv,q.pv]=some (.ret [Gb (chaseM z q).1,.b (chaseM z q).2]):=by
  refine I9 (D:=List Res×List (List UInt8)×List UInt8) (fun a=>[Gb a.1,Ch a.2.1,.i .i64 (a.1.length:Int)]) (fun a=> .ret [Gb (L9 z q.typ (9 - a.1.length) a.1 a.2.1 a.2.2).1,.b (L9 z q.typ (9 - a.1.length) a.1 a.2.1 a.2.2).2])
   (fun a=>a.1.length<=8∧a.2.1.length<=100∧a.2.1.length=a.1.length+1∧a.2.2.length<=9223372036854775807∧a.2.1[a.1.length]? =some a.2.2) (fun a=>9 - a.1.length) ([],[q.name],q.name) ?_ ⟨by simp,by simp,by simp,hq,rfl⟩ (by simp) ?_
  .simp(disch:=omega)only[EVM,EVC,EVR,Hk,Ac,simprocAttr]
  .rintro⟨out,seen,n⟩ ⟨i1,i2,i3,i4,i5⟩;simp only at i1 i2 i3 i4 i5 ⊢;have hk:9 - out.length=(8 - out.length)+1:=by omega
   have h0:((out.length:Nat):Int)<=8:=by omega
   have k1:=Bd2 z ⟨n,q.typ⟩ hz hl i4 hdn;have tt:=Kq z ⟨n,q.typ⟩ hz;rw[hk,Rp];generalize hr:findM z ⟨n,q.typ⟩=r at*;have k2:=Gj r.target z.origin tt g1;have k3:=fun p4 p6 p7=>inner out seen p4 p6 p7 r i1 i2;have k4:=Gz6 r;have hln:((out++[r]).length:Int)=(out.length:Int)+1:=by simp
   rcases Bl (Av3 r) with h1|h1
   .rw[if_neg (by simp[h1])];rw[h1] at k4;by_cases h5:out.length=8
    .right;rw[if_pos h5];have h6:(8:Int)<((out++[r]).length:Int):=by omega
     refine⟨?_,rfl⟩;simp(disch:=omega)only[ny,h0,i5,k1,k4,h6,EVM,EVC,EVR,Hk,Ac,simprocAttr]
    .rw[if_neg h5];have h6:¬(8:Int)<((out++[r]).length:Int):=by omega
     rcases Bl (under r.target z.origin) with h7|h7
     .rw[if_neg (by simp[h7])];rw[h7] at k2;by_cases h8:r.target∈seen
      .right;rw[if_pos h8];simp only[if_pos h8] at k3;refine⟨?_,rfl⟩;simp(disch:=omega)only[ny,h0,i5,k1,k2,k3,k4,h6,EVM,EVC,EVR,Hk,Ac,simprocAttr]
      .left;rw[if_neg h8];simp only[if_neg h8] at k3;refine⟨(out++[r],seen++[r.target],r.target),?_,⟨by simp only[Br,Dx];omega,by simp only[Br,Dx];omega,by simp only[Br,Dx];omega,tt,?_⟩,by simp only[Br,Dx];omega,?_⟩
       .rw[hln];simp(disch:=omega)only[ny,h0,i5,k1,k2,k3,k4,h6,EVM,EVC,EVR,Hk,Ac,simprocAttr]
       .simp only;rw[Cb (by simp;omega),show (out++[r]).length - seen.length=0 by simp;omega];rfl
       .have:9 - (out++[r]).length=8 - out.length:=by rw[Br,Dx];omega
        simp only[this]
     .right;rw[if_pos h7];rw[h7] at k2;refine⟨?_,rfl⟩;simp(disch:=omega)only[ny,h0,i5,k1,k2,k4,h6,EVM,EVC,EVR,Hk,Ac,simprocAttr]
   .right;rw[if_pos h1];rw[h1] at k4;refine⟨?_,rfl⟩;simp(disch:=omega)only[ny,h0,i5,k1,k4,EVM,EVC,EVR,Hk,Ac,simprocAttr]
 simp(disch:=omega)only[ny,key,EVM,EVC,EVR,Hk,Ac,simprocAttr]
def Lp (P:Res->Prop) (z:Zone) (t:Int) (h:∀n,P (findM z ⟨n,t⟩)):∀(k:Nat) (out:List Res) (seen:List (List UInt8)) (n:List UInt8),(∀r∈out,P r)->∀r∈(L9 z t k out seen n).1,P r
 |0,out,seen,n,ho=>ho
 |k+1,out,seen,n,ho=>by
  have ho':∀r∈out++[findM z ⟨n,t⟩],P r:=fun r hr=>by
   rcases Ct.1 hr with hr|hr
   .exact ho r hr
   .rw[C6.1 hr];exact h n
  unfold L9;split
  .exact ho'
  .split
   .exact ho'
   .split
    .exact ho'
    .split
     .exact ho'
     .exact Lp P z t h k _ _ _ ho'
def mw (z:Zone) (t:Int):∀(k:Nat) (out:List Res) (seen:List (List UInt8)) (n:List UInt8),(L9 z t k out seen n).1.length<=out.length+k
 |0,out,seen,n=>by simp[L9]
 |k+1,out,seen,n=>by
  unfold L9;have hl:(out++[findM z ⟨n,t⟩]).length=out.length+1:=by simp
  split
  .simp only;omega
  .split
   .simp only;omega
   .split
    .simp only;omega
    .split
     .simp only;omega
     .have:=mw z t k (out++[findM z ⟨n,t⟩]) (seen++[(findM z ⟨n,t⟩).target]) (findM z ⟨n,t⟩).target;omega
end Go.X.G
namespace Go.X.G
open Go Go.X
def replyM (m:Msg) (code:Int):Msg:=⟨m.id,m.op,code,true,false,false,m.rd,false,false,m.cd,m.dok,if m.size≠0 then 1232 else 0,m.q,[],[],[]⟩
def Dr4 (m:Msg) (code:Int):S Am4 2 [m.pv,.i .i64 code]=some [(replyM m code).pv]:=by
 refine Kc7 (N:=1) rfl ?_;unfold replyM;by_cases h:m.size=0
 .simp(disch:=omega)only[Ic1,h,EVM,EVC,EVR,Ac,simprocAttr]
  try simp
 .simp(disch:=omega)only[Ic1,h,EVM,EVC,EVR,Ac,simprocAttr]
  try simp
def Dr5 (m:Msg) (code:Int):S Am2 2 [m.pv,.i .i64 code]=some [(replyM m code).pv]:=by
 refine Ky8 (N:=1) rfl ?_;unfold replyM;by_cases h:m.size=0
 .simp(disch:=omega)only[Ib7,h,EVM,EVC,EVR,Ac,simprocAttr]
  try simp
 .simp(disch:=omega)only[Ib7,h,EVM,EVC,EVR,Ac,simprocAttr]
  try simp
def Fp3 (t:Int):Bool:=decide (t=2)||decide (t=15)||decide (t=33)
def hostsF (out:List (List UInt8)):List Rec->List (List UInt8)
 |[]=>out
 |r::rs=>if Fp3 r.typ=true∧r.data.host∉out then hostsF (out++[r.data.host]) rs else hostsF out rs
def Nc:∀(l:List Rec) (out:List (List UInt8)),(hostsF out l).length<=out.length+l.length
 |[],out=>by simp[hostsF]
 |r::rs,out=>by
  simp only[hostsF];split
  .have:=Nc rs (out++[r.data.host]);rw[Br,Dx] at this;rw[B9];omega
  .have:=Nc rs out;rw[B9];omega
def Ob:∀(l:List Rec) (out:List (List UInt8)),(∀r∈l,r.wf)->(∀h∈out,h.length<=9223372036854775807)->∀h∈hostsF out l,h.length<=9223372036854775807
 |[],out,_,ho=>ho
 |r::rs,out,hl,ho=>by
  simp only[hostsF];split
  .refine Ob rs _ (fun x hx=>hl x (.tail _ hx)) fun h hh=> ?_;rcases Ct.1 hh with hh|hh
   .exact ho h hh
   .rw[C6.1 hh];exact(hl r (.head _)).data.host
  .exact Ob rs _ (fun x hx=>hl x (.tail _ hx)) ho
def Es9 (l:List Rec) (hl:l.length<=1000):S Ed1 1 [B4 l]=some [Ch (hostsF [] l)]:=by
 refine Kc5 (N:=2000) rfl ?_;have key:Hj4.ev S 2000 [B4 l]=some (.yld 0 [Ch (hostsF [] l)]):=by
  refine Dh l (fun i (g:List (List UInt8))=>[Ch g,.i .i64 (i:Int)]) (fun i g r=> .yld 0 [Ch (hostsF g r)]) (fun i g=>g.length<=i) [] rfl (C3 _) (by omega) (fun i g c r hd hi hc hI=> ?_) (fun g hI=> ?_)
  .left;have k1:=M5 g c.data.host (by omega);refine⟨if Fp3 c.typ=true∧c.data.host∉g then g++[c.data.host] else g,?_,by split<;>(try rw[Br,Dx])<;>omega,?_⟩
   .unfold Fp3;by_cases h4:c.data.host∈g
    .by_cases h1:c.typ=2
     .simp(disch:=omega)only[gz,hc,h1,h4,k1,EVM,EVC,EVR,Ac,simprocAttr];simp
     .by_cases h2:c.typ=15
      .simp(disch:=omega)only[gz,hc,h2,h4,k1,EVM,EVC,EVR,Ac,simprocAttr];simp
      .by_cases h3:c.typ=33
       .simp(disch:=omega)only[gz,hc,h3,h4,k1,EVM,EVC,EVR,Ac,simprocAttr];simp
       .simp(disch:=omega)only[gz,hc,h1,h2,h3,k1,EVM,EVC,EVR,Ac,simprocAttr];simp[h4]
    .by_cases h1:c.typ=2
     .simp(disch:=omega)only[gz,hc,h1,h4,k1,EVM,EVC,EVR,Ac,simprocAttr];simp
     .by_cases h2:c.typ=15
      .simp(disch:=omega)only[gz,hc,h2,h4,k1,EVM,EVC,EVR,Ac,simprocAttr];simp
      .by_cases h3:c.typ=33
       .simp(disch:=omega)only[gz,hc,h3,h4,k1,EVM,EVC,EVR,Ac,simprocAttr];simp
       .simp(disch:=omega)only[gz,hc,h1,h2,h3,k1,EVM,EVC,EVR,Ac,simprocAttr];simp
   .simp only[hostsF];split<;>rfl
  .simp(disch:=omega)only[gz,EVM,EVC,EVR,Ac,simprocAttr]
   try simp[Out.goes,hostsF]
 simp(disch:=omega)only[gz,key,EVM,EVC,EVR,Ac,simprocAttr]
def Cr1 (l:List Rec) (hl:l.length<=1000):S Ec0 1 [B4 l]=some [Ch (hostsF [] l)]:=by
 refine Ky4 (N:=2000) rfl ?_;have inner:∀(i:Nat) (c:Rec) (g:List (List UInt8)),l[i]? =some c->g.length<=1000->Gr4.ev S 2000 [B4 l,Ch g,.i .i64 (i:Int)]=some (.yld 2 [.b (!Fp3 c.typ||g.any fun h=>decide (h=c.data.host))]):=by
  intro i c g hc hg;refine Dh g (fun k (b:Bool)=>[.b b,.i .i64 (k:Int)]) (fun k b r=> .yld 2 [.b (b||r.any fun h=>decide (h=c.data.host))]) (fun _ _=>True) (!Fp3 c.typ) ?_ trivial (by omega) (fun k b h r hd hk hh _=> ?_) (fun b _=> ?_)
  .unfold Fp3;by_cases h1:c.typ=2
   .simp(disch:=omega)only[hc,h1,EVM,EVC,EVR,Ac,simprocAttr];try simp
   .by_cases h2:c.typ=15
    .simp(disch:=omega)only[hc,h2,EVM,EVC,EVR,Ac,simprocAttr];try simp
    .by_cases h3:c.typ=33
     .simp(disch:=omega)only[hc,h3,EVM,EVC,EVR,Ac,simprocAttr];try simp
     .simp(disch:=omega)only[hc,h1,h2,h3,EVM,EVC,EVR,Ac,simprocAttr];try simp
  .left;refine⟨b||decide (h=c.data.host),?_,trivial,by simp[Bool.or_assoc]⟩;cases b
   .by_cases h5:h=c.data.host
    .simp(disch:=omega)only[v8,hc,hh,h5,EVM,EVC,EVR,Ac,simprocAttr];try simp
    .simp(disch:=omega)only[v8,hc,hh,h5,EVM,EVC,EVR,Ac,simprocAttr];try simp
   .simp(disch:=omega)only[v8,hc,hh,EVM,EVC,EVR,Ac,simprocAttr];try simp
  .simp(disch:=omega)only[v8,EVM,EVC,EVR,Ac,simprocAttr]
   try simp[Out.goes]
 have key:Gs6.ev S 2000 [B4 l]=some (.yld 0 [Ch (hostsF [] l)]):=by
  refine Dh l (fun i (g:List (List UInt8))=>[Ch g,.i .i64 (i:Int)]) (fun i g r=> .yld 0 [Ch (hostsF g r)]) (fun i g=>g.length<=i) [] rfl (C3 _) (by omega) (fun i g c r hd hi hc hI=> ?_) (fun g hI=> ?_)
  .left;have k1:=inner i c g hc (by omega);have e:(g.any fun h=>decide (h=c.data.host))=decide (c.data.host∈g):=by rw[D7];simp
   rw[e] at k1;refine⟨if Fp3 c.typ=true∧c.data.host∉g then g++[c.data.host] else g,?_,by split<;>(try rw[Br,Dx])<;>omega,?_⟩
   .by_cases h4:c.data.host∈g
    .rcases Bl (Fp3 c.typ) with h1|h1<;>rw[h1] at k1<;>simp(disch:=omega)only[v8,hc,h4,k1,EVM,EVC,EVR,Ac,simprocAttr]<;>simp[h1,h4]
    .rcases Bl (Fp3 c.typ) with h1|h1<;>rw[h1] at k1<;>simp(disch:=omega)only[v8,hc,h4,k1,EVM,EVC,EVR,Ac,simprocAttr]<;>simp[h1,h4]
   .simp only[hostsF];split<;>rfl
  .simp(disch:=omega)only[v8,EVM,EVC,EVR,Ac,simprocAttr]
   try simp[Out.goes,hostsF]
 simp(disch:=omega)only[v8,key,EVM,EVC,EVR,Ac,simprocAttr]
def mm (z:Zone) (h:List UInt8):List Rec:=findR z.recs h 1++findR z.recs h 28
def Cv4 (z:Zone) (h:List UInt8):(mm z h).length<=2*z.recs.length:=by have h1:=Gx z h 1;have h2:=Gx z h 28;unfold mm;rw[Br];omega
def qm (z:Zone) (h:List UInt8):List Rec:=if cutN z h=[] then [] else mm z h
def Gc6 (z:Zone) (h:List UInt8):(qm z h).length<=2*z.recs.length:=by
 unfold qm;split
 .simp
 .exact Cv4 z h
def uy (z:Zone) (hs:List (List UInt8)) (hl:z.recs.length<=60) (hh:hs.length<=1000):S Gw6 2 [z.pv,Ch hs]=some [B4 (hs.flatMap (mm z))]:=by
 refine Kc3 (N:=2000) rfl ?_;have key:Hj3.ev S 2000 [z.pv,Ch hs]=some (.yld 0 [B4 ([]++hs.flatMap (mm z))]):=by
  refine Dh hs (fun i (g:List Rec)=>[B4 g,.i .i64 (i:Int)]) (fun i g r=> .yld 0 [B4 (g++r.flatMap (mm z))]) (fun i g=>g.length<=120*i) [] rfl (C3 _) (by omega) (fun i g c r hd hi hc hI=> ?_) (fun g hI=> ?_)
  .left;have k1:=Kb z c 1 (by omega);have k2:=Kb z c 28 (by omega);have h1:=Gx z c 1;have h2:=Gx z c 28;refine⟨g++findR z.recs c 1++findR z.recs c 28,?_,by rw[Br,Br];omega,by simp[mm]⟩;generalize findR z.recs c 1=f1 at*;generalize findR z.recs c 28=f2 at*;have a1:=Gr g f1 (by omega);have a2:=Gr (g++f1) f2 (by rw[Br];omega);simp(disch:=omega)only[Hw6,hc,k1,k2,a1,a2,EVM,EVC,EVR,Ac,simprocAttr]
  .simp(disch:=omega)only[Hw6,EVM,EVC,EVR,Ac,simprocAttr]
   try simp[Out.goes]
 rw[C8] at key;generalize hs.flatMap (mm z)=fm at*;simp(disch:=omega)only[Hw6,key,EVM,EVC,EVR,Ac,simprocAttr]
def iz (z:Zone) (hs:List (List UInt8)) (hl:z.recs.length<=60) (hh:hs.length<=1000):S Gq9 2 [z.pv,Ch hs]=some [B4 (hs.flatMap (mm z))]:=by
 refine Ky2 (N:=2000) rfl ?_;have key:Gs5.ev S 2000 [z.pv,Ch hs]=some (.yld 0 [B4 ([]++hs.flatMap (mm z))]):=by
  refine Dh hs (fun i (g:List Rec)=>[B4 g,.i .i64 (i:Int)]) (fun i g r=> .yld 0 [B4 (g++r.flatMap (mm z))]) (fun i g=>g.length<=120*i) [] rfl (C3 _) (by omega) (fun i g c r hd hi hc hI=> ?_) (fun g hI=> ?_)
  .left;have k1:=Im z c 1 (by omega);have k2:=Im z c 28 (by omega);have h1:=Gx z c 1;have h2:=Gx z c 28;refine⟨g++findR z.recs c 1++findR z.recs c 28,?_,by rw[Br,Br];omega,by simp[mm]⟩;generalize findR z.recs c 1=f1 at*;generalize findR z.recs c 28=f2 at*;have a1:=Gr g f1 (by omega);have a2:=Gr (g++f1) f2 (by rw[Br];omega);simp(disch:=omega)only[Hw5,hc,k1,k2,a1,a2,EVM,EVC,EVR,Ac,simprocAttr]
  .simp(disch:=omega)only[Hw5,EVM,EVC,EVR,Ac,simprocAttr]
   try simp[Out.goes]
 rw[C8] at key;generalize hs.flatMap (mm z)=fm at*;simp(disch:=omega)only[Hw5,key,EVM,EVC,EVR,Ac,simprocAttr]
def Fl1 (z:Zone) (hs:List (List UInt8)) (hz:z.wf) (hl:z.recs.length<=60) (hh:hs.length<=1000) (hw:∀h∈hs,h.length<=9223372036854775807):S Gw7 2 [z.pv,Ch hs]=some [B4 (hs.flatMap (qm z))]:=by
 refine Kc6 (N:=2000) rfl ?_;have key:Hj5.ev S 2000 [z.pv,Ch hs]=some (.yld 0 [B4 ([]++hs.flatMap (qm z))]):=by
  refine Dh hs (fun i (g:List Rec)=>[B4 g,.i .i64 (i:Int)]) (fun i g r=> .yld 0 [B4 (g++r.flatMap (qm z))]) (fun i g=>g.length<=120*i) [] rfl (C3 _) (by omega) (fun i g c r hd hi hc hI=> ?_) (fun g hI=> ?_)
  .left;have k0:=Ct2 z c hz (by omega) (hw c (B8 hc));have k1:=Kb z c 1 (by omega);have k2:=Kb z c 28 (by omega);have h1:=Gx z c 1;have h2:=Gx z c 28;by_cases h3:cutN z c=[]
   .refine⟨g,?_,by omega,by simp[qm,h3]⟩;rw[h3] at k0;simp(disch:=omega)only[Fl8,hc,k0,ne_eq,not_true,decide_false,EVM,EVC,EVR,Ac,simprocAttr]
   .refine⟨g++findR z.recs c 1++findR z.recs c 28,?_,by rw[Br,Br];omega,by simp[mm,qm,h3]⟩;have h4:decide (cutN z c≠[])=true:=by simp[h3]
    rw[h4] at k0;generalize findR z.recs c 1=f1 at*;generalize findR z.recs c 28=f2 at*;have a1:=Gr g f1 (by omega);have a2:=Gr (g++f1) f2 (by rw[Br];omega);simp(disch:=omega)only[Fl8,hc,k0,k1,k2,a1,a2,EVM,EVC,EVR,Ac,simprocAttr]
  .simp(disch:=omega)only[Fl8,EVM,EVC,EVR,Ac,simprocAttr]
   try simp[Out.goes]
 rw[C8] at key;generalize hs.flatMap (qm z)=fm at*;simp(disch:=omega)only[Fl8,key,EVM,EVC,EVR,Ac,simprocAttr]
def Ft1 (z:Zone) (hs:List (List UInt8)) (hz:z.wf) (hl:z.recs.length<=60) (hh:hs.length<=1000) (hw:∀h∈hs,h.length<=9223372036854775807):S Gv1 2 [z.pv,Ch hs]=some [B4 (hs.flatMap (qm z))]:=by
 refine Ky5 (N:=2000) rfl ?_;have key:Gs7.ev S 2000 [z.pv,Ch hs]=some (.yld 0 [B4 ([]++hs.flatMap (qm z))]):=by
  refine Dh hs (fun i (g:List Rec)=>[B4 g,.i .i64 (i:Int)]) (fun i g r=> .yld 0 [B4 (g++r.flatMap (qm z))]) (fun i g=>g.length<=120*i) [] rfl (C3 _) (by omega) (fun i g c r hd hi hc hI=> ?_) (fun g hI=> ?_)
  .left;have k0:=o4 z c hz (by omega) (hw c (B8 hc));have k1:=Im z c 1 (by omega);have k2:=Im z c 28 (by omega);have h1:=Gx z c 1;have h2:=Gx z c 28;by_cases h3:cutN z c=[]
   .refine⟨g,?_,by omega,by simp[qm,h3]⟩;rw[h3] at k0;simp(disch:=omega)only[Fl6,hc,k0,ne_eq,not_true,decide_false,EVM,EVC,EVR,Ac,simprocAttr]
   .refine⟨g++findR z.recs c 1++findR z.recs c 28,?_,by rw[Br,Br];omega,by simp[mm,qm,h3]⟩;have h4:decide (cutN z c≠[])=true:=by simp[h3]
    rw[h4] at k0;generalize findR z.recs c 1=f1 at*;generalize findR z.recs c 28=f2 at*;have a1:=Gr g f1 (by omega);have a2:=Gr (g++f1) f2 (by rw[Br];omega);simp(disch:=omega)only[Fl6,hc,k0,k1,k2,a1,a2,EVM,EVC,EVR,Ac,simprocAttr]
  .simp(disch:=omega)only[Fl6,EVM,EVC,EVR,Ac,simprocAttr]
   try simp[Out.goes]
 rw[C8] at key;generalize hs.flatMap (qm z)=fm at*;simp(disch:=omega)only[Fl6,key,EVM,EVC,EVR,Ac,simprocAttr]
def fz (name:List UInt8) (r:Res):Rec:=⟨name,5,((r.recs[0]?).map Rec.ttl).getD 0,⟨false,0,0,r.target,[],[],0,0,0,0,0,0,0⟩⟩
def ux (name:List UInt8) (r:Res):List Rec:=
 if r.kind=2∨r.kind=1 then r.recs else if r.kind=3 then(if r.target=[] then r.recs else r.recs++[fz name r]) else []
def ansF (name:List UInt8) (acc:List Rec):List Res->List Rec
 |[]=>acc
 |r::rs=>ansF r.target (acc++ux name r) rs
structure RsOk (l:List Res):Prop where
 len:l.length<=9
 recs:∀r∈l,r.recs.length<=60
 red:∀r∈l,r.kind=3->r.recs≠[]
def f5 (name:List UInt8) (r:Res) (h:r.recs.length<=60):(ux name r).length<=61:=by
 unfold ux;split
 .omega
 .split
  .split
   .omega
   .rw[Br,Dx];omega
  .simp
def Cq7:∀(l:List Res) (name:List UInt8) (acc:List Rec),(∀r∈l,r.recs.length<=60)->(ansF name acc l).length<=acc.length+61*l.length
 |[],name,acc,_=>by simp[ansF]
 |r::rs,name,acc,h=>by have h1:=f5 name r (h r (.head _));have:=Cq7 rs r.target (acc++ux name r) fun x hx=>h x (.tail _ hx);rw[Br] at this;simp only[ansF,B9];omega
def Az8 (l:List Res) (name:List UInt8) (h:RsOk l):S Gv2 2 [Gb l,.s name]=some [B4 (ansF name [] l)]:=by
 refine Ky6 (N:=1000) rfl ?_;have hl:=h.len;have key:Gs8.ev S 1000 [Gb l,.s name]=some (.yld 0 [B4 (ansF name [] l)]):=by
  refine Dh l (fun i (g:List UInt8×List Rec)=>[.s g.1,B4 g.2,.i .i64 (i:Int)]) (fun i g r=> .yld 0 [B4 (ansF g.1 g.2 r)]) (fun i g=>g.2.length<=61*i) (name,[]) (by simp(disch:=omega)only[EVM,EVC,EVR,Hk,Ac,simprocAttr]) (C3 _) (by omega) (fun i g c r hd hi hc hI=> ?_) (fun g hI=> ?_)
  .left;obtain⟨nm,g⟩:=g;simp only at hI;have hcm:=B8 hc;have h1:=h.recs c hcm;have a1:=Gr g c.recs (by omega);have hal:=f5 nm c h1;refine⟨(c.target,g++ux nm c),?_,by simp only[Br];omega,rfl⟩;unfold ux;by_cases h2:c.kind=2
   .simp(disch:=omega)only[Ad4,hc,h2,a1,EVM,EVC,EVR,Hk,Ac,simprocAttr]
    try simp
   .by_cases h3:c.kind=1
    .simp(disch:=omega)only[Ad4,hc,h2,h3,a1,EVM,EVC,EVR,Hk,Ac,simprocAttr]
     try simp
    .by_cases h4:c.kind=3
     .have h5:=h.red c hcm h4;obtain⟨r0,rr,hr⟩:=Pf h5;have hix:H3 16 (B4 c.recs) (.i .i64 0)=some r0.pv:=by rw[Kc _ _ _ (by omega),hr];rfl
      have h8:(c.recs[0]?).map Rec.ttl=some r0.ttl:=by rw[hr];rfl
      have h9:(g++c.recs).length<=1000:=by rw[Br];omega
      by_cases h6:c.target=[]
      .simp(disch:=omega)only[Ad4,hc,h2,h3,h4,h6,a1,EVM,EVC,EVR,Hk,Ac,simprocAttr]
       try simp[h6]
      .have h7:g++(c.recs++[fz nm c])=(g++c.recs)++[fz nm c]:=by simp
       simp only[h4,h6,if_true,if_false,h7,show¬((3:Int)=2∨(3:Int)=1) by omega];unfold fz;rw[h8];generalize g++c.recs=gc at*;simp(disch:=omega)only[Ad4,hc,h4,h6,a1,hix,Dm,EVM,EVC,EVR,Hk,Ac,simprocAttr]
     .simp(disch:=omega)only[Ad4,hc,h2,h3,h4,EVM,EVC,EVR,Hk,Ac,simprocAttr]
      try simp[h2,h3,h4]
  .simp(disch:=omega)only[Ad4,EVM,EVC,EVR,Hk,Ac,simprocAttr]
   try simp[Out.goes,ansF]
 simp(disch:=omega)only[Ad4,key,EVM,EVC,EVR,Hk,Ac,simprocAttr]
def Hn6 (z:Zone) (m:Msg) (l:List Res) (p3 p4 p5:PV) (h:RsOk l):Hk7.ev S 1000 [z.pv,m.pv,Gb l,p3,p4]=some (.yld 0 [B4 (ansF m.q.name [] l)]):=by
 have hl:=h.len;refine Dh l (fun i (g:List UInt8×List Rec)=>[.s g.1,.i .i64 (i:Int),B4 g.2]) (fun i g r=> .yld 0 [B4 (ansF g.1 g.2 r)]) (fun i g=>g.2.length<=61*i) (m.q.name,[]) (by simp(disch:=omega)only[EVM,EVC,EVR,Hk,Ac,simprocAttr]) (C3 _) (by omega) (fun i g c r hd hi hc hI=> ?_) (fun g hI=> ?_)
 .left;obtain⟨nm,g⟩:=g;simp only at hI;have hcm:=B8 hc;have h1:=h.recs c hcm;have a1:=Gr g c.recs (by omega);have hal:=f5 nm c h1;refine⟨(c.target,g++ux nm c),?_,by simp only[Br];omega,rfl⟩;unfold ux;by_cases h2:c.kind=2
  .simp(disch:=omega)only[O7,hc,h2,a1,EVM,EVC,EVR,Hk,Ac,simprocAttr]
   try simp
  .by_cases h3:c.kind=1
   .simp(disch:=omega)only[O7,hc,h2,h3,a1,EVM,EVC,EVR,Hk,Ac,simprocAttr]
    try simp
   .by_cases h4:c.kind=3
    .have h5:=h.red c hcm h4;obtain⟨r0,rr,hr⟩:=Pf h5;have hix:H3 16 (B4 c.recs) (.i .i64 0)=some r0.pv:=by rw[Kc _ _ _ (by omega),hr];rfl
     have h8:(c.recs[0]?).map Rec.ttl=some r0.ttl:=by rw[hr];rfl
     have h9:(g++c.recs).length<=1000:=by rw[Br];omega
     by_cases h6:c.target=[]
     .simp(disch:=omega)only[O7,hc,h2,h3,h4,h6,a1,EVM,EVC,EVR,Hk,Ac,simprocAttr]
      try simp[h6]
     .have h7:g++(c.recs++[fz nm c])=(g++c.recs)++[fz nm c]:=by simp
      simp only[h4,h6,if_true,if_false,h7,show¬((3:Int)=2∨(3:Int)=1) by omega];unfold fz;rw[h8];generalize g++c.recs=gc at*;simp(disch:=omega)only[O7,hc,h4,h6,a1,hix,Dm,EVM,EVC,EVR,Hk,Ac,simprocAttr]
    .simp(disch:=omega)only[O7,hc,h2,h3,h4,EVM,EVC,EVR,Hk,Ac,simprocAttr]
     try simp[h2,h3,h4]
 .simp(disch:=omega)only[O7,EVM,EVC,EVR,Hk,Ac,simprocAttr]
  try simp[Out.goes,ansF]
def Js9 (z:Zone) (o:Msg) (last:Res):Msg:=
 if last.kind=4 then {o with auth:=last.recs,ext:=(hostsF [] last.recs).flatMap (qm z)}
 else if last.kind=5 then {o with auth:=soaR z}
 else if last.kind=6 then {o with auth:=soaR z,code:=3}
 else if last.kind=1 then {o with ext:=(hostsF [] last.recs).flatMap (mm z)}
 else if last.kind=3∧last.target=[] then {o with code:=6}
 else o
def Fs8 (z:Zone) (m:Msg) (l:List Res) (ok:Bool):Msg:=
 match l[0]?,l.getLast? with
 |some r,some last=>
  if r.kind=0 then replyM m 5
  else if ok=false then replyM m 2
  else Js9 z {replyM m 0 with aa:=decide (r.kind≠(4:Int)),ans:=ansF m.q.name [] l} last
 |_,_=>replyM m 0
def respondM (z:Zone) (m:Msg):Msg:=
 if m.op≠0∨m.q.typ=251∨m.q.typ=252 then replyM m 4 else Fs8 z m (chaseM z m.q).1 (chaseM z m.q).2
def Az0 (z:Zone) (t:Int):∀(k:Nat) (out:List Res) (seen:List (List UInt8)) (n:List UInt8),out≠[]->(L9 z t k out seen n).1≠[]
 |0,out,seen,n,h=>h
 |k+1,out,seen,n,h=>by
  rw[Rp];split
  .simp
  .split
   .simp
   .split
    .simp
    .split
     .simp
     .exact Az0 z t k _ _ _ (by simp)
def V1 (z:Zone) (q:Ques):(chaseM z q).1≠[]:=by
 unfold chaseM;rw[Rp];split
 .simp
 .split
  .simp
  .split
   .simp
   .split
    .simp
    .exact Az0 z _ _ _ _ _ (by simp)
def d8 (z:Zone) (q:Ques) (hl:z.recs.length<=60):(findM z q).recs.length<=60∧((findM z q).kind=3->(findM z q).recs≠[]):=by
 have hs:∀(l:List Rec) (t:Int),l.length<=60->(saysM l t).recs.length<=60∧(saysM l t).kind≠3:=fun l t h=>by
  unfold saysM;split
  .simp
  .split
   .simp
   .have:=Q6 l t;exact⟨by simp only;omega,by simp⟩
 unfold findM;split
 .split
  .have:=Gx z (cutN z q.name) 2;exact⟨by simp only;omega,fun h=>by simp at h⟩
  .unfold ql;cases h:Bd6 z q.name with
   |some x=>
    show x.recs.length<=60∧(x.kind=3->x.recs≠[]);unfold Bd6 at h;cases h2:Cy3 z q.name with
    |none=>rw[h2] at h;cases h
    |some u=>
     rw[h2] at h;simp only[Cf,Bn] at h;rw[<-h];unfold X7;split<;>simp
   |none=>
    simp only;split
    .have:=hs (allR z q.name) q.typ (by have:=R3 z q.name;omega);exact⟨this.1,fun h=>absurd h this.2⟩
    .unfold oq;split
     .simp only[Dm];have:=hs ((allR z (starN (encN z q.name))).map (Ns q.name)) q.typ (by rw[Dt];have:=R3 z (starN (encN z q.name));omega);exact⟨this.1,fun h=>absurd h this.2⟩
     .simp
 .simp
def Rn (z:Zone) (q:Ques) (hl:z.recs.length<=60):RsOk (chaseM z q).1:=by
 refine⟨by simpa [chaseM] using mw z q.typ 9 [] [q.name] q.name,?_,?_⟩
 .exact Lp (fun r=>r.recs.length<=60) z q.typ (fun n=>(d8 z ⟨n,q.typ⟩ hl).1) 9 [] [q.name] q.name (by simp)
 .exact Lp (fun r=>r.kind=3->r.recs≠[]) z q.typ (fun n=>(d8 z ⟨n,q.typ⟩ hl).2) 9 [] [q.name] q.name (by simp)
def Gd7 (z:Zone) (q:Ques) (hz:z.wf) (hq:q.name.length<=9223372036854775807):∀r∈(findM z q).recs,r.wf:=by
 have hs:∀(l:List Rec) (t:Int),(∀r∈l,r.wf)->∀r∈(saysM l t).recs,r.wf:=fun l t h r hr=>by
  unfold saysM at hr;cases ha:Cp6 l t with
  |some c=>
   rw[ha] at hr;unfold Cp6 at ha;split at ha
   .cases ha
   .simp only[C6] at hr;rw[hr];exact h c (Sr ha)
  |none=>
   rw[ha] at hr;simp only at hr;split at hr
   .cases hr
   .simp only at hr;unfold typedR at hr;split at hr
    .exact h r hr
    .exact h r (Cs.1 hr).1
 have hal:∀n,∀r∈allR z n,r.wf:=fun n r hr=>hz.recs.2 r (Cs.1 hr).1;intro r hr;unfold findM at hr;split at hr
 .split at hr
  .exact Of hz hr
  .unfold ql at hr;cases h:Bd6 z q.name with
   |some x=>
    rw[h] at hr;simp only at hr;unfold Bd6 at h;cases h2:Cy3 z q.name with
    |none=>rw[h2] at h;cases h
    |some u=>
     rw[h2] at h;simp only[Cf,Bn] at h;rw[<-h] at hr;unfold X7 at hr;split at hr
     .rename_i r0 rest hf;simp only[C6] at hr;rw[hr];exact Of hz (n:=u) (t:=39) (by rw[hf];exact .head _)
     .cases hr
   |none=>
    rw[h] at hr;simp only at hr;split at hr
    .exact hs _ _ (hal _) r hr
    .unfold oq at hr;split at hr
     .simp only[Dm] at hr;refine hs _ _ (fun x hx=> ?_) r hr;obtain⟨y,hy,rfl⟩:=Es.1 hx;have hy:=hal _ y hy;exact⟨hq,hy.typ,hy.ttl,hy.data⟩
     .cases hr
 .cases hr
def Ay9 (z:Zone) (t:Int) (hz:z.wf):∀(k:Nat) (out:List Res) (seen:List (List UInt8)) (n:List UInt8),n.length<=9223372036854775807->(∀r∈out,∀x∈r.recs,x.wf)->∀r∈(L9 z t k out seen n).1,∀x∈r.recs,x.wf
 |0,out,seen,n,_,ho=>ho
 |k+1,out,seen,n,hn,ho=>by
  have ho':∀r∈out++[findM z ⟨n,t⟩],∀x∈r.recs,x.wf:=fun r hr=>by
   rcases Ct.1 hr with hr|hr
   .exact ho r hr
   .rw[C6.1 hr];exact Gd7 z ⟨n,t⟩ hz hn
  rw[Rp];split
  .exact ho'
  .split
   .exact ho'
   .split
    .exact ho'
    .split
     .exact ho'
     .exact Ay9 z t hz k _ _ _ (Kq z ⟨n,t⟩ hz) ho'
def fc (z:Zone) (q:Ques) (hz:z.wf) (hq:q.name.length<=9223372036854775807):∀r∈(chaseM z q).1,∀x∈r.recs,x.wf:=Ay9 z q.typ hz 9 [] [q.name] q.name hq (by simp)
def Fp7 (z:Zone):(soaR z).length<=1:=by unfold soaR;split<;>simp
def Zw (l:List Res) (h:l≠[]) (hl:l.length<=9):H3 5 (Gb l) (.i .i64 ((l.length:Int) - 1))=(l.getLast?).map Res.pv:=by have hp:=Cg.2 h;rw[Zx _ _ _ (by omega),show ((l.length:Int) - 1).toNat=l.length - 1 by omega,H1]
def joinN (l:List Rec):List Rec->List Rec
 |[]=>l
 |r::m=>joinN (if r∈l then l else l++[r]) m
def mem_joinN (x:Rec):∀(m l:List Rec),x∈joinN l m↔x∈l∨x∈m
 |[],l=>by simp[joinN]
 |r::m,l=>by
  unfold joinN;rw[mem_joinN x m,Cq];by_cases h:r∈l
  .rw[if_pos h];constructor
   .rintro (h1|h1)
    .exact .inl h1
    .exact .inr (.inr h1)
   .rintro (h1|rfl|h1)
    .exact .inl h1
    .exact .inl h
    .exact .inr h1
  .rw[if_neg h,Ct,C6,or_assoc]
def Nz:∀(m l:List Rec),∃s,joinN l m=l++s
 |[],l=>⟨[],by simp[joinN]⟩
 |r::m,l=>by
  unfold joinN;split
  .exact Nz m l
  .obtain⟨s,hs⟩:=Nz m (l++[r]);exact⟨r::s,by rw[hs,Cj];rfl⟩
def Mm (k:Nat) (l:List Rec):Prop:=∀i r,k<=i->l[i]? =some r->r∉l.take i
def P4:∀(m l:List Rec) (k:Nat),k<=l.length->Mm k l->Mm k (joinN l m)
 |[],l,k,_,h=>h
 |r::m,l,k,hk,h=>by
  unfold joinN;split
  .exact P4 m l k hk h
  .rename_i hr;refine P4 m (l++[r]) k (by rw[Br];omega) (fun i x hi hx=> ?_);by_cases hlt:i<l.length
   .rw[Cp hlt] at hx;rw[H9 (by omega)];exact h i x hi hx
   .have hi2:i=l.length:=by have:=(Bp.1 hx).1;rw[Br,Dx] at this;omega
    subst hi2;rw[Cb (B7 _),Tn] at hx;simp only[D2,Bn] at hx;subst hx;rw[H9 (B7 _),E3];exact hr
def Ay4 (r:Res):Bool:=decide (r.kind=6)||decide (r.kind=5)||r.wild
def proofsF (z:Zone) (t:Int):List Res->List UInt8->List Rec->List Rec
 |[],_,a=>a
 |r::rs,n,a=>proofsF z t rs r.target (if Ay4 r=true then joinN a (denialN z n) else a)
def Sq (z:Zone) (o:List UInt8):List Rec:=if findR z.recs o 43=[] then findR z.recs o 47 else findR z.recs o 43
def K7 (z:Zone) (q:Ques) (a:List Rec):List Rec:=
 match (chaseM z q).1.getLast? with
 |some last=>if last.kind=4 then joinN (proofsF z q.typ (chaseM z q).1 q.name a) (Sq z last.owner) else proofsF z q.typ (chaseM z q).1 q.name a
 |none=>proofsF z q.typ (chaseM z q).1 q.name a
def proveM (z:Zone) (m:Msg):Msg:=
 if m.dok=false∨(respondM z m).ans.length+(respondM z m).auth.length=0 then respondM z m
 else {respondM z m with ans:=(respondM z m).ans++sigsR z (respondM z m).ans,auth:=joinN (K7 z m.q (respondM z m).auth) (sigsR z (K7 z m.q (respondM z m).auth))}
def Cy2 (z:Zone) (m:Msg) (hz:z.wf) (hl:z.recs.length<=60) (hq:m.q.name.length<=9223372036854775807):S Gx7 2 [z.pv,m.pv]=some [(respondM z m).pv]:=by
 refine Kf9 (N:=1000) rfl ?_;have k1:=Dr4 m;unfold respondM;by_cases h1:m.op=0
 .by_cases h2:m.q.typ=251
  .rw[if_pos (.inr (.inl h2))];have k1:=k1 4;generalize replyM m 4=o at*;simp(disch:=omega)only[O7,h1,h2,k1,EVM,EVC,EVR,Hk,Ac,simprocAttr]
  .by_cases h3:m.q.typ=252
   .rw[if_pos (.inr (.inr h3))];have k1:=k1 4;generalize replyM m 4=o at*;simp(disch:=omega)only[O7,h1,h3,k1,EVM,EVC,EVR,Hk,Ac,simprocAttr]
   .rw[if_neg (by simp[h1,h2,h3])];have k2:=Cj4 z m.q hz (by omega) hq;have hrs:=Rn z m.q hl;have hwf:=fc z m.q hz hq;have hne:=V1 z m.q;generalize chaseM z m.q=cm at*;obtain⟨l,ok⟩:=cm;simp only at k2 hrs hwf hne ⊢;have hlen:=hrs.len;obtain⟨r,rest,hr⟩:=Pf hne;have hr0:l[0]? =some r:=by rw[hr];rfl
    obtain⟨last,hla⟩:∃x,l.getLast? =some x:=⟨_,L0 hne⟩;have hlm:last∈l:=I5 hla;have hli:=Zw l hne hlen;rw[hla,Cf] at hli;have hi0:H3 5 (Gb l) (.i .i64 0)=some r.pv:=by rw[Zx _ _ _ (by omega)];simp[hr0]
    unfold Fs8;rw[hr0,hla];simp only;by_cases h4:r.kind=0
    .rw[if_pos h4];have k1:=k1 5;generalize replyM m 5=o at*;simp(disch:=omega)only[O7,h1,h2,h3,k1,k2,hi0,h4,EVM,EVC,EVR,Hk,Ac,simprocAttr]
    .rw[if_neg h4];cases ok with
     |false=>
      rw[if_pos rfl];have k1:=k1 2;generalize replyM m 2=o at*;simp(disch:=omega)only[O7,h1,h2,h3,k1,k2,hi0,h4,EVM,EVC,EVR,Hk,Ac,simprocAttr]
     |true=>
      rw[if_neg (by simp)];have k1:=k1 0;have k3:=fun p3 p4=>Hn6 z m l p3 p4 .u hrs;have k4:=Es9 last.recs (by have:=hrs.recs last hlm;omega);have hhl:=Nc last.recs [];have hhw:=Ob last.recs [] (hwf last hlm) (by simp);have hrl:=hrs.recs last hlm;rw[C1] at hhl;have k5:=Fl1 z (hostsF [] last.recs) hz hl (by omega) hhw;have k6:=uy z (hostsF [] last.recs) hl (by omega);have k7:=Iz2 z (by omega);unfold Js9;generalize replyM m 0=o at*;generalize ansF m.q.name [] l=an at*;generalize (hostsF [] last.recs).flatMap (qm z)=gl at*;generalize (hostsF [] last.recs).flatMap (mm z)=ad at*;generalize hostsF [] last.recs=ho at*;generalize soaR z=so at*;by_cases e4:last.kind=4
      .simp only[e4,if_true];simp(disch:=omega)only[O7,h1,h2,h3,k1,k2,k3,k4,k5,hi0,hli,h4,e4,EVM,EVC,EVR,Hk,Ac,simprocAttr]
      .by_cases e5:last.kind=5
       .simp only[e5,if_true,show¬(5:Int)=4 by omega,if_false];simp(disch:=omega)only[O7,h1,h2,h3,k1,k2,k3,k7,hi0,hli,h4,e5,EVM,EVC,EVR,Hk,Ac,simprocAttr]
       .by_cases e6:last.kind=6
        .simp only[e6,if_true,show¬(6:Int)=4 by omega,show¬(6:Int)=5 by omega,if_false];simp(disch:=omega)only[O7,h1,h2,h3,k1,k2,k3,k7,hi0,hli,h4,e6,EVM,EVC,EVR,Hk,Ac,simprocAttr]
        .by_cases e1:last.kind=1
         .simp only[e1,if_true,show¬(1:Int)=4 by omega,show¬(1:Int)=5 by omega,show¬(1:Int)=6 by omega,if_false];simp(disch:=omega)only[O7,h1,h2,h3,k1,k2,k3,k4,k6,hi0,hli,h4,e1,EVM,EVC,EVR,Hk,Ac,simprocAttr]
         .by_cases e3:last.kind=3
          .by_cases et:last.target=[]
           .simp only[e3,et,if_true,show¬(3:Int)=4 by omega,show¬(3:Int)=5 by omega,show¬(3:Int)=6 by omega,show¬(3:Int)=1 by omega,if_false,and_self];simp(disch:=omega)only[O7,h1,h2,h3,k1,k2,k3,hi0,hli,h4,e3,et,EVM,EVC,EVR,Hk,Ac,simprocAttr]
           .simp only[e3,et,show¬(3:Int)=4 by omega,show¬(3:Int)=5 by omega,show¬(3:Int)=6 by omega,show¬(3:Int)=1 by omega,if_false,and_false];simp(disch:=omega)only[O7,h1,h2,h3,k1,k2,k3,hi0,hli,h4,e3,et,EVM,EVC,EVR,Hk,Ac,simprocAttr]
          .simp only[e1,e3,e4,e5,e6,if_false,false_and];simp(disch:=omega)only[O7,h1,h2,h3,k1,k2,k3,hi0,hli,h4,e1,e3,e4,e5,e6,EVM,EVC,EVR,Hk,Ac,simprocAttr]
 .rw[if_pos (.inl h1)];have k1:=k1 4;generalize replyM m 4=o at*;simp(disch:=omega)only[O7,h1,k1,EVM,EVC,EVR,Hk,Ac,simprocAttr]
def Ah2 (z:Zone) (m:Msg) (hz:z.wf) (hl:z.recs.length<=60) (hq:m.q.name.length<=9223372036854775807) (hdn:∀u,(findR z.recs u 39).length<=1):S Gx5 2 [z.pv,m.pv]=some [(respondM z m).pv]:=by
 refine Kf1 (N:=1000) rfl ?_;have k1:=Dr5 m;unfold respondM;by_cases h1:m.op=0
 .by_cases h2:m.q.typ=251
  .rw[if_pos (.inr (.inl h2))];have k1:=k1 4;generalize replyM m 4=o at*;simp(disch:=omega)only[Yg,h1,h2,k1,EVM,EVC,EVR,Hk,Ac,simprocAttr]
  .by_cases h3:m.q.typ=252
   .rw[if_pos (.inr (.inr h3))];have k1:=k1 4;generalize replyM m 4=o at*;simp(disch:=omega)only[Yg,h1,h3,k1,EVM,EVC,EVR,Hk,Ac,simprocAttr]
   .rw[if_neg (by simp[h1,h2,h3])];have k2:=yh z m.q hz (by omega) hq hdn;have hrs:=Rn z m.q hl;have hwf:=fc z m.q hz hq;have hne:=V1 z m.q;generalize chaseM z m.q=cm at*;obtain⟨l,ok⟩:=cm;simp only at k2 hrs hwf hne ⊢;have hlen:=hrs.len;obtain⟨r,rest,hr⟩:=Pf hne;have hr0:l[0]? =some r:=by rw[hr];rfl
    obtain⟨last,hla⟩:∃x,l.getLast? =some x:=⟨_,L0 hne⟩;have hlm:last∈l:=I5 hla;have hli:=Zw l hne hlen;rw[hla,Cf] at hli;have hi0:H3 5 (Gb l) (.i .i64 0)=some r.pv:=by rw[Zx _ _ _ (by omega)];simp[hr0]
    unfold Fs8;rw[hr0,hla];simp only;by_cases h4:r.kind=0
    .rw[if_pos h4];have k1:=k1 5;generalize replyM m 5=o at*;simp(disch:=omega)only[Yg,h1,h2,h3,k1,k2,hi0,h4,EVM,EVC,EVR,Hk,Ac,simprocAttr]
    .rw[if_neg h4];cases ok with
     |false=>
      rw[if_pos rfl];have k1:=k1 2;generalize replyM m 2=o at*;simp(disch:=omega)only[Yg,h1,h2,h3,k1,k2,hi0,h4,EVM,EVC,EVR,Hk,Ac,simprocAttr]
     |true=>
      rw[if_neg (by simp)];have k1:=k1 0;have k3:=Az8 l m.q.name hrs;have k4:=Cr1 last.recs (by have:=hrs.recs last hlm;omega);have hhl:=Nc last.recs [];have hhw:=Ob last.recs [] (hwf last hlm) (by simp);have hrl:=hrs.recs last hlm;rw[C1] at hhl;have k5:=Ft1 z (hostsF [] last.recs) hz hl (by omega) hhw;have k6:=iz z (hostsF [] last.recs) hl (by omega);have k7:=Iz1 z (by omega);unfold Js9;generalize replyM m 0=o at*;generalize ansF m.q.name [] l=an at*;generalize (hostsF [] last.recs).flatMap (qm z)=gl at*;generalize (hostsF [] last.recs).flatMap (mm z)=ad at*;generalize hostsF [] last.recs=ho at*;generalize soaR z=so at*;by_cases e4:last.kind=4
      .simp only[e4,if_true];simp(disch:=omega)only[Yg,h1,h2,h3,k1,k2,k3,k4,k5,hi0,hli,h4,e4,EVM,EVC,EVR,Hk,Ac,simprocAttr]
      .by_cases e5:last.kind=5
       .simp only[e5,if_true,show¬(5:Int)=4 by omega,if_false];simp(disch:=omega)only[Yg,h1,h2,h3,k1,k2,k3,k7,hi0,hli,h4,e5,EVM,EVC,EVR,Hk,Ac,simprocAttr]
       .by_cases e6:last.kind=6
        .simp only[e6,if_true,show¬(6:Int)=4 by omega,show¬(6:Int)=5 by omega,if_false];simp(disch:=omega)only[Yg,h1,h2,h3,k1,k2,k3,k7,hi0,hli,h4,e6,EVM,EVC,EVR,Hk,Ac,simprocAttr]
        .by_cases e1:last.kind=1
         .simp only[e1,if_true,show¬(1:Int)=4 by omega,show¬(1:Int)=5 by omega,show¬(1:Int)=6 by omega,if_false];simp(disch:=omega)only[Yg,h1,h2,h3,k1,k2,k3,k4,k6,hi0,hli,h4,e1,EVM,EVC,EVR,Hk,Ac,simprocAttr]
         .by_cases e3:last.kind=3
          .by_cases et:last.target=[]
           .simp only[e3,et,if_true,show¬(3:Int)=4 by omega,show¬(3:Int)=5 by omega,show¬(3:Int)=6 by omega,show¬(3:Int)=1 by omega,if_false,and_self];simp(disch:=omega)only[Yg,h1,h2,h3,k1,k2,k3,hi0,hli,h4,e3,et,EVM,EVC,EVR,Hk,Ac,simprocAttr]
           .simp only[e3,et,show¬(3:Int)=4 by omega,show¬(3:Int)=5 by omega,show¬(3:Int)=6 by omega,show¬(3:Int)=1 by omega,if_false,and_false];simp(disch:=omega)only[Yg,h1,h2,h3,k1,k2,k3,hi0,hli,h4,e3,et,EVM,EVC,EVR,Hk,Ac,simprocAttr]
          .simp only[e1,e3,e4,e5,e6,if_false,false_and];simp(disch:=omega)only[Yg,h1,h2,h3,k1,k2,k3,hi0,hli,h4,e1,e3,e4,e5,e6,EVM,EVC,EVR,Hk,Ac,simprocAttr]
 .rw[if_pos (.inl h1)];have k1:=k1 4;generalize replyM m 4=o at*;simp(disch:=omega)only[Yg,h1,k1,EVM,EVC,EVR,Hk,Ac,simprocAttr]
def Aw6:∀l:List Rec,PV.flat.flats (l.map Rec.pv)=true
 |[]=>by simp[PV.flat.flats]
 |x::l=>by simp only[Hh,PV.flat.flats,Aw6 l,Ac2];simp[Rec.pv,Rec.cells,Dat.cells,PV.flat,PV.flat.flats]
def qt (l:List Rec):Ch0 (B4 l)=some (B4 l):=by unfold Ch0 B4;simp only[Aw6,if_true]
def R5 (l m:List Rec) (hl:l.length+m.length<=100000000):S Cf4 1048578 [B4 l,B4 m]=some [B4 (joinN l m)]:=by
 refine Kf3 (N:=m.length+1) rfl ?_;have key:Hk3.ev S (m.length+1) [B4 l,B4 m]=some (.yld 0 [B4 (joinN l m)]):=by
  refine Dh m (fun i (g:List Rec)=>[B4 g,.i .i64 (i:Int)]) (fun i g r=> .yld 0 [B4 (joinN g r)]) (fun i g=>g.length<=l.length+i) l rfl (by omega) (by omega) (fun i g c r hd hi hc hI=> ?_) (fun g hI=> ?_)
  .left;have kc:=Yf g c (by omega);have hil:(i:Int)<(m.length:Int):=by omega
   refine⟨if c∈g then g else g++[c],?_,by split<;>(try rw[Br,Dx])<;>omega,by simp only[joinN]⟩;by_cases h:c∈g
   .have h':decide (c∈g)=true:=by simp[h]
    rw[h'] at kc;rw[if_pos h];simp(disch:=omega)only[Fm1,hc,hil,kc,Ab,simprocAttr]
   .have h':decide (c∈g)=false:=by simp[h]
    rw[h'] at kc;rw[if_neg h];simp(disch:=omega)only[Fm1,hc,hil,kc,Ab,simprocAttr]
  .simp(disch:=omega)only[Fm1,Fq,Ab,simprocAttr];simp[Out.goes,joinN]
 simp(disch:=omega)only[Fm1,key,Ab,simprocAttr]
def zx {D:Type} [DecidableEq D]:∀(l m:List D),l.Pairwise (fun a b=>a≠b)->(∀x∈l,x∈m)->l.length<=m.length
 |[],m,_,_=>by simp
 |x::l,m,hp,hs=>by rw[Cd] at hp;have hx:=hs x (.head _);have:=zx l (m.erase x) hp.2 fun y hy=>(List.mem_erase_of_ne (hp.1 y hy).symm).2 (hs y (.tail _ hy));rw[List.length_erase_of_mem hx] at this;have hp:=List.length_pos_of_mem hx;rw[B9];omega
def Hp3 (z:Zone) (n:List UInt8):(outD z n).length<=z.recs.length:=by
 refine zx _ _ ?_ fun x hx=>by simpa using (Cs.1 hx).2
 have h:(neededN z n).Pairwise fun a b=>a≠b:=by
  unfold neededN;split
  .split
   .exact .nil
   .refine List.Pairwise.filter _ ((Az1 z).imp fun {a b} h e=> ?_);rw[e] at h;exact to_N.irr _ h
  .exact .nil
 exact h.filter _
def Xh (z:Zone) (n:List UInt8) (hl:z.recs.length<=60):(denialN z n).length<=3660:=by have h1:=Hp3 z n;have h2:=H5 z (outD z n) hl;unfold denialN;rw[Br];omega
def Mt:∀(m l:List Rec),(joinN l m).length<=l.length+m.length
 |[],l=>by simp[joinN]
 |r::m,l=>by
  have h:=Mt m (if r∈l then l else l++[r]);unfold joinN;rw[B9];split at h
  .rename_i hr;rw[if_pos hr];omega
  .rename_i hr;rw[if_neg hr];rw[Br,Dx] at h;omega
def Rk (z:Zone) (t:Int) (hl:z.recs.length<=60):∀(l:List Res) (n:List UInt8) (a:List Rec),(proofsF z t l n a).length<=a.length+3660*l.length
 |[],n,a=>by simp[proofsF]
 |r::l,n,a=>by
  unfold proofsF;have h:=Rk z t hl l r.target (if Ay4 r=true then joinN a (denialN z n) else a);have h1:=Mt (denialN z n) a;have h2:=Xh z n hl;rw[B9];split at h
  .rename_i hd;rw[if_pos hd];omega
  .rename_i hd;rw[if_neg hd];omega
def d6 (f:List UInt8->List Rec) (k:Nat) (h:∀x,(f x).length<=k):∀l:List (List UInt8),(l.flatMap f).length<=k*l.length
 |[]=>by simp
 |x::r=>by have h1:=d6 f k h r;have h2:=h x;rw[Fy,Br,B9,Nat.mul_add];omega
def As7 (z:Zone) (o:List UInt8):(Sq z o).length<=z.recs.length:=by unfold Sq;split<;>exact Gx z o _
def Uf (z:Zone) (m:Msg) (hz:z.wf) (hl:z.recs.length<=60) (hq:m.q.name.length<=9223372036854775807):
  (respondM z m).auth.length<=60∧(respondM z m).ans.length<=600∧(respondM z m).ext.length<=1000000∧(∀r∈(respondM z m).auth,r.wf)∧(∀r∈(respondM z m).ans,r.wf):=by
 have hnil:∀c,(replyM m c).auth=[]∧(replyM m c).ans=[]∧(replyM m c).ext=[]:=fun c=>⟨rfl,rfl,rfl⟩;unfold respondM;split
 .simp[replyM]
 .have hrs:=Rn z m.q hl;have hwf:=fc z m.q hz hq;have htg:∀r∈(chaseM z m.q).1,r.target.length<=9223372036854775807:=Lp (fun r=>r.target.length<=9223372036854775807) z m.q.typ (fun n=>Kq z ⟨n,m.q.typ⟩ hz) 9 [] [m.q.name] m.q.name (by simp);generalize (chaseM z m.q).1=l at*;generalize (chaseM z m.q).2=ok at*;have haw:∀(l:List Res) (n:List UInt8) (acc:List Rec),n.length<=9223372036854775807->(∀r∈l,∀x∈r.recs,x.wf)->(∀r∈l,r.target.length<=9223372036854775807)->(∀x∈acc,x.wf)->∀x∈ansF n acc l,x.wf:=by
   intro l
   induction l with
   |nil=>intro n acc _ _ _ h;exact h
   |cons r l ih=>
    intro n acc hn h1 h2 h3;refine ih r.target _ (h2 r (.head _)) (fun x hx=>h1 x (.tail _ hx)) (fun x hx=>h2 x (.tail _ hx)) fun x hx=> ?_;rcases Ct.1 hx with hx|hx
    .exact h3 x hx
    .unfold ux at hx;split at hx
     .exact h1 r (.head _) x hx
     .split at hx
      .split at hx
       .exact h1 r (.head _) x hx
       .rcases Ct.1 hx with hx|hx
        .exact h1 r (.head _) x hx
        .rw[C6.1 hx];have i0:Wy 0:=⟨by decide,by decide⟩;have u0:Fh4 0:=⟨by decide,by decide⟩;have i5:Wy 5:=⟨by decide,by decide⟩;refine⟨hn,i5,?_,⟨u0,u0,h2 r (.head _),C3 _,C3 _,i0,i0,i0,i0,i0,i0,u0⟩⟩;show Wy (((r.recs[0]?).map Rec.ttl).getD 0);cases h0:r.recs[0]? with
         |none=>exact⟨by decide,by decide⟩
         |some x0=>exact(h1 r (.head _) x0 (B8 h0)).ttl
      .cases hx
  unfold Fs8;split
  .rename_i r last h0 h1;split
   .simp[replyM]
   .split
    .simp[replyM]
    .have ha:=Cq7 l m.q.name [] hrs.recs;have hn:=hrs.len;have hlm:=I5 h1;have hlr:=hrs.recs last hlm;have hh:=Nc last.recs [];have hs:=Fp7 z;have hsw:∀x∈soaR z,x.wf:=fun x hx=>by
      unfold soaR at hx;split at hx
      .cases hx
      .rename_i y _ hy;rw[C6.1 hx];have hyw:=Of hz (n:=z.origin) (t:=6) (r:=y) (by rw[hy];exact .head _);refine⟨hyw.name,hyw.typ,?_,hyw.data⟩;show Wy (if y.data.e<y.ttl then y.data.e else y.ttl);split
       .exact hyw.data.e
       .exact hyw.ttl
     have hg:=d6 (qm z) 120 (fun x=>by have:=Gc6 z x;omega) (hostsF [] last.recs);have hd:=d6 (mm z) 120 (fun x=>by have:=Cv4 z x;omega) (hostsF [] last.recs);have hw:=haw l m.q.name [] hq hwf htg (by simp);rw[C1] at ha hh;unfold Js9;generalize ansF m.q.name [] l=an at*;generalize (hostsF [] last.recs).flatMap (qm z)=gl at*;generalize (hostsF [] last.recs).flatMap (mm z)=ad at*;have n0:∀x∈(replyM m 0).auth,x.wf:=fun x hx=>by cases hx
     split
     .exact⟨hlr,by simp only;omega,by simp only;omega,hwf last hlm,hw⟩
     .split
      .exact⟨by simp only;omega,by simp only;omega,by simp[replyM],hsw,hw⟩
      .split
       .exact⟨by simp only;omega,by simp only;omega,by simp[replyM],hsw,hw⟩
       .split
        .exact⟨by simp[replyM],by simp only;omega,by simp only;omega,n0,hw⟩
        .split
         .exact⟨by simp[replyM],by simp only;omega,by simp[replyM],n0,hw⟩
         .exact⟨by simp[replyM],by simp only;omega,by simp[replyM],n0,hw⟩
  .simp[replyM]
def nmF:List Res->List UInt8->List UInt8
 |[],n=>n
 |r::rs,_=>nmF rs r.target
def Kg6 (z:Zone) (m:Msg) (l:List Res) (a:List Rec) (p2 p3 p4 p7:PV) (hz:z.wf) (hl:z.recs.length<=60) (hll:l.length<=9) (ha:a.length<=60) (ht:∀r∈l,r.target.length<=9223372036854775807) (hq:m.q.name.length<=9223372036854775807):
  Jg7.ev S 1000 [z.pv,m.pv,p2,p3,p4,B4 a,Gb l,p7]=some (.yld 0 [B4 (proofsF z m.q.typ l m.q.name a),.s (nmF l m.q.name)]):=by
 refine Dh l (fun i (g:List UInt8×List Rec)=>[.i .i64 (i:Int),B4 g.2,.s g.1]) (fun i g r=> .yld 0 [B4 (proofsF z m.q.typ r g.1 g.2),.s (nmF r g.1)]) (fun i g=>g.1.length<=9223372036854775807∧g.2.length<=60+3660*i) (m.q.name,a) (by simp(disch:=omega)only[EVM,EVC,EVR,Hk,Ac,simprocAttr]) ⟨hq,by simpa using ha⟩ (by omega) (fun i g c r hd hi hc hI=> ?_) (fun g hI=> ?_)
 .left;obtain⟨nm,g⟩:=g;obtain⟨i1,i2⟩:=hI;simp only at i1 i2;have hcm:=B8 hc;have kd:=Cr2 z ⟨nm,m.q.typ⟩ hz hl i1;simp only at kd;have hdl:=Xh z nm hl;have kj:=R5 g (denialN z nm) (by omega);have hjl:=Mt (denialN z nm) g;have hil:(i:Int)<(l.length:Int):=by omega
  refine⟨(c.target,if Ay4 c=true then joinN g (denialN z nm) else g),?_,⟨ht c hcm,?_⟩,rfl⟩
  .unfold Ay4;generalize joinN g (denialN z nm)=gj at*;generalize denialN z nm=dn at*;by_cases h6:c.kind=6
   .simp(disch:=omega)only[Fh2,hc,hil,h6,kd,kj,Eg,Jr,EVM,EVC,EVR,Hk,Ac,simprocAttr]
    try simp
   .by_cases h5:c.kind=5
    .simp(disch:=omega)only[Fh2,hc,hil,h5,kd,kj,Eg,Jr,EVM,EVC,EVR,Hk,Ac,simprocAttr]
     try simp
    .cases hw:c.wild with
     |true=>
      simp(disch:=omega)only[Fh2,hc,hil,h5,h6,hw,kd,kj,Eg,Jr,EVM,EVC,EVR,Hk,Ac,simprocAttr]
      try simp
     |false=>
      simp(disch:=omega)only[Fh2,hc,hil,h5,h6,hw,kd,kj,Eg,Jr,EVM,EVC,EVR,Hk,Ac,simprocAttr]
      try simp[h5,h6]
  .show List.length (if Ay4 c=true then joinN g (denialN z nm) else g)<=_;split<;>omega
 .simp(disch:=omega)only[Fh2,Fq,EVM,EVC,EVR,Hk,Ac,simprocAttr]
  try simp[Out.goes,proofsF,nmF]
def qd {l m:List Rec} (h1:∀r∈l,r.wf) (h2:∀r∈m,r.wf):∀r∈joinN l m,r.wf:=fun r hr=>by
 rcases (mem_joinN r m l).1 hr with h|h
 .exact h1 r h
 .exact h2 r h
def Fr0 {z:Zone} {l:List Rec} (hz:z.wf) (hw:∀r∈l,r.wf):∀r∈sigsR z l,r.wf:=fun r hr=>by
 unfold sigsR at hr;obtain⟨x,hx,hr⟩:=Fh9.1 hr;have hn:=og l hw x hx;unfold u9 at hr;split at hr
 .cases hr
 .unfold sigsOf at hr;have hc:∀n t,∀y∈covR z n t,y.wf:=fun n t y hy=>hz.recs.2 y (Cs.1 hy).1;split at hr
  .exact hc _ _ r hr
  .split at hr
   .obtain⟨y,hy,rfl⟩:=Es.1 hr;have:=hc _ _ y hy;exact⟨hn,this.typ,this.ttl,this.data⟩
   .cases hr
def Cm7 {z:Zone} (hz:z.wf) (n:List UInt8):∀r∈denialN z n,r.wf:=fun r hr=>by
 unfold denialN at hr;rcases Ct.1 hr with h|h
 .exact pw hz n r h
 .exact Fr0 hz (pw hz n) r h
def Wr {z:Zone} (hz:z.wf) (t:Int):∀(l:List Res) (n:List UInt8) (a:List Rec),(∀r∈a,r.wf)->∀r∈proofsF z t l n a,r.wf
 |[],_,_,h=>h
 |c::l,n,a,h=>by
  unfold proofsF;refine Wr hz t l _ _ ?_;split
  .exact qd h (Cm7 hz n)
  .exact h
def yn (z:Zone) (m:Msg) (hz:z.wf) (hl:z.recs.length<=60) (hq:m.q.name.length<=9223372036854775807):S Jg0 2 [z.pv,m.pv]=some [(proveM z m).pv]:=by
 refine Kr5 (N:=1000) rfl ?_;have k1:=Cy2 z m hz hl hq;obtain⟨b1,b2,b3,w1,w2⟩:=Uf z m hz hl hq;have k2:=Cj4 z m.q hz (by omega) hq;have hrs:=Rn z m.q hl;have hne:=V1 z m.q;have htg:∀r∈(chaseM z m.q).1,r.target.length<=9223372036854775807:=Lp (fun r=>r.target.length<=9223372036854775807) z m.q.typ (fun n=>Kq z ⟨n,m.q.typ⟩ hz) 9 [] [m.q.name] m.q.name (by simp);unfold proveM K7;generalize respondM z m=o at*;generalize chaseM z m.q=cm at*;obtain⟨l,ok⟩:=cm;simp only at k2 hrs hne htg ⊢;have hlen:=hrs.len;obtain⟨last,hla⟩:∃x,l.getLast? =some x:=⟨_,L0 hne⟩;have hli:=Zw l hne hlen;rw[hla,Cf] at hli;rw[hla];simp only;cases hd:m.dok with
 |false=>
  rw[if_pos (.inl rfl)];simp(disch:=omega)only[Fh2,k1,hd,EVM,EVC,EVR,Hk,Ac,simprocAttr]
 |true=>
  by_cases h0:o.ans.length+o.auth.length=0
  .have h0':(o.ans.length:Int)+(o.auth.length:Int)=0:=by omega
   rw[if_pos (.inr h0)];simp(disch:=omega)only[Fh2,k1,hd,h0',EVM,EVC,EVR,Hk,Ac,simprocAttr]
  .have h0':¬(o.ans.length:Int)+(o.auth.length:Int)=0:=by omega
   rw[if_neg (fun h=>h.elim (fun e=>by first|cases e|(rw[hd] at e;cases e)) h0)];have k3:=Q0 o.ans (by omega);have k4:=Zr z o.ans hz hl w2 (by omega);have k5:=Q0 o.auth (by omega);have k6:=fun p2 p3 p4 p7=>Kg6 z m l o.auth p2 p3 p4 p7 hz hl hlen b1 htg hq;have hpl:=Rk z m.q.typ hl l m.q.name o.auth;have hpw:=Wr hz m.q.typ l m.q.name o.auth w1;have hsl:=H5 z o.ans hl;have f1:=qt (sigsR z o.ans);have a1:=Gr o.ans (sigsR z o.ans) (by omega);generalize sigsR z o.ans=sa at*;generalize nmF l m.q.name=nl at*;generalize proofsF z m.q.typ l m.q.name o.auth=pa at*;by_cases h4:last.kind=4
   .rw[if_pos h4];have c1:=Kb z last.owner 43 (by omega);have c2:=Kb z last.owner 47 (by omega);have hdl:=As7 z last.owner;have hdw:∀r∈Sq z last.owner,r.wf:=fun r hr=>by unfold Sq at hr;split at hr<;>exact Of hz hr
    have kj:=R5 pa (Sq z last.owner) (by omega);have hjl:=Mt (Sq z last.owner) pa;have hjw:=qd hpw hdw;have k7:=Zr z (joinN pa (Sq z last.owner)) hz hl hjw (by omega);have hs2:=H5 z (joinN pa (Sq z last.owner)) hl;have f2:=qt (sigsR z (joinN pa (Sq z last.owner)));have k8:=R5 (joinN pa (Sq z last.owner)) (sigsR z (joinN pa (Sq z last.owner))) (by omega);generalize joinN (joinN pa (Sq z last.owner)) (sigsR z (joinN pa (Sq z last.owner)))=r8 at*;generalize sigsR z (joinN pa (Sq z last.owner))=sb at*;generalize joinN pa (Sq z last.owner)=ja at*;unfold Sq at kj hdl;by_cases h5:findR z.recs last.owner 43=[]
    .rw[if_pos h5] at kj hdl;rw[h5] at c1;generalize findR z.recs last.owner 47=fn at*;simp(disch:=omega)only[Fh2,k1,k2,k3,k4,k5,k6,k7,k8,f1,f2,a1,c1,c2,kj,hd,h0',h4,hli,Fj2,Eg,Jr,EVM,EVC,EVR,Hk,Ac,simprocAttr]
    .rw[if_neg h5] at kj hdl;have h6:¬((findR z.recs last.owner 43).length:Int)=0:=by have:=Cg.2 h5;omega
     generalize findR z.recs last.owner 43=fn at*;simp(disch:=omega)only[Fh2,k1,k2,k3,k4,k5,k6,k7,k8,f1,f2,a1,c1,h6,kj,hd,h0',h4,hli,Fj2,Eg,Jr,EVM,EVC,EVR,Hk,Ac,simprocAttr]
   .rw[if_neg h4];have k7:=Zr z pa hz hl hpw (by omega);have hs2:=H5 z pa hl;have f2:=qt (sigsR z pa);have k8:=R5 pa (sigsR z pa) (by omega);generalize joinN pa (sigsR z pa)=r8 at*;generalize sigsR z pa=sb at*;simp(disch:=omega)only[Fh2,k1,k2,k3,k4,k5,k6,k7,k8,f1,f2,a1,hd,h0',h4,hli,Fj2,Eg,Jr,EVM,EVC,EVR,Hk,Ac,simprocAttr]
def Tc:Msg:=⟨0,0,0,false,false,false,false,false,false,false,true,512,⟨[97,46,120,46],1⟩,[],[],[]⟩
def Iy8:Rec:=⟨[97,46,120,46],1,9,⟨false,0,1,[],[],[],0,0,0,0,0,0,0⟩⟩
def am:chaseM J0 ⟨[97,46,120,46],1⟩=([⟨1,[42,46,120,46],true,[],[Iy8]⟩],true):=by
 unfold chaseM;rw[Rp]
 kernel_rfl
def Cx6:(respondM J0 Tc).ans=[Iy8]∧(respondM J0 Tc).auth=[]:=by unfold respondM;rw[if_neg (by decide),show Tc.q=⟨[97,46,120,46],1⟩ from rfl,am];exact⟨rfl,rfl⟩
def Ag1:(proveM J0 Tc).ans=[Iy8,In1]∧(proveM J0 Tc).auth=[Ed7]:=by
 obtain⟨h1,h2⟩:=Cx6;have h3:K7 J0 Tc.q []=[Ed7]:=by
  unfold K7;rw[show Tc.q=⟨[97,46,120,46],1⟩ from rfl,am];show (if(1:Int)=4 then _ else proofsF J0 1 [⟨1,[42,46,120,46],true,[],[Iy8]⟩] [97,46,120,46] [])=_;rw[if_neg (by decide)];unfold proofsF proofsF;rw[if_pos (by rfl),Dn1]
  kernel_rfl
 have h4:sigsR J0 [Ed7]=[]:=by kernel_rfl
 have h5:sigsR J0 [Iy8]=[In1]:=by kernel_rfl
 unfold proveM;rw[if_neg (by rw[h1,h2];decide)];simp only[h1,h2,h3,h4,h5];exact⟨rfl,rfl⟩
def Cp1:S Js5 0 []=some [.b true]:=by
 have k0:=Ag8;have k1:=yn J0 Tc Fp8 (by decide) (by decide);obtain⟨h1,h2⟩:=Ag1;have e0:Msg.pv ⟨0,0,0,false,false,false,false,false,false,false,true,512,⟨[97,46,120,46],1⟩,[],[],[]⟩=Tc.pv:=rfl;have q1:((proveM J0 Tc).ans.length:Int)=2:=by rw[h1];rfl
 have q2:((proveM J0 Tc).auth.length:Int)=1:=by rw[h2];rfl
 have q3:(proveM J0 Tc).ans[0]? =some Iy8:=by rw[h1];rfl
 have q4:(proveM J0 Tc).ans[1]? =some In1:=by rw[h1];rfl
 have q5:(proveM J0 Tc).auth[0]? =some Ed7:=by rw[h2];rfl
 have q6:Iy8.typ=1:=rfl;have q7:In1.typ=46:=rfl;have q8:In1.name=[97,46,120,46]:=rfl;have q9:Ed7.typ=47:=rfl;have qa:Ed7.name=[42,46,120,46]:=rfl;generalize proveM J0 Tc=x at*;refine Kr7 (N:=1) rfl ?_;simp(disch:=omega)only[Kr1,k0,k1,e0,q1,q2,q3,q4,q5,q6,q7,q8,q9,qa,EVM,EVC,EVR,Hk,Ac,simprocAttr]
def Bf3 (l:List Rec):Mm l.length l:=fun i r h1 h2=>by have:=(Bp.1 h2).1;omega
def Er6 (l m:List Rec):l.length<=(joinN l m).length:=by obtain⟨s,hs⟩:=Nz m l;rw[hs,Br];omega
def S6 (z:Zone) (t:Int):∀(l:List Res) (n:List UInt8) (a:List Rec) (k:Nat),k<=a.length->Mm k a->Mm k (proofsF z t l n a)∧k<=(proofsF z t l n a).length∧∃s,proofsF z t l n a=a++s
 |[],_,a,k,hk,h=>⟨h,hk,[],by simp[proofsF]⟩
 |r::l,n,a,k,hk,h=>by
  unfold proofsF;split
  .have h1:=Er6 a (denialN z n);obtain⟨g1,g2,s,g3⟩:=S6 z t l r.target (joinN a (denialN z n)) k (by omega) (P4 _ _ _ hk h);obtain⟨s1,hs1⟩:=Nz (denialN z n) a;exact⟨g1,g2,s1++s,by rw[g3,hs1,Cj]⟩
  .exact S6 z t l r.target a k hk h
def Eb0 (z:Zone) (q:Ques) (a:List Rec):Mm a.length (joinN (K7 z q a) (sigsR z (K7 z q a)))∧∃s,joinN (K7 z q a) (sigsR z (K7 z q a))=a++s:=by
 obtain⟨g1,g2,s,g3⟩:=S6 z q.typ (chaseM z q).1 q.name a a.length (B7 _) (Bf3 a);have h:Mm a.length (K7 z q a)∧a.length<=(K7 z q a).length∧∃s,K7 z q a=a++s:=by
  unfold K7;split
  .rename_i last _;split
   .have h1:=Er6 (proofsF z q.typ (chaseM z q).1 q.name a) (Sq z last.owner);obtain⟨s1,hs1⟩:=Nz (Sq z last.owner) (proofsF z q.typ (chaseM z q).1 q.name a);exact⟨P4 _ _ _ g2 g1,by omega,s++s1,by rw[hs1,g3,Cj]⟩
   .exact⟨g1,g2,s,g3⟩
  .exact⟨g1,g2,s,g3⟩
 obtain⟨h1,h2,s2,h3⟩:=h;obtain⟨s3,hs3⟩:=Nz (sigsR z (K7 z q a)) (K7 z q a);refine⟨P4 _ _ _ h2 h1,s2++s3,?_⟩;rw[hs3,<-Cj,<-h3]
def Fr1 (z:Zone) (l:List Rec):∀r∈sigsR z l,r.typ=46:=fun r hr=>by
 unfold sigsR at hr;obtain⟨x,_,hr⟩:=Fh9.1 hr;have hc:∀n t,∀y∈covR z n t,y.typ=46:=fun n t y hy=>by have:=(Cs.1 hy).2;simp only[Bs,decide_eq_true_eq] at this;exact this.1.2
 unfold u9 at hr;split at hr
 .cases hr
 .unfold sigsOf at hr;split at hr
  .exact hc _ _ r hr
  .split at hr
   .obtain⟨y,hy,rfl⟩:=Es.1 hr;exact hc _ _ y hy
   .cases hr
def Ah7 (z:Zone) (m:Msg):∃sa sb,proveM z m={respondM z m with ans:=(respondM z m).ans++sa,auth:=(respondM z m).auth++sb}∧(∀r∈sa,r.typ=46)∧Mm (respondM z m).auth.length ((respondM z m).auth++sb)∧(m.dok=false->sa=[]∧sb=[]):=by
 unfold proveM;split
 .exact⟨[],[],by simp,by simp,by rw[Eb];exact Bf3 _,fun _=>⟨rfl,rfl⟩⟩
 .rename_i h;obtain⟨h1,s,h2⟩:=Eb0 z m.q (respondM z m).auth;refine⟨sigsR z (respondM z m).ans,s,by rw[<-h2],Fr1 z _,by rw[<-h2];exact h1,fun hd=>absurd (.inl hd) h⟩
def Dt0 (z:Zone) (m:Msg) (hz:z.wf) (hl:z.recs.length<=60) (hq:m.q.name.length<=9223372036854775807):(proveM z m).ans.length<=100000∧(proveM z m).auth.length<=10000000:=by
 obtain⟨b1,b2,b3,_,_⟩:=Uf z m hz hl hq;unfold proveM;split
 .omega
 .have h1:=H5 z (respondM z m).ans hl;have h2:=Mt (sigsR z (K7 z m.q (respondM z m).auth)) (K7 z m.q (respondM z m).auth);have h3:=H5 z (K7 z m.q (respondM z m).auth) hl;have hn:=(Rn z m.q hl).len;have h4:=Rk z m.q.typ hl (chaseM z m.q).1 m.q.name (respondM z m).auth;have h5:(K7 z m.q (respondM z m).auth).length<=(respondM z m).auth.length+3660*9+60:=by
   unfold K7;split
   .rename_i last _;split
    .have:=Mt (Sq z last.owner) (proofsF z m.q.typ (chaseM z m.q).1 m.q.name (respondM z m).auth);have:=As7 z last.owner;omega
    .omega
   .omega
  constructor
  .simp only[Br];omega
  .simp only;omega
def Cg5 (x y:Msg) (a b:List Rec) (h:x={y with ans:=a,auth:=b}):S Gx9 2 [x.pv,y.pv]=some [.b true]:=by subst h;refine Kg2 (N:=1) rfl ?_;simp(disch:=omega)only[Kk9,Jm9,beq_self_eq_true,Az,simprocAttr]
def Vq (l m:List Rec) (hl:l.length+m.length<=100000000):S Am1 2 [B4 l,B4 m]=some [B4 (joinN l m)]:=by
 refine Kx9 (N:=m.length+1) rfl ?_;have h0:Jz 16 (B4 []) (B4 l)=some (B4 l):=by simpa using Gr [] l (by simp;omega)
 have key:Gs2.ev S (m.length+1) [B4 l,B4 m]=some (.yld 0 [B4 (joinN l m)]):=by
  refine Dh m (fun i (g:List Rec)=>[B4 g,.i .i64 (i:Int)]) (fun i g r=> .yld 0 [B4 (joinN g r)]) (fun i g=>g.length<=l.length+i) l (by simp(disch:=omega)only[h0,Ab,simprocAttr]) (by omega) (by omega) (fun i g c r hd hi hc hI=> ?_) (fun g hI=> ?_)
  .left;have kc:=V0 g c (by omega);have hil:(i:Int)<(m.length:Int):=by omega
   refine⟨if c∈g then g else g++[c],?_,by split<;>(try rw[Br,Dx])<;>omega,by simp only[joinN]⟩;by_cases h:c∈g
   .rw[decide_eq_true h] at kc;rw[if_pos h];simp(disch:=omega)only[Fl5,hc,hil,kc,Ab,simprocAttr]
   .rw[decide_eq_false h] at kc;rw[if_neg h];simp(disch:=omega)only[Fl5,hc,hil,kc,Ab,simprocAttr]
  .simp(disch:=omega)only[Fl5,Fq,Ab,simprocAttr];simp[Out.goes,joinN]
 simp(disch:=omega)only[Fl5,key,Ab,simprocAttr]
def Kg5 (z:Zone) (q:Ques) (l:List Res) (a:List Rec) (p4:PV) (hz:z.wf) (hl:z.recs.length<=60) (hll:l.length<=9) (ha:a.length<=60) (ht:∀r∈l,r.target.length<=9223372036854775807) (hq:q.name.length<=9223372036854775807):
  Hk0.ev S 1000 [z.pv,q.pv,B4 a,Gb l,p4]=some (.yld 0 [B4 (proofsF z q.typ l q.name a)]):=by
 refine Dh l (fun i (g:List UInt8×List Rec)=>[B4 g.2,.s g.1,.i .i64 (i:Int)]) (fun i g r=> .yld 0 [B4 (proofsF z q.typ r g.1 g.2)]) (fun i g=>g.1.length<=9223372036854775807∧g.2.length<=60+3660*i) (q.name,a) (by simp(disch:=omega)only[EVM,EVC,EVR,Hk,Ac,simprocAttr]) ⟨hq,by simpa using ha⟩ (by omega) (fun i g c r hd hi hc hI=> ?_) (fun g hI=> ?_)
 .left;obtain⟨nm,g⟩:=g;obtain⟨i1,i2⟩:=hI;simp only at i1 i2;have hcm:=B8 hc;have kd:=Bx6 z ⟨nm,q.typ⟩ hz hl i1;simp only at kd;have hdl:=Xh z nm hl;have kj:=Vq g (denialN z nm) (by omega);have hjl:=Mt (denialN z nm) g;have hil:(i:Int)<(l.length:Int):=by omega
  refine⟨(c.target,if Ay4 c=true then joinN g (denialN z nm) else g),?_,⟨ht c hcm,?_⟩,rfl⟩
  .unfold Ay4;generalize joinN g (denialN z nm)=gj at*;generalize denialN z nm=dn at*;by_cases h6:c.kind=6
   .simp(disch:=omega)only[wj,hc,hil,h6,kd,kj,EVM,EVC,EVR,Hk,Ac,simprocAttr]
    try simp
   .by_cases h5:c.kind=5
    .simp(disch:=omega)only[wj,hc,hil,h5,kd,kj,EVM,EVC,EVR,Hk,Ac,simprocAttr]
     try simp
    .cases hw:c.wild with
     |true=>
      simp(disch:=omega)only[wj,hc,hil,h5,h6,hw,kd,kj,EVM,EVC,EVR,Hk,Ac,simprocAttr]
      try simp
     |false=>
      simp(disch:=omega)only[wj,hc,hil,h5,h6,hw,kd,kj,EVM,EVC,EVR,Hk,Ac,simprocAttr]
      try simp[h5,h6]
  .show List.length (if Ay4 c=true then joinN g (denialN z nm) else g)<=_;split<;>omega
 .simp(disch:=omega)only[wj,Fq,EVM,EVC,EVR,Hk,Ac,simprocAttr]
  try simp[Out.goes,proofsF]
def Ah9 (z:Zone) (q:Ques) (a:List Rec) (hz:z.wf) (hl:z.recs.length<=60) (hq:q.name.length<=9223372036854775807) (hdn:∀u,(findR z.recs u 39).length<=1) (b1:a.length<=60) (w1:∀r∈a,r.wf):
  S Gx4 3 [z.pv,q.pv,B4 a]=some [B4 (joinN (K7 z q a) (sigsR z (K7 z q a)))]:=by
 refine Kd9 (N:=1000) rfl ?_;have k2:=yh z q hz (by omega) hq hdn;have hrs:=Rn z q hl;have hne:=V1 z q;have htg:∀r∈(chaseM z q).1,r.target.length<=9223372036854775807:=Lp (fun r=>r.target.length<=9223372036854775807) z q.typ (fun n=>Kq z ⟨n,q.typ⟩ hz) 9 [] [q.name] q.name (by simp);unfold K7;generalize chaseM z q=cm at*;obtain⟨l,ok⟩:=cm;simp only at k2 hrs hne htg ⊢;have hlen:=hrs.len;obtain⟨last,hla⟩:∃x,l.getLast? =some x:=⟨_,L0 hne⟩;have hli:=Zw l hne hlen;rw[hla,Cf] at hli;rw[hla];simp only;have k6:=fun p4=>Kg5 z q l a p4 hz hl hlen b1 htg hq;have hpl:=Rk z q.typ hl l q.name a;have hpw:=Wr hz q.typ l q.name a w1;generalize proofsF z q.typ l q.name a=pa at*;by_cases h4:last.kind=4
 .rw[if_pos h4];have c1:=Im z last.owner 43 (by omega);have c2:=Im z last.owner 47 (by omega);have hdl:=As7 z last.owner;have hdw:∀r∈Sq z last.owner,r.wf:=fun r hr=>by unfold Sq at hr;split at hr<;>exact Of hz hr
  have kj:=Vq pa (Sq z last.owner) (by omega);have hjl:=Mt (Sq z last.owner) pa;have hjw:=qd hpw hdw;have k7:=V8 z (joinN pa (Sq z last.owner)) hz hl hjw (by omega);have hs2:=H5 z (joinN pa (Sq z last.owner)) hl;have k8:=Vq (joinN pa (Sq z last.owner)) (sigsR z (joinN pa (Sq z last.owner))) (by omega);generalize joinN (joinN pa (Sq z last.owner)) (sigsR z (joinN pa (Sq z last.owner)))=r8 at*;generalize sigsR z (joinN pa (Sq z last.owner))=sb at*;generalize joinN pa (Sq z last.owner)=ja at*;unfold Sq at kj hdl;by_cases h5:findR z.recs last.owner 43=[]
  .rw[if_pos h5] at kj hdl;rw[h5] at c1;generalize findR z.recs last.owner 47=fn at*;simp(disch:=omega)only[wj,k2,k6,k7,k8,c1,c2,kj,h4,hli,EVM,EVC,EVR,Hk,Ac,simprocAttr]
  .rw[if_neg h5] at kj hdl;have h6:¬((findR z.recs last.owner 43).length:Int)=0:=by have:=Cg.2 h5;omega
   generalize findR z.recs last.owner 43=fn at*;simp(disch:=omega)only[wj,k2,k6,k7,k8,c1,h6,kj,h4,hli,EVM,EVC,EVR,Hk,Ac,simprocAttr]
 .rw[if_neg h4];have k7:=V8 z pa hz hl hpw (by omega);have hs2:=H5 z pa hl;have k8:=Vq pa (sigsR z pa) (by omega);generalize joinN pa (sigsR z pa)=r8 at*;generalize sigsR z pa=sb at*;simp(disch:=omega)only[wj,k2,k6,k7,k8,h4,hli,EVM,EVC,EVR,Hk,Ac,simprocAttr]
def Cb1 (z:Zone) (m:Msg) (hz:z.wf) (hl:z.recs.length<=60) (hq:m.q.name.length<=9223372036854775807) (hdn:∀u,(findR z.recs u 39).length<=1):S Gy0 2 [z.pv,m.pv]=some [(proveM z m).pv]:=by
 refine Kg3 (N:=1) rfl ?_;have k1:=Ah2 z m hz hl hq hdn;obtain⟨b1,b2,b3,w1,w2⟩:=Uf z m hz hl hq;unfold proveM;generalize respondM z m=o at*;cases hd:m.dok with
 |false=>
  rw[if_pos (.inl rfl)];simp(disch:=omega)only[Hx0,k1,hd,EVM,EVC,EVR,Hk,Ac,simprocAttr]
 |true=>
  by_cases h0:o.ans.length+o.auth.length=0
  .have h0':(o.ans.length:Int)+(o.auth.length:Int)=0:=by omega
   rw[if_pos (.inr h0)];simp(disch:=omega)only[Hx0,k1,hd,h0',EVM,EVC,EVR,Hk,Ac,simprocAttr]
  .have h0':¬(o.ans.length:Int)+(o.auth.length:Int)=0:=by omega
   rw[if_neg (fun h=>h.elim (fun e=>by first|cases e|(rw[hd] at e;cases e)) h0)];have k4:=V8 z o.ans hz hl w2 (by omega);have k5:=Ah9 z m.q o.auth hz hl hq hdn b1 w1;have hsl:=H5 z o.ans hl;have a0:Jz 16 (B4 []) (B4 o.ans)=some (B4 o.ans):=by simpa using Gr [] o.ans (by simp;omega)
   have a1:=Gr o.ans (sigsR z o.ans) (by omega);generalize sigsR z o.ans=sa at*;generalize joinN (K7 z m.q o.auth) (sigsR z (K7 z m.q o.auth))=jj at*;simp(disch:=omega)only[Hx0,k1,k4,k5,a0,a1,hd,h0',EVM,EVC,EVR,Hk,Ac,simprocAttr]
def law_ProveResponds (z:Zone) (m:Msg) (hz:z.wf) (hm:m.wf):S Js6 2 [z.pv,m.pv]=some [.b true]:=by
 have k0:=Cp1;have k2:=Cy0 z hz;have hqn:m.q.name.length<=9223372036854775807:=hm.q.name;refine Kr8 (N:=1) rfl ?_;by_cases hs:(decide (z.recs.length<=60) && decide (Jk z=0))=true
 .rw[hs] at k2;simp only[Bs,decide_eq_true_eq] at hs;by_cases h4:m.q.name.length<=300
  .have h4':¬(300:Int)<(m.q.name.length:Int):=by omega
   have hc:=Qf hs.2;have k3:=yn z m hz hs.1 hqn;have k4:=Cb1 z m hz hs.1 hqn (fun u=>hc.single u 39 (by simp));obtain⟨c1,c2⟩:=Dt0 z m hz hs.1 hqn;obtain⟨_,_,c3,_,_⟩:=Uf z m hz hs.1 hqn;have he:(proveM z m).ext=(respondM z m).ext:=by obtain⟨sa,sb,hx,_⟩:=Ah7 z m;rw[hx]
   rw[<-he] at c3;generalize proveM z m=x at*;have r0:=Cg5 x x x.ans x.auth rfl;have r1:=M9 x.ans (by omega);have r2:=M9 x.auth (by omega);have r3:=M9 x.ext (by omega);simp(disch:=omega)only[Kk7,k0,k2,k3,k4,h4',r0,r1,r2,r3,Az,simprocAttr]
  .have h4':(300:Int)<(m.q.name.length:Int):=by omega
   simp(disch:=omega)only[Kk7,k0,k2,h4',Az,simprocAttr]
 .have hs':(decide (z.recs.length<=60) && decide (Jk z=0))=false:=by simpa using hs
  rw[hs'] at k2;simp(disch:=omega)only[Kk7,k0,k2,Az,simprocAttr]
end Go.X.G
