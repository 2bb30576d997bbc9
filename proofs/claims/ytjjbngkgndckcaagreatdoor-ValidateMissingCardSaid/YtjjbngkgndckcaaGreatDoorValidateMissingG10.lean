/- Records compacted: the library's function. -/
import Derived.Test.YtjjbngkgndckcaaGreatDoorValidateMissingG9
import Derived.Test.YtjjbngkgndckcaaGreatDoorValidateMissingG6
import Derived.Test.YtjjbngkgndckcaaGreatDoorValidateMissingG8
import Derived.Test.YtjjbngkgndckcaaGreatDoorValidateMissingG7
open Bool renaming eq_false_or_eq_true->Bn,and_eq_true->Bs,false_eq_true->B5,or_eq_true->Cw,not_eq_true'->Dq,true_and->Ks
open Int renaming lt_irrefl->Eb,toNat_natCast->E7,le_refl->T1
open List renaming length_append->Bt,getElem?_eq_getElem->B4,append_assoc->Cq,length_cons->Cv,length_take->Cy,mem_of_getElem?->Cz,mem_singleton->Cf,mem_cons->Ch,length_nil->Cn,getElem?_drop->Cp,mem_append->Ct,length_pos_iff->C1,length_drop->C5,take_append_drop->C7,getElem?_map->C8,filter_cons_of_pos->Dy,all_eq_true->Db,nil_append->D2,mem_filter->D8,take_length->Ey,append_nil->Ec,flatMap_cons->Eg,mem_of_mem_take->Fj,mem_of_mem_drop->Fq,find?_cons_of_neg->Fz,take_add_one->Fp,mem_cons_self->F6,isSuffixOf_iff_suffix->F7,drop_drop->F8,map_cons->Gq,dropLast_concat_getLast->Gt,getElem_mem->G6,filter_cons_of_neg->G7,length_map->H6,length_singleton->Iw,mem_cons_of_mem->I8,take_left->Qz,find?_cons_of_pos->Vm,foldl_cons->Yd,all_cons->d6,length_filter_le->et,mem_of_getLast?->Aj3,dropLast_subset->Aj5,mem_map->Br0
open Nat renaming le_refl->B7,zero_le->Df,le_trans->Ex,add_zero->Gz,add_sub_cancel->Vl
open Option renaming bind_some->B0,map_some->Cb
open Prod.mk renaming injEq->B3
set_option maxHeartbeats 1000000
set_option linter.defProp false
set_option linter.unusedVariables false
set_option linter.unusedSimpArgs false
namespace Go.X.G
open Go Go.X
def Ax:=And.intro xe<|And.intro EVP EV
def Aw:=And.intro EVC<|And.intro xe<|And.intro EVP EV
def Av:=And.intro EVM<|And.intro EVC<|And.intro xe<|And.intro EVP EV
def lf (l:List Rec) (g:Nat) (caps:List PV) (eq2:Rec->Rec->Bool) (h:∀x∈l,∀y∈l,S g 2 (x.pv::y.pv::caps)=some [.b (eq2 x y)]) (hl:l.length<=1000000):S o7 1048578 [B9 l,.f g caps]=some [B9 (cpt eq2 l)]:=by
 refine Ep9 (N:=l.length+2) rfl ?_;by_cases h2:(l.length:Int)<2
 .have e:cpt eq2 l=l:=by
   match l,h2 with
   |[],_=>rfl
   |[x],_=>rfl
   |_::_::_,h=>simp at h;omega
  rw[e];simp(disch:=omega)only[M6,h2,EVT,Av,simprocAttr]
 ·-- the inner Hj, from a place where two neighbours are equal
  have inner:∀k:Nat,1<=k->k<l.length->cpt eq2 (l.take (k+1))=l.take k->∃s:List Rec,s.length=l.length∧s.take (cpt eq2 l).length=cpt eq2 l∧Bx7.ev S (l.length+2) [B9 l,.f g caps,.i .i64 (k:Int),B9 l,.b true]=some (.yld 2 [.i .i64 ((cpt eq2 l).length:Int),B9 s]):=by
   intro k hk1 hk hcp;have key:=Il (fn:=S) (N:=l.length+2) (J:=[B9 l,.f g caps,.i .i64 (k:Int),B9 l,.b true]) (id:=3) (init:=[(.v 2),(.c (.i .i64 (1))),(.v 3)]) (body:=kw) (D:=Nat×Nat×List Rec)
    (fun a=>[.i .i64 (a.1:Int),.i .i64 (a.2.1:Int),B9 a.2.2])
    (fun o=>∃s:List Rec,s.length=l.length∧s.take (cpt eq2 l).length=cpt eq2 l∧o= .yld 2 [.i .i64 ((cpt eq2 l).length:Int),B9 s])
    (fun a=>1<=a.2.1∧k+a.2.1<=l.length∧a.1<k+a.2.1∧a.2.2.length=l.length∧a.2.2.take a.1=cpt eq2 (l.take (k+a.2.1))∧(cpt eq2 (l.take (k+a.2.1))).length=a.1∧a.2.2.drop (k+a.2.1 - 1)=l.drop (k+a.2.1 - 1))
    (fun a=>l.length - a.2.1) (k,1,l) (by simp(disch:=omega)only[EVT,Av,simprocAttr])
    ⟨by simp,by simp;omega,by simp,rfl,by simp only;rw[hcp],by simp only;rw[hcp,Cy];omega,rfl⟩ (by simp only;omega) ?_
   .obtain⟨o,h3,s,h4,h5,rfl⟩:=key;exact⟨s,h4,h5,h3⟩
   .rintro⟨i,j,s⟩ ⟨a1,a2,a3,a4,a5,a6,a7⟩;simp only at a1 a2 a3 a4 a5 a6 a7;by_cases hj:k+j<l.length
    .left;have c1:s[k+j]? =l[k+j]? :=by have:=congrArg (fun q=>q[1]?) a7;simp only[Cp] at this;rwa[show k+j - 1+1=k+j by omega] at this
     have c0:s[k+j - 1]? =l[k+j - 1]? :=by have:=congrArg (fun q=>q[0]?) a7;simpa only[Cp,Gz] using this
     have g1:l[k+j]? =some (l[k+j]'hj):=B4 hj;have g0:l[k+j - 1]? =some (l[k+j - 1]'(by omega)):=B4 (by omega);have tk:l.take (k+(j+1))=l.take (k+j)++[l[k+j]'hj]:=by rw[show k+(j+1)=(k+j)+1 by omega,Fp,g1];rfl
     have ne:l.take (k+j)≠[]:=by intro h;have:=congrArg List.length h;rw[Cy,Cn] at this;omega
     have gl:(l.take (k+j)).getLast ne=l[k+j - 1]'(by omega):=by rw[List.getLast_eq_getElem];simp only[List.getElem_take,Cy];congr 1;omega
     have cs:=Xc eq2 (l[k+j]'hj) (l.take (k+j)) ne;rw[<-tk,gl] at cs;have hc:=h (l[k+j]'hj) (G6 _) (l[k+j - 1]'(by omega)) (G6 _);generalize l[k+j]'hj=x at*;generalize l[k+j - 1]'(by omega)=y at*;have hjj:(j:Int)<(s.length:Int) - (k:Int):=by omega
     have i1:Kj 16 (B9 s) (.i .i64 ((k:Int)+(j:Int)))=some x.pv:=by rw[Nt _ _ _ (by omega),show ((k:Int)+(j:Int)).toNat=k+j by omega,c1,g1];rfl
     have i0:Kj 16 (B9 s) (.i .i64 ((k:Int)+((j:Int) - 1)))=some y.pv:=by rw[Nt _ _ _ (by omega),show ((k:Int)+((j:Int) - 1)).toNat=k+j - 1 by omega,c0,g0];rfl
     have ls:J3 16 (B9 s) (.i .i64 (k:Int)) (.i .i64 (s.length:Int))=some (B9 (s.drop k)):=by rw[Mq _ _ _ _ _ (by omega) (by omega) (by omega)];simp
     have e1:(s.drop k)[j]? =some x:=by rw[Cp,c1,g1]
     have e0:(s.drop k)[j - 1]? =some y:=by rw[Cp,show k+(j - 1)=k+j - 1 by omega,c0,g0]
     have si:∃w,s[i]? =some w:=⟨_,B4 (by omega)⟩;obtain⟨w,si⟩:=si;have ej:((j:Int) - 1).toNat=j - 1:=by omega
     by_cases hxy:eq2 x y=true
     .refine⟨(i,j+1,s),?_,⟨by simp,by simp only;omega,by simp only;omega,a4,?_,?_,?_⟩,by simp only;omega⟩
      .simp(disch:=omega)only[M6,hjj,i1,i0,ls,e1,e0,ej,hc,hxy,EVT,Av,simprocAttr]
      .simp only;rw[cs,a5];simp[hxy]
      .simp only;rw[cs,Bt,a6];simp[hxy]
      .simp only;rw[show k+(j+1) - 1=(k+j - 1)+1 by omega,<-F8,<-F8,a7]
     .refine⟨(i+1,j+1,s.set i x),?_,⟨by simp,by simp only;omega,by simp only;omega,by simpa using a4,?_,?_,?_⟩,by simp only;omega⟩
      .simp(disch:=omega)only[M6,hjj,i1,i0,ls,e1,e0,ej,si,hc,hxy,EVT,Av,simprocAttr]
      .simp only;rw[cs,Fp,List.getElem?_set_self (by omega),List.take_set_of_le (by omega),a5];simp[hxy]
      .simp only;rw[cs,Bt,a6];simp[hxy]
      .simp only;rw[show k+(j+1) - 1=(k+j - 1)+1 by omega,List.drop_set_of_lt (by omega),<-F8,<-F8,a7]
    .right;have ek:k+j=l.length:=by omega
     rw[ek,Ey] at a5 a6;have hjj:¬(j:Int)<(s.length:Int) - (k:Int):=by omega
     refine⟨.yld 2 [.i .i64 (i:Int),B9 s],?_,rfl,s,a4,by rw[a6];exact a5,by rw[a6]⟩;simp(disch:=omega)only[M6,hjj,EVT,Av,simprocAttr]
  have key:Bz3.ev S (l.length+2) [B9 l,.f g caps]=some (if cpt eq2 l=l then .yld 0 [B9 l] else .ret [B9 (cpt eq2 l)]):=by
   have:=Il (fn:=S) (N:=l.length+2) (J:=[B9 l,.f g caps]) (id:=1) (init:=[(.c (.i .i64 (1))),(.v 0)]) (body:=kg) (D:=Nat)
    (fun k=>[.i .i64 (k:Int),B9 l]) (fun o=>o=if cpt eq2 l=l then .yld 0 [B9 l] else .ret [B9 (cpt eq2 l)])
    (fun k=>1<=k∧k<=l.length∧cpt eq2 (l.take k)=l.take k) (fun k=>l.length - k) 1 (by simp(disch:=omega)only[EVT,Av,simprocAttr])
    ⟨B7 1,by omega,by cases l with
     |nil=>simp at h2
     |cons x r=>rfl⟩ (by omega) ?_
   .obtain⟨o,h3,h4⟩:=this;rw[<-h4];exact h3
   .rintro k ⟨k1,k2,k3⟩;by_cases hk:k<l.length
    .have g1:l[k]? =some l[k]:=B4 hk;have g0:l[k - 1]? =some (l[k - 1]'(by omega)):=B4 (by omega);have tk:l.take (k+1)=l.take k++[l[k]]:=by rw[Fp,g1];rfl
     have ne:l.take k≠[]:=by intro h;have:=congrArg List.length h;rw[Cy,Cn] at this;omega
     have gl:(l.take k).getLast ne=l[k - 1]'(by omega):=by rw[List.getLast_eq_getElem];simp only[List.getElem_take,Cy];congr 1;omega
     have cs:=Xc eq2 l[k] (l.take k) ne;rw[<-tk,gl,k3] at cs;have hkk:(k:Int)<(l.length:Int):=by omega
     have i1:Kj 16 (B9 l) (.i .i64 (k:Int))=some (l[k]).pv:=by rw[Nt _ _ _ (by omega),show ((k:Int)).toNat=k by omega,g1];rfl
     have i0:Kj 16 (B9 l) (.i .i64 ((k:Int) - 1))=some (l[k - 1]'(by omega)).pv:=by rw[Nt _ _ _ (by omega),show ((k:Int) - 1).toNat=k - 1 by omega,g0];rfl
     have hc:=h l[k] (G6 _) (l[k - 1]'(by omega)) (G6 _);by_cases hxy:eq2 l[k] (l[k - 1]'(by omega))=true
     .right;have cs':cpt eq2 (l.take (k+1))=l.take k:=by rw[cs];simp[hxy]
      obtain⟨s,s1,s2,s3⟩:=inner k k1 hk cs';have hlt:cpt eq2 l≠l:=by
       intro h;have q:(cpt eq2 l).length<=(cpt eq2 (l.take (k+1))).length+(l.drop (k+1)).length:=by
        have:∀(b a:List Rec),a≠[]->(cpt eq2 (a++b)).length<=(cpt eq2 a).length+b.length:=by
         intro b
         induction b with
         |nil=>intro a _;simp
         |cons x r ih=>
          intro a ha;have h1:=ih (a++[x]) (by simp);rw[Xc _ _ _ ha] at h1;rw[show a++x::r=a++[x]++r by simp];refine Ex h1 ?_;rw[Bt];split<;>simp<;>omega
        have h3:=this (l.drop (k+1)) (l.take (k+1)) (by intro h;have:=congrArg List.length h;rw[Cy,Cn] at this;omega);rwa[C7] at h3
       rw[h,cs',Cy,C5] at q;omega
      have hlen:=Ds7 eq2 l;refine⟨.ret [B9 (cpt eq2 l)],?_,rfl,by rw[if_neg hlt]⟩;generalize cpt eq2 l=fl at*;have ls:J3 16 (B9 l) (.i .i64 (k:Int)) (.i .i64 (l.length:Int))=some (B9 (l.drop k)):=by rw[Mq _ _ _ _ _ (by omega) (by omega) (by omega)];simp
      have hsl1:J3 16 (B9 s) (.i .i64 ((fl.length:Nat):Int)) (.i .i64 (s.length:Int))=some (B9 (s.drop fl.length)):=by rw[Mq _ _ _ _ _ (by omega) (by omega) (by omega)];simp
      have hsl2:J3 16 (B9 s) (.i .i64 0) (.i .i64 ((fl.length:Nat):Int))=some (B9 fl):=by rw[Mq _ _ _ _ _ (by omega) (by omega) (by omega)];simp[s2]
      have hrep:Mc 16 (.i .i64 ((s.length:Int) - (fl.length:Int))) Aj8=some (B9 (List.replicate (s.length - fl.length) zr)):=by rw[Ck0 _ (by omega) (by omega)];congr 3;omega
      have happ:Ip 16 (B9 fl) (B9 (List.replicate (s.length - fl.length) zr))=some (B9 (fl++List.replicate (s.length - fl.length) zr)):=Qy _ _ (by simp;omega);have hsl3:J3 16 (B9 (fl++List.replicate (s.length - fl.length) zr)) (.i .i64 0) (.i .i64 ((fl.length:Nat):Int))=some (B9 fl):=by rw[Mq _ _ _ _ _ (by omega) (by omega) (by simp;omega)];simp
      simp(disch:=omega)only[M6,hkk,i1,i0,hc,hxy,ls,s3,hsl1,hsl2,hrep,happ,hsl3,EVT,Av,simprocAttr]
     .left;refine⟨k+1,?_,⟨by omega,by omega,?_⟩,by omega⟩
      .simp(disch:=omega)only[M6,hkk,i1,i0,hc,hxy,EVT,Av,simprocAttr]
      .rw[cs,tk];simp[hxy]
    .right;have e:k=l.length:=by omega
     subst e;rw[Ey] at k3;refine⟨_,?_,?_,rfl⟩
     .rw[if_pos k3];simp(disch:=omega)only[M6,EVT,Av,simprocAttr]
     .rw[if_pos k3];rfl
  by_cases hh:cpt eq2 l=l
  .rw[if_pos hh] at key;rw[hh];simp(disch:=omega)only[M6,h2,key,EVT,Av,simprocAttr]
  .rw[if_neg hh] at key;simp(disch:=omega)only[M6,h2,key,EVT,Av,simprocAttr]
def Bm8 (r:Rec) (h:r.wf):S Cx4 1 [r.pv]=some [.b (zn r)]:=by
 refine Fn8 (N:=1) rfl ?_;have g:r.name.length<=9223372036854775807:=h.name;have h1:=C6 r.name g;have h2:=Ds r.typ;have h3:=O2 r.typ r.data h.data;unfold zn;by_cases k0:0<=r.ttl<;>by_cases k1:r.ttl<=2147483647
 all_goals rcases ch3 (vld r.name) (knw r.typ) (E4 r.typ r.data) with e0|⟨e0,e1⟩|⟨e0,e1,e2⟩|⟨e0,e1,e2⟩
 all_goals simp only[*] at h1 h2 h3
 all_goals simp(disch:=omega)only[Ff5,W6,Gk,h1,h2,h3,EVC,xe,EVP,EV,simprocAttr, *]
 all_goals simp
def Dq5 (x:Int):S Z6 1 [.i .i64 x]=some [.b false]:=by refine El0 (N:=1) rfl ?_;simp(disch:=omega)only[Ex7,Aw,simprocAttr]
def Bn7 (a b:Int):S ak 2 [.i .i64 a,.i .i64 b]=some [.i .i64 (Aj0 a b)]:=by
 refine Em2 (N:=1) rfl ?_;have h1:=Dq5 a;have h2:=Dq5 b;unfold Aj0;by_cases k1:a<b
 .simp(disch:=omega)only[Ak5,h1,h2,k1,Aw,simprocAttr]
 .by_cases k2:b<a
  .simp(disch:=omega)only[Ak5,h1,h2,k1,k2,Aw,simprocAttr]
  .simp(disch:=omega)only[Ak5,h1,h2,k1,k2,Aw,simprocAttr]
def nx (a b:Rec) (ha:a.wf) (hb:b.wf):S ah 2 [a.pv,b.pv]=some [.i .i64 (eg a b)]:=by
 refine Ep7 (N:=1) rfl ?_;have g1:a.name.length<=9223372036854775807:=ha.name;have g2:b.name.length<=9223372036854775807:=hb.name;have h1:=Jc a.name b.name g1 g2;have h2:=Bn7 a.typ b.typ;have h3:=lc a.typ a.data b.data ha.data hb.data;unfold eg;by_cases k1:Pj a.name b.name=0
 .by_cases k2:Aj0 a.typ b.typ=0
  .rw[k1] at h1;rw[k2] at h2;simp(disch:=omega)only[Aq1,W6,Gk,h1,h2,h3,Aw,simprocAttr];simp[k1,k2]
  .rw[k1] at h1;simp(disch:=omega)only[Aq1,h1,h2,k2,Aw,simprocAttr];simp[k1,k2]
 .simp(disch:=omega)only[Aq1,h1,k1,Aw,simprocAttr]
def lv (a b:Rec) (ha:a.wf) (hb:b.wf):S am 2 [a.pv,b.pv]=some [.i .i64 (Dt0 a b)]:=by
 refine Er0 (N:=1) rfl ?_;have h1:=nx a b ha hb;have h2:=Bn7 a.ttl b.ttl;unfold Dt0;by_cases k1:eg a b=0
 .rw[k1] at h1;simp(disch:=omega)only[Cm2,h1,h2,Aw,simprocAttr];simp[k1]
 .simp(disch:=omega)only[Cm2,h1,k1,Aw,simprocAttr]
def Gv2:Cmp am [] Dt0 Rec.wf:=⟨fun x y hx hy=>lv x y hx hy⟩
def Fq5:leC Dt0=leR:=rfl
def Ch7 (a b:Rec) (ha:a.wf) (hb:b.wf):S al 2 [a.pv,b.pv]=some [.b (eqF a b)]:=by refine Ep8 (N:=1) rfl ?_;have h1:=nx a b ha hb;simp(disch:=omega)only[Ey8,h1,Aw,simprocAttr]
def uj (l:List Rec) (hw:∀r∈l,r.wf) (hl:l.length<=1000000):S Bq3 1 [B9 l]=some [B9 (sortR l)]:=by refine Fn9 (N:=1) rfl ?_;have h0:=Bn8 l hl;obtain⟨r,h1,h2,h3⟩:=X5 Gv2 (by rw[Fq5];exact Fh9) l hw hl;rw[Fq5] at h1;have hm:=h1.mem Fh9;have h4:=lf r al [] eqF (fun x hx y hy=>Ch7 x y (hw x ((hm x).1 hx)) (hw y ((hm y).1 hy))) (by omega);rw[Bt5 h1] at h4;simp(disch:=omega)only[Ff6,h0,h3,h4,Gc,Pp,EVT,Av,simprocAttr]
end Go.X.G
/- Sets of records: what the program's and the reference's functions give. -/
namespace Go.X
open Go
structure SetR where
 name:List UInt8
 typ:Int
 ttl:Int
 data:List Dat
 deriving DecidableEq
def Ez (l:List Dat):PV:= .l 13 (l.map Dat.pv)
def SetR.pv (x:SetR):PV:= .a [.s x.name,.i .i64 x.typ,.i .i64 x.ttl,Ez x.data]
def D6 (l:List SetR):PV:= .l 4 (l.map SetR.pv)
def Cf6:PV.l 13 []=Ez []:=rfl
def Cj0:PV.l 4 []=D6 []:=rfl
def Ap1 (x:SetR):C0 0 x.pv=some (.s x.name):=rfl
def Ap0 (x:SetR):C0 1 x.pv=some (.i .i64 x.typ):=rfl
def An9 (x:SetR):C0 2 x.pv=some (.i .i64 x.ttl):=rfl
def An8 (x:SetR):C0 3 x.pv=some (Ez x.data):=rfl
def Dn4 (x:SetR):O8 4 x.pv=some x.pv:=rfl
def Dc2 (x:SetR):J2 0 4 x.pv=some x.pv:=rfl
def Bc2 (n:List UInt8) (t u:Int) (d:List Dat):PV.a [.s n,.i .i64 t,.i .i64 u,Ez d]=SetR.pv ⟨n,t,u,d⟩:=rfl
def Dp9 (x:SetR):(⟨x.name,x.typ,x.ttl,x.data⟩:SetR)=x:=rfl
def Dl2 (x:SetR):K5 4 [x.pv]=some (D6 [x]):=rfl
def Dl5 (x:Dat):K5 13 [x.pv]=some (Ez [x]):=rfl
def qz (l:List SetR):Hv (D6 l)=some (.i .i64 (l.length:Int)):=by simp[D6,Hv]
def Cz6 (l:List Dat):Hv (Ez l)=some (.i .i64 (l.length:Int)):=by simp[Ez,Hv]
def Ag2 (l:List SetR):Iz (D6 l)=some (D6 l):=rfl
def Ag4 (l:List Dat):Iz (Ez l)=some (Ez l):=rfl
def qp (l:List SetR) (k:IntKind) (z:Int) (h:0<=z):Kj 4 (D6 l) (.i k z)=(l[z.toNat]?).map SetR.pv:=by simp[D6,ir _ _ _ _ h]
def Cc3 (l:List Dat) (k:IntKind) (z:Int) (h:0<=z):Kj 13 (Ez l) (.i k z)=(l[z.toNat]?).map Dat.pv:=by simp[Ez,ir _ _ _ _ h]
def Bm3 (l:List SetR) (x:SetR) (h:l.length+1<=1073741824):Ip 4 (D6 l) (D6 [x])=some (D6 (l++[x])):=by have:=Pk 4 (l.map SetR.pv) [x.pv] (by simpa using h);simpa [D6] using this
def Bm5 (l:List Dat) (x:Dat) (h:l.length+1<=1073741824):Ip 13 (Ez l) (Ez [x])=some (Ez (l++[x])):=by have:=Pk 13 (l.map Dat.pv) [x.pv] (by simpa using h);simpa [Ez] using this
def m9 {l:List SetR} {k:IntKind} {z:Int} {x y:SetR} {off:Nat} {vs:List PV} (h0:0<=z) (h3:l[z.toNat]? =some x) (h:Om x.pv off vs=some y.pv):Nx 4 off vs (D6 l) (.i k z)=some (D6 (l.set z.toNat y)):=by
 have h4:(l.map SetR.pv)[z.toNat]? =some x.pv:=by rw[C8,h3];rfl
 simp only[Nx,D6,h0,h4,and_self,if_true,B0,h,Cb];simp[List.map_set]
set_option linter.defProp false in
def D9:=(And.intro @Cf6 (And.intro @Cj0 (And.intro @Ap1 (And.intro @Ap0 (And.intro @An9 (And.intro @An8 (And.intro @Dn4 (And.intro @Dc2 (And.intro @Bc2 (And.intro @Dp9 (And.intro @Dl2 (And.intro @Dl5 (And.intro @qz (And.intro @Cz6 (And.intro @Ag2 (And.intro @Ag4 (And.intro @qp (And.intro @Cc3 (And.intro @Bm3 @Bm5)))))))))))))))))))
end Go.X
namespace Go.X.G
open Go Go.X
def addS (g:List SetR) (r:Rec):List SetR:=
 match g.getLast? with
 |some x=>if x.name=r.name∧x.typ=r.typ then g.dropLast++[⟨x.name,x.typ,if r.ttl<x.ttl then r.ttl else x.ttl,x.data++[r.data]⟩] else g++[⟨r.name,r.typ,r.ttl,[r.data]⟩]
 |none=>[⟨r.name,r.typ,r.ttl,[r.data]⟩]
def Cj1 (l:List Rec):List SetR:=l.foldl addS []
def setsR (l:List Rec):List SetR:=Cj1 (sortR l)
def Np (g:List SetR):List Dat:=((g.getLast?).map SetR.data).getD []
def Af8 {g:List SetR} {x:SetR} (h:g.getLast? =some x) (y:SetR):g.set (g.length - 1) y=g.dropLast++[y]:=by obtain⟨a,rfl⟩:=List.getLast?_eq_some_iff.1 h;simp
def t6 (g:List SetR) (r:Rec):(addS g r).length<=g.length+1:=by
 unfold addS;split
 .split
  .simp
  .simp
 .simp
def Af5 (x:SetR) (g:List SetR) (c:Rec) (s:List Rec) (i:Nat) (p0 p2 p3:PV) (d:List Dat) (N:Nat) (hc:s[i]? =some c) (hg:g.getLast? =some x) (hl:g.length<=1000000) (hd:d.length<=1000000) (hi:i<=1000000) (hxd:x.data=d):
  Bg4.ev S N [p0,B9 s,p2,p3,.i .i64 (i:Int),D6 g,Ez d,.i .i64 (g.length:Int)]=some (.yld 1 [D6 (g.dropLast++[⟨x.name,x.typ,if c.ttl<x.ttl then c.ttl else x.ttl,d++[c.data]⟩]),Ez (d++[c.data]),.i .i64 ((i+1:Nat):Int)]):=by
 have hpos:0<g.length:=by cases g<;>simp at hg ⊢
 have e1:((g.length:Int) - 1).toNat=g.length - 1:=by omega
 have hx:g[((g.length:Int) - 1).toNat]? =some x:=by rw[e1,<-List.getLast?_eq_getElem?];exact hg
 have hw:IntKind.i64.wrap ((g.length:Int) - 1)=(g.length:Int) - 1:=w64 (by omega) (by omega);let y:SetR:=⟨x.name,x.typ,if c.ttl<x.ttl then c.ttl else x.ttl,x.data⟩;let z:SetR:=⟨x.name,x.typ,if c.ttl<x.ttl then c.ttl else x.ttl,d++[c.data]⟩;have s1:Nx 4 2 [.i .i64 (if c.ttl<x.ttl then c.ttl else x.ttl)] (D6 g) (.i .i64 ((g.length:Int) - 1))=some (D6 (g.set (g.length - 1) y)):=by rw[<-e1];exact m9 (by omega) hx rfl
 have hl2:(g.set (g.length - 1) y).length=g.length:=by simp
 have hx2:(g.set (g.length - 1) y)[((g.length:Int) - 1).toNat]? =some y:=by rw[e1,List.getElem?_set_self (by omega)]
 have s2:Nx 4 3 [Ez (d++[c.data])] (D6 (g.set (g.length - 1) y)) (.i .i64 ((g.length:Int) - 1))=some (D6 (g.dropLast++[z])):=by rw[m9 (x:=y) (y:=z) (by omega) hx2 rfl,e1,List.set_set,Af8 hg]
 have hmn:Cy8 (.i .i64 x.ttl) (.i .i64 c.ttl)=some (.i .i64 (if c.ttl<x.ttl then c.ttl else x.ttl)):=by simp[Cy8]
 have hy3:C0 3 y.pv=some (Ez x.data):=rfl;have i1:Kj 4 (D6 (g.set (g.length - 1) y)) (.i .i64 ((g.length:Int) - 1))=some y.pv:=by rw[qp _ _ _ (by omega),hx2];rfl
 have n1:Hv (D6 (g.set (g.length - 1) y))=some (.i .i64 (g.length:Int)):=by rw[qz,hl2]
 generalize hG:D6 (g.set (g.length - 1) y)=G at*;generalize hY:y.pv=Y at*;simp(disch:=omega)only[fx,hc,hx,hw,hmn,s1,s2,i1,n1,hy3,D9,Ax,simprocAttr]
 try rfl
structure SetsIn (g:List SetR) (i:Nat):Prop where
 len:g.length<=i
 each:∀x∈g,x.data.length<=i
def Eq8 {g:List SetR} {i:Nat} (h:SetsIn g i) (c:Rec):SetsIn (addS g c) (i+1):=by
 refine⟨Ex (t6 g c) (by have:=h.len;omega),fun x hx=> ?_⟩;unfold addS at hx;split at hx
 .rename_i y hy;have hym:y∈g:=Aj3 hy;split at hx
  .rcases Ct.1 hx with hx|hx
   .have:=h.each x (Aj5 _ hx);omega
   .rw[Cf.1 hx];have:=h.each y hym;simp;omega
  .rcases Ct.1 hx with hx|hx
   .have:=h.each x hx;omega
   .rw[Cf.1 hx];simp
 .rw[Cf.1 hx];simp
def U1 (g:List SetR) (c:Rec):Np (addS g c)=match g.getLast? with
  |some x=>if x.name=c.name∧x.typ=c.typ then x.data++[c.data] else [c.data]
  |none=>[c.data]:=by
 unfold addS Np;split
 .split<;>simp
 .simp
def ms:∀(l acc:List Rec),(l.foldl (fun a x=>z5 x a) acc).length<=acc.length+l.length
 |[],acc=>by simp
 |x::l,acc=>by have h1:=ms l (z5 x acc);have h2:=qm x acc;simp only[Yd,Cv];omega
def L3 (l:List Rec):(sortR l).length<=l.length:=by simpa [sortR] using ms l []
def Ch8 (l:List Rec) (hw:∀r∈l,r.wf) (hl:l.length<=100000):S Cx9 1 [B9 l]=some [D6 (setsR l)]:=by
 have hs:=uj l hw (by omega);have hsl:(sortR l).length<=1000000:=by have:=L3 l;omega
 generalize hsd:sortR l=s at*;obtain⟨N,hN⟩:∃N,N=s.length+1:=⟨_,rfl⟩;refine Fr9 (N:=N) rfl ?_;have key:Ct4.ev S N [B9 l,B9 s]=some (.yld 0 [D6 (s.foldl addS []),Ez (Np (s.foldl addS []))]):=by
  refine Ht s (fun i (g:List SetR)=>[D6 g,Ez (Np g),.i .i64 (i:Int)]) (fun i g r=> .yld 0 [D6 (r.foldl addS g),Ez (Np (r.foldl addS g))]) (fun i g=>SetsIn g i) [] rfl ⟨B7 _,fun x hx=>by cases hx⟩ (by omega) (fun i g c r hd hi hc hI=> ?_) (fun g hI=> ?_)
  .left;refine⟨addS g c,?_,Eq8 hI c,rfl⟩;have hgl:=hI.len;have hilt:(i:Int)<(s.length:Int):=by omega
   cases hg:g.getLast? with
   |none=>
    have hg0:g=[]:=List.getLast?_eq_none_iff.1 hg;subst hg0;have k:=Af5 ⟨c.name,c.typ,c.ttl,[]⟩ [⟨c.name,c.typ,c.ttl,[]⟩] c s i (B9 l) (D6 []) (Ez (Np [])) [] N hc rfl (by simp) (by simp) (by omega) rfl;have e1:(([⟨c.name,c.typ,c.ttl,[]⟩]:List SetR).length:Int)=1:=rfl;have e2:([⟨c.name,c.typ,c.ttl,[]⟩]:List SetR).dropLast++[⟨c.name,c.typ,if c.ttl<c.ttl then c.ttl else c.ttl,[]++[c.data]⟩]=addS [] c:=by simp[addS]
    have e3:([]++[c.data]:List Dat)=Np (addS [] c):=by simp[addS,Np]
    rw[e1,e2,e3] at k;generalize addS [] c=G at*;simp(disch:=omega)only[fx,hc,hilt,k,D9,Ax,simprocAttr]
   |some x=>
    have hpos:0<g.length:=by cases g<;>simp at hg ⊢
    have hx:g[((g.length:Int) - 1).toNat]? =some x:=by rw[show ((g.length:Int) - 1).toNat=g.length - 1 by omega,<-List.getLast?_eq_getElem?];exact hg
    have hxm:x∈g:=Aj3 hg;have hxd:=hI.each x hxm;have hn0:¬(g.length:Int)=0:=by omega
    have hld:Np g=x.data:=by simp[Np,hg]
    by_cases hk:x.name=c.name∧x.typ=c.typ
    .have k:=Af5 x g c s i (B9 l) (D6 g) (Ez (Np g)) x.data N hc hg (by omega) (by omega) (by omega) rfl;have e2:g.dropLast++[⟨x.name,x.typ,if c.ttl<x.ttl then c.ttl else x.ttl,x.data++[c.data]⟩]=addS g c:=by simp[addS,hg,hk]
     have e3:x.data++[c.data]=Np (addS g c):=by rw[U1,hg];simp[hk]
     rw[e2,e3,hld] at k;rw[hld];generalize addS g c=G at*;simp(disch:=omega)only[fx,hc,hilt,hx,hn0,hk.1,hk.2,k,D9,Ax,simprocAttr]
    .have k:=Af5 ⟨c.name,c.typ,c.ttl,[]⟩ (g++[⟨c.name,c.typ,c.ttl,[]⟩]) c s i (B9 l) (D6 g) (Ez (Np g)) [] N hc (by simp) (by simp;omega) (by simp) (by omega) rfl;have e1:((g++[⟨c.name,c.typ,c.ttl,[]⟩]:List SetR).length:Int)=(g.length:Int)+1:=by simp
     have e2:(g++[⟨c.name,c.typ,c.ttl,[]⟩]:List SetR).dropLast++[⟨c.name,c.typ,if c.ttl<c.ttl then c.ttl else c.ttl,[]++[c.data]⟩]=addS g c:=by simp[addS,hg,hk]
     have e3:([]++[c.data]:List Dat)=Np (addS g c):=by rw[U1,hg];simp[hk]
     rw[e1,e2,e3,hld] at k;rw[hld];generalize addS g c=G at*;by_cases h1:x.name=c.name
     .have h2:¬x.typ=c.typ:=fun h=>hk ⟨h1,h⟩;simp(disch:=omega)only[fx,hc,hilt,hx,hn0,h1,h2,k,D9,Ax,simprocAttr]
     .simp(disch:=omega)only[fx,hc,hilt,hx,hn0,h1,k,D9,Ax,simprocAttr]
  .simp(disch:=omega)only[fx,D9,Ax,simprocAttr];simp[Out.goes]
 simp(disch:=omega)only[fx,hs,key,D9,Ax,simprocAttr];simp[setsR,Cj1,hsd]
end Go.X.G
namespace Go.X.G
open Go Go.X
def c3 (s:List UInt8):List UInt8:=s.take 300
def uz {a b:List UInt8} (h1:under a b=true) (h2:(lbl a).length<=(lbl b).length):a=b:=by obtain⟨va,vb,s⟩:=J8.1 h1;exact R6 va vb (s.eq_of_length_le h2).symm
def unsetR (x:SetR):List Rec:=x.data.map fun d=>⟨x.name,x.typ,x.ttl,d⟩
def M1 (x:SetR) (hl:x.data.length<=1000000):S g9 1 [x.pv]=some [B9 (unsetR x)]:=by
 refine Ft2 (N:=x.data.length+1) rfl ?_;have key:Dj5.ev S (x.data.length+1) [x.pv]=some (.yld 0 [B9 ([]++unsetR x)]):=by
  refine Ht (N:=x.data.length+1) x.data (fun i (g:List Rec)=>[B9 g,.i .i64 (i:Int)]) (fun i g r=> .yld 0 [B9 (g++r.map fun d=>(⟨x.name,x.typ,x.ttl,d⟩:Rec))]) (fun i g=>g.length<=i) [] rfl (Df _) (Nat.lt_succ_self _) (fun i g c r hd hi hc hI=> ?_) (fun g hI=> ?_)
  .left;refine⟨g++[⟨x.name,x.typ,x.ttl,c⟩],?_,by simp;omega,by simp⟩;have hil:(i:Int)<(x.data.length:Int):=by omega
   simp(disch:=omega)only[Dv3,hc,hil,D9,Ax,simprocAttr]
  .simp(disch:=omega)only[Dv3,Eb,D9,Ax,simprocAttr];simp[Out.goes]
 simp(disch:=omega)only[Dv3,key,D9,Ax,simprocAttr]
 try simp
end Go.X.G
namespace Go.X
structure Begin where
 q:Ques
 zone:List UInt8
 hosts:List (List UInt8)
 addrs:List Adr
structure Actn where
 kind:Int
 n:Int
 odd:Bool
 m:Msg
 host:List UInt8
 addrs:List Adr
def u8r (x:Int):Prop:=0<=x∧x<=255
structure Begin.wf (b:Begin):Prop where
 q:b.q.wf
 zone:d8 b.zone
 hosts:b.hosts.length<=9223372036854775807∧∀h∈b.hosts,d8 h
 addrs:b.addrs.length<=9223372036854775807
structure Actn.wf (a:Actn):Prop where
 kind:u8r a.kind
 n:u8r a.n
 m:a.m.wf
 host:d8 a.host
 addrs:a.addrs.length<=9223372036854775807
def Begin.cells (b:Begin):List PV:=[.s b.q.name,.i .i64 b.q.typ,.s b.zone,Dh b.hosts,F0 b.addrs]
def Begin.pv (b:Begin):PV:= .a b.cells
def Actn.cells (a:Actn):List PV:=[.i .u8 a.kind,.i .u8 a.n,.b a.odd,.i .i64 a.m.id,.i .i64 a.m.op,.i .i64 a.m.code,.b a.m.resp,.b a.m.aa,.b a.m.tc,.b a.m.rd,.b a.m.ra,.b a.m.ad,.b a.m.cd,.b a.m.dok,.i .i64 a.m.size,.s a.m.q.name,.i .i64 a.m.q.typ,B9 a.m.ans,B9 a.m.auth,B9 a.m.ext,.s a.host,F0 a.addrs]
def Actn.pv (a:Actn):PV:= .a a.cells
def Dg5 {e:Sh} {D:Type} (W:D->Prop) (pv:D->PV) (hag:e.agg=true) (h1:∀ds,e.okC ds->∃x,W x∧PV.a ds=pv x) {cs:List PV} (h:(Sh.l e).okC cs):∃l:List D,l.length<=9223372036854775807∧(∀x∈l,W x)∧cs=[.l e.size (l.map pv)]:=by
 simp only[Sh.okC,hag,if_true] at h;obtain⟨xs,rfl,hl,hx⟩:=h;have go:∀xs:List PV,(∀x,x∈xs->∃ds,x= .a ds∧e.okC ds)->∃l:List D,(∀r∈l,W r)∧xs=l.map pv:=by
  intro xs
  induction xs with
  |nil=>exact fun _=>⟨[],fun r h=>(by cases h),rfl⟩
  |cons x xs ih=>
   intro hx;obtain⟨l,g1,rfl⟩:=ih (fun y hy=>hx y (I8 _ hy));obtain⟨ds,rfl,hd⟩:=hx x (F6 ..);obtain⟨r,hr,hpv⟩:=h1 ds hd;refine⟨r::l,fun y hy=> ?_,by rw[hpv];rfl⟩;rcases Ch.1 hy with rfl|hy
   .exact hr
   .exact g1 y hy
 obtain⟨l,g1,rfl⟩:=go xs hx;exact⟨l,by simpa [maxLen] using hl,g1,rfl⟩
open Go
structure Ask where
 zone:List UInt8
 keys:List Dat
 now:Int
 deriving DecidableEq
def Ask.cells (x:Ask):List PV:=[.s x.zone,Ez x.keys,.i .i64 x.now]
def Ask.pv (x:Ask):PV:= .a x.cells
structure Ask.wf (x:Ask):Prop where
 zone:d8 x.zone
 keys:∀d∈x.keys,d.wf
 now:Yj x.now
structure SetW (s:SetR):Prop where
 name:d8 s.name
 typ:Yj s.typ
 ttl:Yj s.ttl
 data:∀d∈s.data,d.wf
def Bj2 (x:Ask):C0 0 x.pv=some (.s x.zone):=rfl
def Bj1 (x:Ask):C0 1 x.pv=some (Ez x.keys):=rfl
def Bj0 (x:Ask):C0 2 x.pv=some (.i .i64 x.now):=rfl
def Dn8 (x:Ask):O8 3 x.pv=some x.pv:=rfl
def Dc6 (x:Ask):J2 0 3 x.pv=some x.pv:=rfl
set_option linter.defProp false in
def Bn4:=(And.intro @Bj2 (And.intro @Bj1 (And.intro @Bj0 (And.intro @Dn8 @Dc6))))
def Bt9:Sh:= .st [.s,.l Bt8,.i .i64]
def Dg6 {cs:List PV} (h:(Sh.l Bt8).okC cs):∃l:List Dat,(∀d∈l,d.wf)∧cs=[Ez l]:=by obtain⟨l,_,h2,rfl⟩:=Dg5 (fun d:Dat=>d.wf) Dat.pv rfl (fun ds h=>by obtain⟨d,hd,rfl⟩:=Cp2 h;exact⟨d,hd,rfl⟩) h;exact⟨l,h2,rfl⟩
def Dg8 {p:PV} (h:Bt9.ok p):∃x:Ask,x.wf∧p=x.pv:=by obtain⟨ds,rfl,h⟩:∃ds,p= .a ds∧Bt9.okC ds:=h;obtain⟨a0,r0,rfl,h0,h⟩:=Dv (Ul h);obtain⟨a1,r1,rfl,h1,h⟩:=Dv h;obtain⟨a2,r2,rfl,h2,h⟩:=Dv h;obtain rfl:=L9 h;obtain⟨x0,rfl,k0⟩:=xf h0;obtain⟨x1,k1,rfl⟩:=Dg6 h1;obtain⟨x2,rfl,k2⟩:=Hs h2;exact⟨⟨x0,x1,x2⟩,⟨k0,k1,k2⟩,rfl⟩
end Go.X
namespace Go.X.G
open Go Go.X
def labK (n:List UInt8):List (List UInt8):=if(lbl n)[0]? =some [42] then(lbl n).drop 1 else lbl n
def W1 (n:List UInt8):(labK n).length<=254:=by
 have:=Jy n;unfold labK;split
 .rw[C5];omega
 .exact this
def Cb1 (n:List UInt8):∀x∈labK n,Jh x=true:=fun x hx=>by
 unfold labK at hx;split at hx
 .exact Jr n x (Fq hx)
 .exact Jr n x hx
def U2 (n:List UInt8) (hn:n.length<=9223372036854775807):S xn 1 [.s n]=some [Dh (labK n)]:=by
 refine Fr7 (N:=1) rfl ?_;have k1:=Ik n hn;have hl:=Jy n;unfold labK;generalize lbl n=l at*;cases l with
 |nil=>simp(disch:=omega)only[Dv2,k1,Aw,simprocAttr];try simp
 |cons c r=>
  have hc:(c::r)[0]? =some c:=rfl;have hp:(0:Int)<((c::r).length:Int):=by rw[Cv];omega
  have hl1:(1:Int)<=((c::r).length:Int):=by rw[Cv];omega
  have ht:(c::r).take (c::r).length=c::r:=Ey;have hd:(c::r).drop 1=r:=rfl;by_cases h:c=[42]
  .rw[if_pos (by rw[hc,h])];have ls:J3 1 (Dh (c::r)) (.i .i64 1) (.i .i64 ((c::r).length:Int))=some (Dh r):=by have e:=Ws (c::r) .i64 .i64 1 ((c::r).length:Int) (by omega) hl1 (T1 _);rw[e,E7,ht];rfl
   rw[hd];generalize hg:c::r=l at*;simp(disch:=omega)only[Dv2,k1,hc,hp,h,ls,Aw,simprocAttr]
  .rw[if_neg (by rw[hc];simpa using h)];generalize hg:c::r=l at*;simp(disch:=omega)only[Dv2,k1,hc,hp,h,Aw,simprocAttr]
def joinL (l:List (List UInt8)):List UInt8×Int:=if l=[] then([46],0) else if vld (flat l)=true then(flat l,0) else([],2)
def Qq:∀(l:List (List UInt8)),(∀x∈l,Jh x=true)->(flat l).length<=64*l.length
 |[],_=>by simp[flat]
 |x::l,h=>by have h1:=Lb (h x (.head _));have h2:=Qq l fun y hy=>h y (.tail _ hy);simp only[flat,Eg,Bt,Cv,Cn] at h2 ⊢;omega
def rk {l:List (List UInt8)} (h:l≠[]):0<(flat l).length:=by
 cases l with
 |nil=>exact absurd rfl h
 |cons x r=>simp only[flat,Eg,Bt,Iw];omega
def Cb5 (l:List (List UInt8)) (hl:l.length<=255) (hw:∀x∈l,Jh x=true) (N:Nat) (hN:l.length<N):
  Ct0.ev S N [Dh l]=some (.yld 0 [.l 1 (bytesPV (flat l))]):=by
 refine Em l (fun i=>[.i .i64 (i:Int),.l 1 (bytesPV (flat (l.take i)))]) (fun i r=> .yld 0 [.l 1 (bytesPV (flat l))]) rfl hN (fun i c r hd hi hc=> ?_) ?_
 .left;refine⟨?_,rfl⟩;have hlab:=hw c (Cz hc);have hc63:=Lb hlab;have hfl:=Qq (l.take i) fun x hx=>hw x (Fj hx);have htl:(l.take i).length<=255:=by rw[Cy];omega
  have e1:flat (l.take (i+1))=flat (l.take i)++c++[46]:=by rw[Fp,hc];simp[flat]
  have g1:(bytesPV (flat (l.take i))).length<=64*255:=by rw[H0];omega
  have g2:(bytesPV c).length<=63:=by rw[H0];omega
  have g3:(bytesPV (flat (l.take i))++bytesPV c).length<=20000:=by rw[Bt];omega
  have hord:=Jv c (by omega);have e2:bytesPV (flat (l.take i))++bytesPV c++[.i .u8 46]=bytesPV (flat (l.take (i+1))):=by rw[e1];simp[bytesPV]
  have hb:Xt (.l 1 [.i .u8 46])=some (.s [46]):=H1 [46];rw[cw] at hlab;by_cases h42:c=[42]
  .subst h42;have hos:ord [42]=false:=by decide
   rw[hos] at hord;simp(disch:=omega)only[uq,hc,hord,hb,e2,Aw,simprocAttr]
  .have h1:ord c=true:=by simpa [h42] using hlab
   rw[h1] at hord;simp(disch:=omega)only[uq,hc,hord,hb,e2,Aw,simprocAttr]
 .have e:l.take l.length=l:=Ey;simp(disch:=omega)only[uq,e,Aw,simprocAttr]
  try simp[Out.goes]
def uk (l:List (List UInt8)) (hl:l.length<=255) (hw:∀x∈l,Jh x=true):S Bv0 1 [Dh l]=some [.s (joinL l).1,.i .i64 (joinL l).2]:=by
 refine Fp9 (N:=300) rfl ?_;unfold joinL;by_cases h:l=[]
 .subst h;simp(disch:=omega)only[uq,Aw,simprocAttr]
  try simp
 .have hp:=C1.2 h;have key:=Cb5 l hl hw 300 (by omega);have hfl:=Qq l hw;have hval:=C6 (flat l) (by omega);obtain⟨c,hc⟩:∃c,(flat l)[0]? =some c:=⟨_,B4 (rk h)⟩;have e0:¬((l.length:Int)=0):=by omega
  have e1:¬(255<(l.length:Int)):=by omega
  rw[if_neg h];rcases Bn (vld (flat l)) with hv|hv
  .rw[hv] at hval;simp only[hv,if_true];simp(disch:=omega)only[uq,key,hval,hc,e0,e1,Aw,simprocAttr]
  .rw[hv] at hval;simp only[hv,B5,if_false];simp(disch:=omega)only[uq,key,hval,hc,e0,e1,Aw,simprocAttr]
def starK (n:List UInt8) (b:Nat):List (List UInt8):=[42]::(labK n).drop ((labK n).length - b)
def Zv (n:List UInt8) (b:Nat):∀x∈starK n b,Jh x=true:=fun x hx=>by
 unfold starK at hx;rcases Ch.1 hx with rfl|hx
 .decide
 .exact Cb1 n x (Fq hx)
def Zq (n:List UInt8) (b:Nat):(starK n b).length<=255:=by have:=W1 n;unfold starK;rw[Cv,C5];omega
def ownK (n:List UInt8) (b:Int):List UInt8:=if b=((labK n).length:Int) then n else(joinL (starK n b.toNat)).1
def Cw0 (n:List UInt8) (b:Int) (hn:n.length<=9223372036854775807):(ownK n b).length<=9223372036854775807:=by
 unfold ownK;split
 .exact hn
 .have h1:=Qq (starK n b.toNat) (Zv n _);have h2:=Zq n b.toNat;unfold joinL;split
  .simp
  .split
   .simp only;omega
   .simp
def Bd7 (l:List (List UInt8)) (b:Nat) (hb:b<=l.length) (hl:l.length<=1000):J3 1 (Dh l) (.i .i64 ((l.length:Int) - (b:Int))) (.i .i64 (l.length:Int))=some (Dh (l.drop (l.length - b))):=by have e:=Ws l .i64 .i64 ((l.length:Int) - (b:Int)) (l.length:Int) (by omega) (by omega) (T1 _);rw[e,E7,Ey,show ((l.length:Int) - (b:Int)).toNat=l.length - b by omega]
def td (l:List (List UInt8)) (hl:l.length<=1000):Ip 1 (.l 1 [.s [42]]) (Dh l)=some (Dh ([42]::l)):=by have:=Pk 1 [.s [42]] (l.map .s) (by simp;omega);simpa [Dh] using this
def Cv9 (n:List UInt8) (b:Int) (hn:n.length<=9223372036854775807) (h0:0<=b) (h1:b<=((labK n).length:Int)):S pr 2 [.s n,.i .i64 b]=some [.s (ownK n b)]:=by
 refine Es9 (N:=1) rfl ?_;have k1:=U2 n hn;have hl:=W1 n;unfold ownK;by_cases h:b=((labK n).length:Int)
 .rw[if_pos h];simp(disch:=omega)only[Cm6,k1,h,Aw,simprocAttr]
 .rw[if_neg h];obtain⟨m,rfl⟩:∃m:Nat,b=(m:Int):=⟨b.toNat,by omega⟩;rw[E7];have ls:=Bd7 (labK n) m (by omega) (by omega);have hdl:((labK n).drop ((labK n).length - m)).length<=1000:=by rw[C5];omega
  have ap:=td _ hdl;have k2:=uk (starK n m) (Zq n m) (Zv n m);have e:starK n m=[42]::(labK n).drop ((labK n).length - m):=rfl;rw[<-e] at ap;have hlt:K5 1 [.s [42]]=some (.l 1 [.s [42]]):=rfl;generalize joinL (starK n m)=j at*;generalize starK n m=st at*;generalize (labK n).drop ((labK n).length - m)=dr at*;generalize labK n=lk at*;simp(disch:=omega)only[Cm6,k1,k2,h,ls,ap,hlt,Aw,simprocAttr]
def P6 {s:SetR} (h:SetW s):∀r∈unsetR s,r.wf:=fun r hr=>by unfold unsetR at hr;obtain⟨d,hd,rfl⟩:=Br0.1 hr;exact⟨h.name,h.typ,h.ttl,h.data d hd⟩
def Af4 (s:SetR):Bool:=decide (1<=s.data.length) && decide (s.data.length<=64) && decide (s.typ≠46) && (unsetR s).all zn
def gj (s:SetR) (h:SetW s) (hd:s.data.length<=1000000):S Bv4 1 [s.pv]=some [.b (Af4 s)]:=by
 have k1:=M1 s hd;have hul:(unsetR s).length=s.data.length:=by unfold unsetR;rw[H6]
 refine Fr8 (N:=s.data.length+1) rfl ?_;have key:Ct3.ev S (s.data.length+1) [s.pv,B9 (unsetR s)]=some (if(unsetR s).all zn=true then .yld 0 [] else .ret [.b false]):=by
  refine Em (unsetR s) (fun i=>[.i .i64 (i:Int)]) (fun i r=>if r.all zn=true then .yld 0 [] else .ret [.b false]) rfl (by omega) (fun i c r hd hi hc=> ?_) ?_
  .have k:=Bm8 c (P6 h c (Cz hc));have hil:(i:Int)<((unsetR s).length:Int):=by omega
   rcases Bn (zn c) with hv|hv
   .left;rw[hv] at k;refine⟨?_,by rw[d6,hv,Ks]⟩;simp(disch:=omega)only[fw,hc,hil,k,D9,Aw,simprocAttr]
   .right;rw[hv] at k;rw[d6,hv,Bool.false_and];simp(disch:=omega)only[fw,hc,hil,k,D9,Aw,simprocAttr];simp[Out.goes]
  .simp(disch:=omega)only[fw,Eb,D9,Aw,simprocAttr];simp[Out.goes]
 unfold Af4;by_cases h1:1<=s.data.length
 .have h1':¬(s.data.length:Int)<1:=by omega
  by_cases h2:s.data.length<=64
  .have h2':¬(64:Int)<(s.data.length:Int):=by omega
   by_cases h3:s.typ=46
   .simp(disch:=omega)only[fw,h1',h2',h3,D9,Aw,simprocAttr]
    try simp
   .rcases Bn ((unsetR s).all zn) with hv|hv<;>rw[hv] at key ⊢<;>simp(disch:=omega)only[fw,k1,key,h1',h2',h3,D9,Aw,simprocAttr]<;>simp[h1,h2]
  .have h2':(64:Int)<(s.data.length:Int):=by omega
   simp(disch:=omega)only[fw,h1',h2',D9,Aw,simprocAttr]
   try simp[h2]
 .have h1':(s.data.length:Int)<1:=by omega
  simp(disch:=omega)only[fw,h1',D9,Aw,simprocAttr]
  try simp[h1]
def L0 {t:Int} {d:Dat} (h:E4 t d=true):(wireD t d).length<=50000:=by
 have hn:=O5 h;have h1:=J7 d.host;have h2:=J7 d.mail;have h3:=Xp d.bits;have h4:=hn.text;have h5:(M8 d).length<=16:=by unfold M8;split<;>simp[En]
 unfold wireD
 repeat' split
 all_goals try simp only[Bt,En,Cn]
 all_goals omega
def Aq6 (d:Dat):∃x,wireD 46 d=x++d.text∧0<x.length:=by refine⟨be d.a 2++be 253 1++be d.b 1++be d.c 4++be d.d 4++be d.e 4++be d.f 2++wireN d.host,rfl,?_⟩;simp only[Bt,En];omega
def cn (s:SetR) (g:Dat):List UInt8:=wireN (ownK s.name g.b)++be s.typ 2++be 1 2++be g.c 4
def Zb (h:List UInt8) (r:Rec):List UInt8:=h++be ((wireD r.typ r.data).length:Int) 2++wireD r.typ r.data
def preK (g:Dat):List UInt8:=(wireD 46 g).take ((wireD 46 g).length - g.text.length)
def bodyK (s:SetR) (g:Dat):List UInt8:=preK g++(sortR (unsetR s)).flatMap (Zb (cn s g))
def signedM (s:SetR) (g:Dat):List UInt8×Int:=
 if E4 46 g=false∨Af4 s=false then([],5)
 else if g.a≠s.typ∨((labK s.name).length:Int)<g.b then([],1)
 else(bodyK s g,0)
def Cq8 (g:Dat):0<(preK g).length:=by obtain⟨x,hx,hp⟩:=Aq6 g;unfold preK;rw[hx,Bt,Vl,Qz];exact hp
def cm (s:SetR) (g:Dat):(cn s g).length<=20008:=by have:=J7 (ownK s.name g.b);unfold cn;simp only[Bt,En];omega
def Zz {h:List UInt8} {r:Rec} (hh:h.length<=20008) (hv:E4 r.typ r.data=true):(Zb h r).length<=70010:=by have:=L0 hv;unfold Zb;simp only[Bt,En];omega
def V7 {s:SetR} (h:Af4 s=true):1<=s.data.length∧s.data.length<=64∧∀r∈unsetR s,zn r=true:=by unfold Af4 at h;simp only[Bs,decide_eq_true_eq,Db] at h;exact⟨h.1.1.1,h.1.1.2,h.2⟩
def Cm7 {r:Rec} (h:zn r=true):E4 r.typ r.data=true:=by unfold zn at h;simp only[Bs] at h;exact h.2
def Fq7 {t:Int} (h:knw t=true):0<=t:=by unfold knw at h;simp only[Cw,decide_eq_true_eq] at h;omega
def Dd3 {s:SetR} (h:Af4 s=true):0<=s.typ:=by
 obtain⟨h1,_,h3⟩:=V7 h;cases hd:s.data with
 |nil=>rw[hd] at h1;simp at h1
 |cons d r=>
  have:=h3 ⟨s.name,s.typ,s.ttl,d⟩ (by unfold unsetR;rw[hd];exact .head _);unfold zn at this;simp only[Bs] at this;exact Fq7 this.1.1.1.2
def Y1 {w t:List UInt8} (h:t.length<=w.length):f6 (.s w) (.i .i64 0) (.i .i64 ((w.length:Int) - (t.length:Int)))=some (.s (w.take (w.length - t.length))):=by rw[Dc9 w .i64 .i64 0 _ (by omega) (by omega) (by omega),show ((w.length:Int) - (t.length:Int)).toNat=w.length - t.length by omega];rfl
def Ov (a b:List UInt8) (h:a.length+b.length<=1073741824):Ip 1 (.l 1 (bytesPV a)) (.l 1 (bytesPV b))=some (.l 1 (bytesPV (a++b))):=by have:=Pk 1 (bytesPV a) (bytesPV b) (by rw[H0,H0];exact h);rw[this];simp[bytesPV]
def Vf (b:List UInt8) (h:b.length<=1073741824):Ip 1 (Dh []) (.l 1 (bytesPV b))=some (.l 1 (bytesPV b)):=by have:=Ov [] b (by simpa using h);simpa [bytesPV,Dh] using this
def Ad8 {s:SetR} {r:Rec} (h:r∈sortR (unsetR s)):r∈unsetR s:=(((L4 (unsetR s)).2 r).1 h).mem
def Af2 (s:SetR) (g:Dat) (hw:SetW s) (hg:E4 46 g=true) (hs:Af4 s=true) (p4 p5 p6 p11:PV) (w1 w2 w3 w4:List UInt8) (hh:cn s g=w1++w2++w3++w4) (h1:w1.length<=20000) (h2:w2.length=2) (h3:w3.length=2) (h4:w4.length=4) (N:Nat) (hN:70<N):
  Ct2.ev S N [s.pv,g.pv,.s (wireD 46 g),.i .i64 0,p4,p5,p6,.s w1,.s w2,.s w3,.s w4,p11,B9 (sortR (unsetR s))]=some (.yld 0 [.l 1 (bytesPV (bodyK s g))]):=by
 obtain⟨_,hsl,hall⟩:=V7 hs;have hul:(unsetR s).length=s.data.length:=by unfold unsetR;rw[H6]
 have hrl:=L3 (unsetR s);have hwl:=L0 hg;have htl:g.text.length<=(wireD 46 g).length:=by obtain⟨x,hx,_⟩:=Aq6 g;rw[hx,Bt];omega
 have hpl:(preK g).length<=50000:=by unfold preK;rw[Cy];omega
 have ht:=Y1 htl;have hp0:=Vf (preK g) (by omega);have e0:(wireD 46 g).take ((wireD 46 g).length - g.text.length)=preK g:=rfl;rw[e0] at ht;unfold bodyK;have hmem:∀r∈sortR (unsetR s),r∈unsetR s:=fun r hr=>Ad8 hr;generalize sortR (unsetR s)=L at*;refine Ht L (fun i (b:List UInt8)=>[.i .i64 (i:Int),.l 1 (bytesPV b)]) (fun _ b r=> .yld 0 [.l 1 (bytesPV (b++r.flatMap (Zb (cn s g))))]) (fun i b=>b.length<=70010*(i+1)) (preK g) ?_ (by omega) (by omega) (fun i b c r hd hi hc hI=> ?_) (fun b _=> ?_)
 .generalize preK g=pk at*;generalize wireD 46 g=wd at*;simp(disch:=omega)only[ht,hp0,D9,Aw,simprocAttr]
  try simp
 .left;have hil:(i:Int)<(L.length:Int):=by omega
  have hcm:=hmem c (Cz hc);have hcw:=P6 hw c hcm;have hcv:=Cm7 (hall c hcm);have k1:=Ow c.typ c.data hcw.data;rw[if_pos hcv] at k1;have hdl:=L0 hcv;have k2:=Wn ((wireD c.typ c.data).length:Int) 2 (by omega) (by omega) (by omega);have h22:((2:Nat):Int)=2:=rfl;rw[h22] at k2;have hbl:=En ((wireD c.typ c.data).length:Int) 2;refine⟨b++Zb (cn s g) c,?_,?_,by simp⟩
  .have e:b++Zb (cn s g) c=b++(w1++w2++w3++w4)++be ((wireD c.typ c.data).length:Int) 2++wireD c.typ c.data:=by unfold Zb;rw[hh];simp
   rw[e];have a1:=Ov b (w1++w2++w3++w4) (by simp only[Bt];omega);have a2:=Ov (b++(w1++w2++w3++w4)) (be ((wireD c.typ c.data).length:Int) 2) (by simp only[Bt];omega);have a3:=Ov (b++(w1++w2++w3++w4)++be ((wireD c.typ c.data).length:Int) 2) (wireD c.typ c.data) (by simp only[Bt];omega);have l1:(w1++w2).length<=20002:=by rw[Bt];omega
   have l2:(w1++w2++w3).length<=20004:=by rw[Bt];omega
   have l3:(w1++w2++w3++w4).length<=20008:=by rw[Bt];omega
   generalize be ((wireD c.typ c.data).length:Int) 2=nb at*;generalize wireD c.typ c.data=wd at*;simp(disch:=omega)only[fq,hc,hil,k1,k2,a1,a2,a3,D9,Aw,simprocAttr]
  .have:=Zz (cm s g) hcv;rw[Bt];omega
 .simp(disch:=omega)only[fq,Eb,D9,Aw,simprocAttr];simp[Out.goes]
def Ec2 {g:Dat} (h:E4 46 g=true):0<=g.b∧0<=g.c∧g.text.length<=255:=⟨(O5 h).b,(O5 h).c,(O5 h).text⟩
def tj {s:SetR} {g:Dat} (hg:E4 46 g=true) (hs:Af4 s=true):(bodyK s g).length<=10000000∧0<(bodyK s g).length:=by
 obtain⟨_,hsl,hall⟩:=V7 hs;have hul:(unsetR s).length=s.data.length:=by unfold unsetR;rw[H6]
 have hrl:=L3 (unsetR s);have hwl:=L0 hg;have hpl:(preK g).length<=50000:=by unfold preK;rw[Cy];omega
 have hpp:=Cq8 g;have hf:∀l:List Rec,(∀r∈l,E4 r.typ r.data=true)->(l.flatMap (Zb (cn s g))).length<=70010*l.length:=by
  intro l
  induction l with
  |nil=>intro _;simp
  |cons r l ih=>
   intro h;have h1:=Zz (cm s g) (h r (.head _));have h2:=ih fun x hx=>h x (.tail _ hx);rw[Eg,Bt,Cv];omega
 have:=hf (sortR (unsetR s)) fun r hr=>Cm7 (hall r (Ad8 hr));unfold bodyK;rw[Bt];omega
def zc (s:SetR) (g:Dat) (hw:SetW s) (hgw:g.wf) (hd:s.data.length<=1000000):S Bv2 2 [s.pv,g.pv]=some [.s (signedM s g).1,.i .i64 (signedM s g).2]:=by
 have k1:=Ow 46 g hgw;have k2:=gj s hw hd;have k3:=U2 s.name hw.name;have hlk:=W1 s.name;unfold signedM;refine Fr5 (N:=100) rfl ?_;rcases Bn (E4 46 g) with hg|hg
 .rw[if_pos hg] at k1;rcases Bn (Af4 s) with hs|hs
  .rw[hs] at k2;rw[if_neg (by simp[hg,hs])];by_cases ha:g.a=s.typ
   .by_cases hb:((labK s.name).length:Int)<g.b
    .rw[if_pos (.inr hb)];generalize wireD 46 g=wd at*;generalize labK s.name=lk at*;simp(disch:=omega)only[fq,k1,k2,k3,ha,hb,D9,Aw,simprocAttr]
    .rw[if_neg (fun q=>q.elim (fun q=>q ha) hb)];obtain⟨hb0,hc0,_⟩:=Ec2 hg;obtain⟨_,hsl,hall⟩:=V7 hs;have hul:(unsetR s).length=s.data.length:=by unfold unsetR;rw[H6]
     have k4:=Cv9 s.name g.b hw.name hb0 (by omega);have k5:=Br7 (ownK s.name g.b) (Cw0 s.name g.b hw.name);have k6:=Wn s.typ 2 (by omega) (Dd3 hs) hw.typ.2;have k7:=Wn 1 2 (by omega) (by omega) (by omega);have k8:=Wn g.c 4 (by omega) hc0 hgw.c.2;have k9:=M1 s hd;have k10:=uj (unsetR s) (P6 hw) (by omega);have c2:((2:Nat):Int)=2:=rfl;have c4:((4:Nat):Int)=4:=rfl;rw[c2] at k6 k7;rw[c4] at k8;have n1:=J7 (ownK s.name g.b);have n2:=En s.typ 2;have n3:=En 1 2;have n4:=En g.c 4;have key:=fun p4 p5 p6 p11=>Af2 s g hw hg hs p4 p5 p6 p11 _ _ _ _ rfl n1 n2 n3 n4 100 (by omega);have l1:(wireN (ownK s.name g.b)++be s.typ 2).length<=20002:=by rw[Bt];omega
     have l2:(wireN (ownK s.name g.b)++be s.typ 2++be 1 2).length<=20004:=by rw[Bt];omega
     obtain⟨hbl,hbp⟩:=tj hg hs;have hwl:=L0 hg;have htl:g.text.length<=(wireD 46 g).length:=by obtain⟨x,hx,_⟩:=Aq6 g;rw[hx,Bt];omega
     have ht:=Y1 htl;have hp0:=Vf ((wireD 46 g).take ((wireD 46 g).length - g.text.length)) (by rw[Cy];omega);have htk:((wireD 46 g).take ((wireD 46 g).length - g.text.length)).length<=50000:=by rw[Cy];omega
     obtain⟨c0,hc00⟩:∃c0,(bodyK s g)[0]? =some c0:=⟨_,B4 hbp⟩;generalize bodyK s g=bd at*;generalize (wireD 46 g).take ((wireD 46 g).length - g.text.length)=tk at*;generalize wireD 46 g=wd at*;generalize sortR (unsetR s)=sr at*;generalize unsetR s=us at*;generalize be s.typ 2=b2 at*;generalize be 1 2=b3 at*;generalize be g.c 4=b4 at*;generalize wireN (ownK s.name g.b)=b1 at*;generalize ownK s.name g.b=ow at*;generalize labK s.name=lk at*;simp(disch:=omega)only[fq,k1,k2,k3,k4,k5,k6,k7,k8,k9,k10,key,ha,hb,ht,hp0,hc00,D9,Aw,simprocAttr]
   .rw[if_pos (.inl ha)];generalize wireD 46 g=wd at*;simp(disch:=omega)only[fq,k1,k2,ha,D9,Aw,simprocAttr]
  .rw[hs] at k2;rw[if_pos (.inr hs)];generalize wireD 46 g=wd at*;simp(disch:=omega)only[fq,k1,k2,D9,Aw,simprocAttr]
 .rw[if_pos (.inl hg)];rw[if_neg (by simp[hg]),if_pos (by decide)] at k1;simp(disch:=omega)only[fq,k1,D9,Aw,simprocAttr]
def tagK (d:Dat):Int:=if E4 48 d=true then Fl1 (wireD 48 d) else 0
def Ev2 (d:Dat) (h:d.wf):S Bv3 1 [d.pv]=some [.i .i64 (tagK d)]:=by
 have k1:=Ow 48 d h;unfold tagK;refine Fr6 (N:=1) rfl ?_;rcases Bn (E4 48 d) with hv|hv
 .have hl:=L0 hv;have k2:=Ev1 (wireD 48 d) (by omega);rw[if_pos hv] at k1 ⊢;generalize wireD 48 d=w at*;simp(disch:=omega)only[Ex3,k1,k2,Aw,simprocAttr]
 .rw[if_neg (by simp[hv]),if_pos (by decide)] at k1;rw[if_neg (by simp[hv])];simp(disch:=omega)only[Ex3,k1,Aw,simprocAttr]
def Ev7 (zone:List UInt8) (key:Dat) (s:SetR) (g:Dat) (now:Int):Int:=
 if g.host≠zone∨under s.name zone=false∨g.f≠tagK key then 18
 else if E4 48 key=false then 5
 else if(signedM s g).2≠0 then(signedM s g).2
 else if now<g.e∨g.d<now then 20
 else if g.text≠macM key.text (signedM s g).1 then 19
 else 0
def u6 (s:SetR) (g:Dat):(signedM s g).1.length<=10000000:=by
 unfold signedM;split
 .simp
 .rename_i h;split
  .simp
  .have hg:E4 46 g=true:=by
    rcases Bn (E4 46 g) with q|q
    .exact q
    .exact absurd (.inl q) h
   have hs:Af4 s=true:=by
    rcases Bn (Af4 s) with q|q
    .exact q
    .exact absurd (.inr q) h
   exact(tj hg hs).1
def zb (zone:List UInt8) (key:Dat) (s:SetR) (g:Dat) (now:Int) (hz:zone.length<=9223372036854775807) (hk:key.wf) (hw:SetW s) (hgw:g.wf) (hd:s.data.length<=1000000):
  S Cx8 5 [.s zone,key.pv,s.pv,g.pv,.i .i64 now]=some [.i .i64 (Ev7 zone key s g now)]:=by
 have k1:=Fx s.name zone hw.name hz;have k2:=Ev2 key hk;have k3:=O2 48 key hk;have k4:=zc s g hw hgw hd;have hsl:=u6 s g;unfold Ev7;refine Fr3 (N:=1) rfl ?_;generalize tagK key=tk at*;by_cases h1:g.host=zone
 .rcases Bn (under s.name zone) with h2|h2
  .rw[h2] at k1;by_cases h3:g.f=tk
   .rw[if_neg (by simp[h1,h2,h3])];rcases Bn (E4 48 key) with h4|h4
    .have h4t:key.text.length<=255:=(O5 h4).text;have k5:=Ev4 key.text (signedM s g).1 (by omega) (by omega);rw[h4] at k3;rw[if_neg (by simp[h4])];generalize macM key.text (signedM s g).1=mm at*;generalize signedM s g=sm at*;by_cases h5:sm.2=0
     .rw[if_neg (by simp[h5])];by_cases h6:now<g.e
      .rw[if_pos (.inl h6)];simp(disch:=omega)only[Vs,k1,k2,k3,k4,h1,h3,h5,h6,D9,Aw,simprocAttr]
      .by_cases h7:g.d<now
       .rw[if_pos (.inr h7)];simp(disch:=omega)only[Vs,k1,k2,k3,k4,h1,h3,h5,h6,h7,D9,Aw,simprocAttr]
       .rw[if_neg (fun q=>q.elim h6 h7)];by_cases h8:g.text=mm
        .rw[if_neg (by simp[h8])];simp(disch:=omega)only[Vs,k1,k2,k3,k4,k5,h1,h3,h5,h6,h7,h8,D9,Aw,simprocAttr]
        .rw[if_pos h8];simp(disch:=omega)only[Vs,k1,k2,k3,k4,k5,h1,h3,h5,h6,h7,h8,D9,Aw,simprocAttr]
     .rw[if_pos h5];simp(disch:=omega)only[Vs,k1,k2,k3,k4,h1,h3,h5,D9,Aw,simprocAttr]
    .rw[h4] at k3;rw[if_pos h4];simp(disch:=omega)only[Vs,k1,k2,k3,h1,h3,D9,Aw,simprocAttr]
   .rw[if_pos (.inr (.inr h3))];simp(disch:=omega)only[Vs,k1,k2,h1,h3,D9,Aw,simprocAttr]
  .rw[h2] at k1;rw[if_pos (.inr (.inl h2))];simp(disch:=omega)only[Vs,k1,h1,D9,Aw,simprocAttr]
 .rw[if_pos (.inl h1)];simp(disch:=omega)only[Vs,h1,D9,Aw,simprocAttr]
set_option maxRecDepth 100000 in
def zw:S Bv9 0 []=some [.b true]:=(Q7 ext_mono).2 ⟨400,by kernel_rfl⟩
def Fn4 (s:SetR) (r:Rec):Bool:=decide (r.typ=46) && decide (r.name=s.name) && decide (r.data.a=s.typ)
def Fc2 (zone:List UInt8) (keys:List Dat) (s:SetR) (g:Dat) (now:Int):Bool:=keys.any fun k=>decide (Ev7 zone k s g now=0)
def verR (zone:List UInt8) (keys:List Dat) (now:Int) (s:SetR) (r:Rec):Bool:=Fn4 s r && Fc2 zone keys s r.data now
structure AskOk (zone:List UInt8) (keys:List Dat):Prop where
 zoneL:zone.length<=9223372036854775807
 keysW:∀d∈keys,d.wf
 few:keys.length<=1000
def Qn (zone:List UInt8) (keys:List Dat) (s:SetR) (r:Rec) (now:Int) (ha:AskOk zone keys) (hs:SetW s) (hd:s.data.length<=1000000) (hr:r.wf):
  S yj 5 [.s zone,Ez keys,s.pv,r.pv,.i .i64 now]=some [.b (verR zone keys now s r)]:=by
 have hf:=ha.few;have key:Dj4.ev S (keys.length+1) [.s zone,Ez keys,s.pv,r.pv,.i .i64 now]=some (if Fc2 zone keys s r.data now=true then .ret [.b true] else .yld 0 []):=by
  unfold Fc2;refine Em keys (fun i=>[.i .i64 (i:Int)]) (fun _ l=>if(l.any fun k=>decide (Ev7 zone k s r.data now=0))=true then .ret [.b true] else .yld 0 []) rfl (by omega) (fun i c l hd2 hi hc=> ?_) ?_
  .have k:=zb zone c s r.data now ha.zoneL (ha.keysW c (Cz hc)) hs hr.data hd;have hil:(i:Int)<(keys.length:Int):=by omega
   by_cases h:Ev7 zone c s r.data now=0
   .right;simp(disch:=omega)only[fz,hc,hil,k,h,D9,Aw,simprocAttr];simp[h,Out.goes]
   .left;refine⟨?_,by simp[h]⟩;simp(disch:=omega)only[fz,hc,hil,k,h,D9,Aw,simprocAttr]
  .simp(disch:=omega)only[fz,Eb,D9,Aw,simprocAttr];simp[Out.goes]
 refine Ft1 (N:=keys.length+1) rfl ?_;unfold verR Fn4;by_cases h1:r.typ=46
 .by_cases h2:r.name=s.name
  .by_cases h3:r.data.a=s.typ
   .rcases Bn (Fc2 zone keys s r.data now) with hv|hv<;>rw[hv] at key ⊢<;>simp(disch:=omega)only[fz,key,h1,h2,h3,D9,Aw,simprocAttr]<;>simp
   .simp(disch:=omega)only[fz,h1,h2,h3,D9,Aw,simprocAttr]
    try simp[h3]
  .simp(disch:=omega)only[fz,h1,h2,D9,Aw,simprocAttr]
   try simp[h2]
 .simp(disch:=omega)only[fz,h1,D9,Aw,simprocAttr]
  try simp[h1]
def Cd8 (x:Ask):S Fc8 1 [x.pv]=some [.b (decide ((x.keys.length:Int)<=8))]:=by refine Gw6 (N:=1) rfl ?_;simp(disch:=omega)only[Gw3,Bn4,D9,Aw,simprocAttr]
def zS:SetR:=⟨[],0,0,[]⟩
def isS (n:List UInt8) (t:Int) (x:SetR):Bool:=decide (x.name=n) && decide (x.typ=t)
def setF (l:List SetR) (n:List UInt8) (t:Int):Option SetR:=l.find? (isS n t)
def Fc7:Option SetR->List PV
 |some x=>[x.pv,.b true]
 |none=>[zS.pv,.b false]
def Sy (l:List SetR) (n:List UInt8) (t:Int) (hl:l.length<=1000000):S xp 3 [D6 l,.s n,.i .i64 t]=some (Fc7 (setF l n t)):=by
 have key:Ct5.ev S (l.length+1) [D6 l,.s n,.i .i64 t]=some (match setF l n t with|some x=> .ret [x.pv,.b true]|none=> .yld 0 [.s [],.i .i64 0,.i .i64 0,Ez []]):=by
  unfold setF;refine Em l (fun i=>[.i .i64 (i:Int),.s [],.i .i64 0,.i .i64 0,Ez []]) (fun _ l=>match l.find? (isS n t) with|some x=> .ret [x.pv,.b true]|none=> .yld 0 [.s [],.i .i64 0,.i .i64 0,Ez []]) (by simp(disch:=omega)only[D9,Aw,simprocAttr]) (by omega) (fun i c r hd2 hi hc=> ?_) ?_
  .have hil:(i:Int)<(l.length:Int):=by omega
   by_cases h1:c.name=n
   .by_cases h2:c.typ=t
    .right;have e:(c::r).find? (isS n t)=some c:=Vm (by simp[isS,h1,h2]);rw[e];simp(disch:=omega)only[uv,hc,hil,h1,h2,D9,Aw,simprocAttr];simp[Out.goes]
    .left;have e:(c::r).find? (isS n t)=r.find? (isS n t):=Fz (by simp[isS,h2]);refine⟨?_,by rw[e]⟩;simp(disch:=omega)only[uv,hc,hil,h1,h2,D9,Aw,simprocAttr]
   .left;have e:(c::r).find? (isS n t)=r.find? (isS n t):=Fz (by simp[isS,h1]);refine⟨?_,by rw[e]⟩;simp(disch:=omega)only[uv,hc,hil,h1,D9,Aw,simprocAttr]
  .simp(disch:=omega)only[uv,Eb,D9,Aw,simprocAttr];simp[Out.goes]
 refine Fs0 (N:=l.length+1) rfl ?_;cases h:setF l n t with
 |some x=>
  rw[h] at key;simp only at key;simp(disch:=omega)only[uv,key,Fc7,D9,Aw,simprocAttr]
 |none=>
  rw[h] at key;simp only at key;simp(disch:=omega)only[uv,key,Fc7,D9,Aw,simprocAttr]
  try rfl
def m7 (l:List Rec):(setsR l).length<=l.length:=by
 have h:∀(l:List Rec) (g:List SetR),(l.foldl addS g).length<=g.length+l.length:=by
  intro l
  induction l with
  |nil=>intro g;exact B7 _
  |cons r l ih=>
   intro g;have h1:=ih (addS g r);have h2:=t6 g r;rw[Yd,Cv];omega
 have h1:=h (sortR l) [];have h2:=L3 l;unfold setsR Cj1;rw[Cn] at h1;omega
def Fb6 {g:List SetR} {r:Rec} (hg:∀x∈g,SetW x) (hr:r.wf):∀x∈addS g r,SetW x:=by
 have h1:SetW ⟨r.name,r.typ,r.ttl,[r.data]⟩:=⟨hr.name,hr.typ,hr.ttl,fun d hd=>by rw[Cf.1 hd];exact hr.data⟩;intro x hx;unfold addS at hx;split at hx
 .rename_i y hy;have hym:=hg y (Aj3 hy);split at hx
  .rcases Ct.1 hx with hx|hx
   .exact hg x (Aj5 _ hx)
   .rw[Cf.1 hx];refine⟨hym.name,hym.typ,?_,fun d hd=> ?_⟩
    .show Yj (if r.ttl<y.ttl then r.ttl else y.ttl);split
     .exact hr.ttl
     .exact hym.ttl
    .rcases Ct.1 hd with hd|hd
     .exact hym.data d hd
     .rw[Cf.1 hd];exact hr.data
  .rcases Ct.1 hx with hx|hx
   .exact hg x hx
   .rw[Cf.1 hx];exact h1
 .rw[Cf.1 hx];exact h1
def Eq9 {g:List SetR} {r:Rec} {n:Nat} (hg:∀x∈g,x.data.length<=n):∀x∈addS g r,x.data.length<=n+1:=by
 intro x hx;unfold addS at hx;split at hx
 .rename_i y hy;have hym:=hg y (Aj3 hy);split at hx
  .rcases Ct.1 hx with hx|hx
   .have:=hg x (Aj5 _ hx);omega
   .rw[Cf.1 hx];show (y.data++[r.data]).length<=n+1;rw[Bt,Iw];omega
  .rcases Ct.1 hx with hx|hx
   .have:=hg x hx;omega
   .rw[Cf.1 hx];simp
 .rw[Cf.1 hx];simp
def Af7:∀(l:List Rec) (g:List SetR) (n:Nat),(∀x∈g,SetW x)->(∀x∈g,x.data.length<=n)->(∀r∈l,r.wf)->∀x∈l.foldl addS g,SetW x∧x.data.length<=n+l.length
 |[],g,n,h1,h2,_=>fun x hx=>⟨h1 x hx,by have:=h2 x hx;simpa using this⟩
 |r::l,g,n,h1,h2,h3=>fun x hx=>by obtain⟨i1,i2⟩:=Af7 l (addS g r) (n+1) (Fb6 h1 (h3 r (.head _))) (Eq9 h2) (fun y hy=>h3 y (.tail _ hy)) x hx;exact⟨i1,by rw[Cv];omega⟩
def V8 (l:List Rec) (hw:∀r∈l,r.wf):∀x∈setsR l,SetW x∧x.data.length<=l.length:=fun x hx=>by obtain⟨h1,h2⟩:=Af7 (sortR l) [] 0 (by simp) (by simp) (fun r hr=>hw r (((L4 l).2 r).1 hr).mem) x hx;have:=L3 l;exact⟨h1,by omega⟩
def Gw2:SetW zS:=⟨Df _,⟨by decide,by decide⟩,⟨by decide,by decide⟩,by simp[zS]⟩
def Cn4 {l:List Rec} {n:List UInt8} {t:Int} (hw:∀r∈l,r.wf):SetW ((setF (setsR l) n t).getD zS)∧((setF (setsR l) n t).getD zS).data.length<=l.length:=by
 cases h:setF (setsR l) n t with
 |some x=>exact V8 l hw x (List.mem_of_find?_eq_some h)
 |none=>exact⟨Gw2,by simp[zS]⟩
def gq (o:Option SetR):Fc7 o=[(o.getD zS).pv,.b o.isSome]:=by cases o<;>rfl
end Go.X.G
/- validate: what a checker knows, by the program. -/
namespace Go.X
open Go
structure Ck where
 zone:List UInt8
 keys:List Dat
 m:Msg
 now:Int
 ans:List SetR
 auth:List SetR
 proofs:List Rec
def Ck.cells (c:Ck):List PV:= .s c.zone::Ez c.keys::(c.m.cells++[.i .i64 c.now,D6 c.ans,D6 c.auth,B9 c.proofs])
def Ck.av (c:Ck):PV:= .a c.cells
def Ck.pt (c:Ck):PV:= .pt c.cells
def Fz2 (c:Ck):jm c.pt=some c.av:=rfl
def Dd8 (c:Ck):Iz c.pt=some c.pt:=rfl
def Cq7 (c:Ck):C0 0 c.av=some (.s c.zone):=rfl
def Cq6 (c:Ck):C0 1 c.av=some (Ez c.keys):=rfl
def Cq5 (c:Ck):C0 4 c.av=some (.i .i64 c.m.code):=rfl
def At9 (c:Ck):C0 15 c.av=some (.i .i64 c.m.q.typ):=rfl
def At8 (c:Ck):C0 16 c.av=some (B9 c.m.ans):=rfl
def At7 (c:Ck):C0 17 c.av=some (B9 c.m.auth):=rfl
def At6 (c:Ck):C0 19 c.av=some (.i .i64 c.now):=rfl
def At5 (c:Ck):C0 20 c.av=some (D6 c.ans):=rfl
def At4 (c:Ck):C0 21 c.av=some (D6 c.auth):=rfl
def At3 (c:Ck):C0 22 c.av=some (B9 c.proofs):=rfl
def Bs7 (c:Ck):J2 14 2 c.av=some c.m.q.pv:=rfl
def Fq4 (z:List UInt8) (k:List Dat) (id op code size qt now:Int) (b1 b2 b3 b4 b5 b6 b7 b8:Bool) (qn:List UInt8) (an au ex p:List Rec) (a b:List SetR):
  iq 0 (.a [.s z,Ez k,.i .i64 id,.i .i64 op,.i .i64 code,.b b1,.b b2,.b b3,.b b4,.b b5,.b b6,.b b7,.b b8,.i .i64 size,.s qn,.i .i64 qt,B9 an,B9 au,B9 ex,.i .i64 now,D6 a,D6 b,B9 p])=
   some (Ck.pt ⟨z,k,⟨id,op,code,b1,b2,b3,b4,b5,b6,b7,b8,size,⟨qn,qt⟩,an,au,ex⟩,now,a,b,p⟩):=rfl
set_option linter.defProp false in
def Fh:=(And.intro @H8 (And.intro @H7 (And.intro @Fz2 (And.intro @Dd8 (And.intro @Cq7 (And.intro @Cq6 (And.intro @Cq5 (And.intro @At9 (And.intro @At8 (And.intro @At7 (And.intro @At6 (And.intro @At5 (And.intro @At4 (And.intro @At3 (And.intro @Bs7 @Fq4)))))))))))))))
end Go.X
namespace Go.X.G
open Go Go.X
def jp (n:List UInt8) (hn:n.length<=9223372036854775807):S Cx7 1 [.s n]=some [.i .i64 ((labK n).length:Int)]:=by
 refine Fr1 (N:=1) rfl ?_;have k1:=Ik n hn;have hl:=Jy n;unfold labK;generalize lbl n=l at*;cases l with
 |nil=>simp(disch:=omega)only[Dv1,k1,Aw,simprocAttr];try simp
 |cons c r=>
  have hc:(c::r)[0]? =some c:=rfl;have hp:(0:Int)<((c::r).length:Int):=by rw[Cv];omega
  have hd:(((c::r).drop 1).length:Int)=((c::r).length:Int) - 1:=by rw[C5,Cv];omega
  by_cases h:c=[42]
  .rw[if_pos (by rw[hc,h]),hd];generalize hg:c::r=l at*;simp(disch:=omega)only[Dv1,k1,hc,hp,h,Aw,simprocAttr]
  .rw[if_neg (by rw[hc];simpa using h)];generalize hg:c::r=l at*;simp(disch:=omega)only[Dv1,k1,hc,hp,h,Aw,simprocAttr]
def setsN (l:List Rec):List SetR:=(setsR l).filter fun s=> !decide (s.typ=46)
def Zc (l:List Rec) (hw:∀r∈l,r.wf) (hl:l.length<=100000):S Bv1 1 [B9 l]=some [D6 (setsN l)]:=by
 have k1:=Ch8 l hw hl;have hsl:=m7 l;unfold setsN;generalize setsR l=ss at*;refine Fr2 (N:=ss.length+1) rfl ?_;have key:Ct1.ev S (ss.length+1) [B9 l,D6 ss]=some (.yld 0 [D6 ([]++ss.filter fun s=> !decide (s.typ=46))]):=by
  refine Ht ss (fun i (g:List SetR)=>[D6 g,.i .i64 (i:Int)]) (fun _ g r=> .yld 0 [D6 (g++r.filter fun s=> !decide (s.typ=46))]) (fun i g=>g.length<=i) [] (by simp(disch:=omega)only[D9,Aw,simprocAttr]) (Df _) (by omega) (fun i g c r hd hi hc hI=> ?_) (fun g hI=> ?_)
  .left;have hil:(i:Int)<(ss.length:Int):=by omega
   by_cases h:c.typ=46
   .refine⟨g,?_,by omega,by rw[G7 (by simp[h])]⟩;simp(disch:=omega)only[Br4,hc,hil,h,D9,Aw,simprocAttr]
   .refine⟨g++[c],?_,by rw[Bt,Iw];omega,by rw[Dy (by simp[h]),Cq];rfl⟩;simp(disch:=omega)only[Br4,hc,hil,h,D9,Aw,simprocAttr]
  .simp(disch:=omega)only[Br4,Eb,D9,Aw,simprocAttr];simp[Out.goes]
 rw[D2] at key;generalize ss.filter (fun s=> !decide (s.typ=46))=sf at*;simp(disch:=omega)only[Br4,k1,key,D9,Aw,simprocAttr]
def Df3 (zone:List UInt8) (keys:List Dat) (now:Int) (s:SetR) (r:Rec):Bool:=decide (r.data.b=((labK s.name).length:Int)) && verR zone keys now s r
def provB (zone:List UInt8) (keys:List Dat) (now:Int) (s:SetR) (sec:List Rec):Bool:=sec.any (Df3 zone keys now s)
def Nf (c:Ck) (s:SetR) (sec:List Rec) (ha:AskOk c.zone c.keys) (hs:SetW s) (hd:s.data.length<=1000000) (hw:∀r∈sec,r.wf) (hl:sec.length<=1000000):
  S g8 3 [c.pt,s.pv,B9 sec]=some [.b (provB c.zone c.keys c.now s sec)]:=by
 have k1:=jp s.name hs.name;have key:Dj2.ev S (sec.length+1) [c.pt,s.pv,B9 sec]=some (if provB c.zone c.keys c.now s sec=true then .ret [.b true] else .yld 0 []):=by
  unfold provB;refine Em sec (fun i=>[.i .i64 (i:Int)]) (fun _ l=>if l.any (Df3 c.zone c.keys c.now s)=true then .ret [.b true] else .yld 0 []) rfl (by omega) (fun i x l hd2 hi hx=> ?_) ?_
  .have k2:=Qn c.zone c.keys s x c.now ha hs hd (hw x (Cz hx));have hil:(i:Int)<(sec.length:Int):=by omega
   have e:Df3 c.zone c.keys c.now s x=(decide (x.data.b=((labK s.name).length:Int)) && verR c.zone c.keys c.now s x):=rfl;generalize verR c.zone c.keys c.now s x=v at*;generalize ((labK s.name).length:Int)=n at*;by_cases h:x.data.b=n
   .cases v with
    |true=>
     right;have e1:Df3 c.zone c.keys c.now s x=true:=by rw[e];simp[h]
     simp(disch:=omega)only[Ak1,hx,hil,k1,k2,h,Fh,D9,Aw,simprocAttr];simp[e1,Out.goes]
    |false=>
     left;have e1:Df3 c.zone c.keys c.now s x=false:=by rw[e];simp
     refine⟨?_,by simp[e1]⟩;simp(disch:=omega)only[Ak1,hx,hil,k1,k2,h,Fh,D9,Aw,simprocAttr]
   .left;have e1:Df3 c.zone c.keys c.now s x=false:=by rw[e];simp[h]
    refine⟨?_,by simp[e1]⟩;simp(disch:=omega)only[Ak1,hx,hil,k1,h,Fh,D9,Aw,simprocAttr]
  .simp(disch:=omega)only[Ak1,Eb,Fh,D9,Aw,simprocAttr];simp[Out.goes]
 refine Fs9 (N:=sec.length+1) rfl ?_;rcases Bn (provB c.zone c.keys c.now s sec) with hv|hv<;>rw[hv] at key ⊢<;>simp(disch:=omega)only[Ak1,key,Fh,D9,Aw,simprocAttr]<;>simp
structure MsgOk (m:Msg):Prop where
 ans:m.ans.length<=1000
 auth:m.auth.length<=1000
 answ:∀r∈m.ans,r.wf
 authw:∀r∈m.auth,r.wf
 qn:m.q.name.length<=9223372036854775807
def im (zone:List UInt8) (keys:List Dat) (now:Int) (sec:List Rec) (s:SetR):Bool:=decide (s.typ=47) && under s.name zone && provB zone keys now s sec
def xy (zone:List UInt8) (keys:List Dat) (now:Int) (sec:List Rec) (s:SetR):List Rec:=if im zone keys now sec s=true then unsetR s else []
def proofsN (zone:List UInt8) (keys:List Dat) (m:Msg) (now:Int):List Rec:=(setsR m.auth).flatMap (xy zone keys now m.auth)
def Sq {D K:Type} (p:D->Bool) (f:D->List K):∀l:List D,(∀x∈l,p x=false->f x=[])->(l.filter p).flatMap f=l.flatMap f
 |[],_=>rfl
 |x::l,h=>by
  have ih:=Sq p f l fun y hy=>h y (.tail _ hy);rcases Bn (p x) with hp|hp
  .rw[Dy hp,Eg,Eg,ih]
  .rw[G7 (by simp[hp]),Eg,h x (.head _) hp,ih,D2]
def wj (zone:List UInt8) (keys:List Dat) (m:Msg) (now:Int):(setsN m.auth).flatMap (xy zone keys now m.auth)=proofsN zone keys m now:=by refine Sq _ _ _ fun s _ hs=> ?_;simp only[Bool.not_eq_false',decide_eq_true_eq] at hs;unfold xy im;simp[hs]
def Yx (l:List SetR):Nat:=(l.map fun s=>s.data.length).sum
def Xb (a b:List SetR):Yx (a++b)=Yx a+Yx b:=by simp[Yx]
def Ch5 (g:List SetR) (r:Rec):Yx (addS g r)<=Yx g+1:=by
 unfold addS;split
 .rename_i y hy;split
  .have hne:g≠[]:=fun e=>by rw[e] at hy;cases hy
   have hgl:=List.getLast?_eq_some_getLast hne;rw[hy] at hgl;injection hgl with hgl;have e:Yx g=Yx (g.dropLast++[y]):=by rw[hgl,Gt]
   rw[e,Xb,Xb];simp[Yx];omega
  .rw[Xb];simp[Yx]
 .simp[Yx]
def Af6 (l:List Rec):Yx (setsR l)<=l.length:=by
 have h:∀(l:List Rec) (g:List SetR),Yx (l.foldl addS g)<=Yx g+l.length:=by
  intro l
  induction l with
  |nil=>intro g;exact B7 _
  |cons r l ih=>
   intro g;have h1:=ih (addS g r);have h2:=Ch5 g r;rw[Yd,Cv];omega
 have h1:=h (sortR l) [];have h2:=L3 l;have h3:Yx ([]:List SetR)=0:=rfl;unfold setsR Cj1;omega
def nw (zone:List UInt8) (keys:List Dat) (now:Int) (sec:List Rec):∀l:List SetR,(l.flatMap (xy zone keys now sec)).length<=Yx l
 |[]=>by simp[Yx]
 |s::l=>by
  have ih:=nw zone keys now sec l;have h:(xy zone keys now sec s).length<=s.data.length:=by
   unfold xy;split
   .unfold unsetR;rw[H6];exact B7 _
   .simp
  rw[Eg,Bt];simp only[Yx,Gq,List.sum_cons] at ih ⊢;omega
def Ry (zone:List UInt8) (keys:List Dat) (m:Msg) (now:Int):(proofsN zone keys m now).length<=m.auth.length:=
 Ex (nw _ _ _ _ _) (Af6 _)
def v9 (zone:List UInt8) (keys:List Dat) (m:Msg) (now:Int) (hw:∀r∈m.auth,r.wf):∀r∈proofsN zone keys m now,r.wf:=fun r hr=>by
 obtain⟨s,hs,hr⟩:=List.mem_flatMap.1 hr;unfold xy at hr;split at hr
 .exact P6 (V8 m.auth hw s hs).1 r hr
 .cases hr
def ckM (zone:List UInt8) (keys:List Dat) (m:Msg) (now:Int):Ck:=⟨zone,keys,m,now,setsN m.ans,setsN m.auth,proofsN zone keys m now⟩
def gk (l:List Rec) (hw:∀r∈l,r.wf):∀x∈setsN l,SetW x∧x.data.length<=l.length:=fun x hx=>V8 l hw x (D8.1 hx).1
def P8 (l:List Rec):(setsN l).length<=l.length:=Ex (et _ _) (m7 l)
def Bw3 (zone:List UInt8) (keys:List Dat) (m:Msg) (now:Int) (ha:AskOk zone keys) (hm:MsgOk m):S Bv6 4 [.s zone,Ez keys,m.pv,.i .i64 now]=some [(ckM zone keys m now).pt]:=by
 have hm1:=hm.ans;have hm2:=hm.auth;have k1:=Zc m.ans hm.answ (by omega);have k2:=Zc m.auth hm.authw (by omega);have hnl:=P8 m.auth;have hnw:=gk m.auth hm.authw;have hsm:∀l:List SetR,(∀x∈l,x∈setsN m.auth)->True:=fun _ _=>trivial;have key:∀p4,Dj3.ev S ((setsN m.auth).length+1) [.s zone,Ez keys,m.pv,.i .i64 now,D6 p4,D6 (setsN m.auth)]=some (.yld 0 [B9 ([]++(setsN m.auth).flatMap (xy zone keys now m.auth))]):=by
  intro p4;refine Ht (setsN m.auth) (fun i (g:List Rec)=>[.i .i64 (i:Int),B9 g]) (fun _ g r=> .yld 0 [B9 (g++r.flatMap (xy zone keys now m.auth))]) (fun i g=>g.length<=1000*i) [] (by simp(disch:=omega)only[D9,Aw,simprocAttr]) (Df _) (by omega) (fun i g s r hd hi hs hI=> ?_) (fun g hI=> ?_)
  .left;have hil:(i:Int)<((setsN m.auth).length:Int):=by omega
   obtain⟨hsw,hsd⟩:=hnw s (Cz hs);have k3:=Fx s.name zone hsw.name ha.zoneL;have k4:=Nf ⟨zone,keys,m,now,p4,setsN m.auth,g⟩ s m.auth ha hsw (by omega) hm.authw (by omega);have k5:=M1 s (by omega);have hul:(unsetR s).length=s.data.length:=by unfold unsetR;rw[H6]
   simp only at k4;have a1:=Qy g (unsetR s) (by omega);refine⟨g++xy zone keys now m.auth s,?_,?_,by rw[Eg,Cq]⟩
   .unfold xy im;generalize setsN m.auth=sn at*;by_cases h1:s.typ=47
    .rcases Bn (under s.name zone) with h2|h2
     .rw[h2] at k3;rcases Bn (provB zone keys now s m.auth) with h3|h3
      .rw[h3] at k4;rw[if_pos (by simp[h1,h2,h3])];simp(disch:=omega)only[uy,hs,hil,k3,k4,k5,a1,h1,Fh,EVT,EVM,D9,Aw,simprocAttr]
      .rw[h3] at k4;rw[if_neg (by simp[h3]),Ec];simp(disch:=omega)only[uy,hs,hil,k3,k4,h1,Fh,EVT,EVM,D9,Aw,simprocAttr]
     .rw[h2] at k3;rw[if_neg (by simp[h2]),Ec];simp(disch:=omega)only[uy,hs,hil,k3,h1,Fh,EVT,EVM,D9,Aw,simprocAttr]
    .rw[if_neg (by simp[h1]),Ec];simp(disch:=omega)only[uy,hs,hil,h1,Fh,EVT,EVM,D9,Aw,simprocAttr]
   .rw[Bt];have:(xy zone keys now m.auth s).length<=1000:=by
     unfold xy;split
     .omega
     .simp
    omega
  .simp(disch:=omega)only[uy,Eb,Fh,EVT,EVM,D9,Aw,simprocAttr];simp[Out.goes]
 rw[D2,wj] at key;refine Ft0 (N:=(setsN m.auth).length+1) rfl ?_;unfold ckM;generalize proofsN zone keys m now=pf at*;generalize setsN m.auth=sn at*;generalize setsN m.ans=sa at*;simp(disch:=omega)only[uy,k1,k2,key,Fh,EVT,EVM,D9,Aw,simprocAttr]
end Go.X.G
namespace Go.X.G
open Go Go.X
def Yk (r:Rec) (t:Int):Bool:=decide (0<=t) && decide (t<=63) && decide (bit r.data.bits t.toNat=1)
def J9 (r:Rec) (t:Int):S Lv 2 [r.pv,.i .i64 t]=some [.b (Yk r t)]:=by
 refine Em6 (N:=1) rfl ?_;unfold Yk;by_cases h1:0<=t
 .by_cases h2:t<=63
  .obtain⟨n,rfl⟩:∃n:Nat,t=(n:Int):=⟨t.toNat,by omega⟩;have hb:IntKind.u64.bits=64:=rfl;have h3:X.bin .shr (.i .u64 r.data.bits) (.i .i64 (n:Int))=some (.i .u64 (r.data.bits / 2 ^ n)):=Tv _ _ _ _ (by rw[hb];omega);have h4:r.data.bits / 2 ^ n % 2=bit r.data.bits n:=rfl;simp(disch:=omega)only[Ak6,S1,Fd9,h3,h4,Ax,simprocAttr]
   try simp
   try omega
  .simp(disch:=omega)only[Ak6,Ax,simprocAttr]
   try simp[h2]
 .simp(disch:=omega)only[Ak6,Ax,simprocAttr]
  try simp[h1]
def Mn (n top:List UInt8):Bool:=decide (n≠top) && under n top
def Hc (n top:List UInt8) (hn:n.length<=9223372036854775807) (ht:top.length<=9223372036854775807):S Us 2 [.s n,.s top]=some [.b (Mn n top)]:=by
 refine Er6 (N:=1) rfl ?_;unfold Mn;by_cases h:n=top
 .simp(disch:=omega)only[Cm4,h,Ax,simprocAttr]
  try simp
 .simp(disch:=omega)only[Cm4,Fx,h,Ax,simprocAttr]
  try simp
def dz (r:Rec):Bool:=Yk r 39||(Yk r 2 && !Yk r 6)
def sk (r:Rec):S og 1 [r.pv]=some [.b (dz r)]:=by refine Em7 (N:=1) rfl ?_;unfold dz;rcases Bn (Yk r 39) with h1|h1<;>rcases Bn (Yk r 2) with h2|h2<;>rcases Bn (Yk r 6) with h3|h3<;>simp(disch:=omega)only[Ey3,J9,h1,h2,h3,Ax,simprocAttr]<;>rfl
def J5 (r:Rec) (zone name:List UInt8):Bool:=
 decide (r.typ=47) && under name zone && decide (0<Pj name r.name) && !(decide (r.data.host≠zone) && decide (0<=Pj name r.data.host)) && (!Mn name r.name|| !dz r)
def S5 (r:Rec) (zone name:List UInt8) (hr:r.wf) (hz:zone.length<=9223372036854775807) (hn:name.length<=9223372036854775807):S Ut 3 [r.pv,.s zone,.s name]=some [.b (J5 r zone name)]:=by
 refine Er8 (N:=1) rfl ?_;have g1:=hr.name;have g2:=hr.data.host;unfold d8 at g1 g2;unfold J5;by_cases h1:r.typ=47
 .rcases Bn (under name zone) with h2|h2
  .by_cases h3:0<Pj name r.name
   .by_cases h4:r.data.host=zone
    .rcases Bn (Mn name r.name) with h6|h6<;>rcases Bn (dz r) with h7|h7<;>simp(disch:=omega)only[T4,Fx,Jc,Hc,sk,h1,h2,h4,h6,h7,Ax,simprocAttr]<;>simp[h3]
    .by_cases h5:0<=Pj name r.data.host
     .simp(disch:=omega)only[T4,Fx,Jc,h1,h2,h4,Ax,simprocAttr]
      try simp[h4,h5]
     .rcases Bn (Mn name r.name) with h6|h6<;>rcases Bn (dz r) with h7|h7<;>simp(disch:=omega)only[T4,Fx,Jc,Hc,sk,h1,h2,h4,h6,h7,Ax,simprocAttr]<;>simp[h3,h5]
   .simp(disch:=omega)only[T4,Fx,Jc,h1,h2,Ax,simprocAttr]
    try simp[h3]
  .simp(disch:=omega)only[T4,Fx,h1,h2,Ax,simprocAttr]
   try simp
 .simp(disch:=omega)only[T4,h1,Ax,simprocAttr]
  try simp
def jx (r:Rec) (name:List UInt8):List UInt8:=if Ev9 (Hz name r.name)<Ev9 (Hz name r.data.host) then Hz name r.data.host else Hz name r.name
def Kp (a b:List UInt8):(Hz a b).length<=254:=by
 unfold Hz;split
 .rename_i h;exact Dj7 h.1 _
 .simp
def Rl (r:Rec) (name:List UInt8) (hr:r.wf) (hn:name.length<=9223372036854775807):S ot 2 [r.pv,.s name]=some [.s (jx r name)]:=by refine En2 (N:=1) rfl ?_;have g1:=hr.name;have g2:=hr.data.host;unfold d8 at g1 g2;have h1:=Kp name r.name;have h2:=Kp name r.data.host;unfold jx;by_cases h:Ev9 (Hz name r.name)<Ev9 (Hz name r.data.host)<;>simp(disch:=omega)only[Ey5,zg,Bn0,h,Ax,simprocAttr]
def Bc9 (r:Rec) (name:List UInt8):(jx r name).length<=254:=by
 unfold jx;split
 .exact Kp _ _
 .exact Kp _ _
def Zk (zone name:List UInt8) (r:Rec):Option (List UInt8):=
 if J5 r zone name && !Mn r.data.host name && Nv (jx r name) then some (f4 (jx r name)) else none
def starsN (l:List Rec) (zone name:List UInt8):List (List UInt8):=l.filterMap (Zk zone name)
def mf (l:List Rec) (zone name:List UInt8) (hw:∀r∈l,r.wf) (hl:l.length<=1000000) (hz:zone.length<=9223372036854775807) (hn:name.length<=9223372036854775807):
  S bz 3 [B9 l,.s zone,.s name]=some [Dh (starsN l zone name)]:=by
 refine Es4 (N:=l.length+1) rfl ?_;have key:Bz4.ev S (l.length+1) [B9 l,.s zone,.s name]=some (.yld 0 [Dh ([]++starsN l zone name)]):=by
  refine Ht l (fun i (g:List (List UInt8))=>[Dh g,.i .i64 (i:Int)]) (fun i g r=> .yld 0 [Dh (g++starsN r zone name)]) (fun i g=>g.length<=i) [] rfl (B7 _) (by omega) (fun i g c r hd hi hc hI=> ?_) (fun g hI=> ?_)
  .left;have hcw:=hw c (Cz hc);have g2:=hcw.data.host;unfold d8 at g2;have h1:=S5 c zone name hcw hz hn;have h2:=Rl c name hcw hn;have h3:=Bc9 c name;cases h:Zk zone name c with
   |some s=>
    refine⟨g++[s],?_,by simp;omega,by simp[starsN,h]⟩;unfold Zk at h;split at h
    .rename_i hc2;injection h with h;subst h;simp only[Bs,Dq] at hc2;obtain⟨⟨k1,k2⟩,k3⟩:=hc2;simp(disch:=omega)only[T5,hc,h1,h2,Hc,t9,k1,k2,k3,Ax,simprocAttr]
    .cases h
   |none=>
    refine⟨g,?_,by omega,by simp[starsN,h]⟩;unfold Zk at h;split at h
    .cases h
    .rename_i hc2;rcases ch3 (J5 c zone name) (!Mn c.data.host name) (Nv (jx c name)) with e0|⟨e0,e1⟩|⟨e0,e1,e2⟩|⟨e0,e1,e2⟩
     .simp(disch:=omega)only[T5,hc,h1,e0,Ax,simprocAttr]
     .simp only[Bool.not_eq_false'] at e1;simp(disch:=omega)only[T5,hc,h1,Hc,e0,e1,Ax,simprocAttr]
     .simp only[Dq] at e1;simp(disch:=omega)only[T5,hc,h1,h2,Hc,t9,e0,e1,e2,Ax,simprocAttr]
     .exact absurd (by simp[e0,e1,e2]) hc2
  .simp(disch:=omega)only[T5,Ax,simprocAttr]
   try simp[starsN,Out.goes]
 simp(disch:=omega)only[T5,key,Ax,simprocAttr]
def Kk (v:List UInt8):List (List UInt8)->Nat->Int
 |[],_=> -1
 |x::r,i=>if v=x then(i:Int) else Kk v r (i+1)
def cg (v:List UInt8):∀(l:List (List UInt8)) (i:Nat),decide (0<=Kk v l i)=decide (v∈l)
 |[],i=>by simp[Kk]
 |x::r,i=>by
  simp only[Kk];by_cases h:v=x
  .simp[h]
  .simp only[if_neg h,cg v r (i+1)];simp[h]
def Ag6 (l:List (List UInt8)) (v:List UInt8) (hl:l.length<=1000000):S o2 2 [Dh l,.s v]=some [.i .i64 (Kk v l 0)]:=by
 refine En4 (N:=l.length+1) rfl ?_;have key:By7.ev S (l.length+1) [Dh l,.s v]=some (if Kk v l 0= -1 then .yld 0 [] else .ret [.i .i64 (Kk v l 0)]):=by
  refine Em l (fun i=>[.i .i64 (i:Int)]) (fun i r=>if Kk v r i= -1 then .yld 0 [] else .ret [.i .i64 (Kk v r i)]) rfl (by omega) (fun i c r hd hi hc=> ?_) ?_
  .by_cases h:v=c
   .right;simp(disch:=omega)only[Yp,hc,h,Ax,simprocAttr];have:¬((i:Int)= -1):=by omega
    simp[Kk,this,Out.goes]
   .left;simp(disch:=omega)only[Yp,hc,h,Ax,simprocAttr]
    try simp[Kk,h]
  .simp(disch:=omega)only[Yp,Ax,simprocAttr]
   try simp[Kk,Out.goes]
 by_cases h:Kk v l 0= -1
 .rw[if_pos h] at key;simp(disch:=omega)only[Yp,key,h,Ax,simprocAttr]
 .rw[if_neg h] at key;simp(disch:=omega)only[Yp,key,Ax,simprocAttr]
def Zf (l:List (List UInt8)) (v:List UInt8) (hl:l.length<=1000000):S pg 2 [Dh l,.s v]=some [.b (decide (v∈l))]:=by refine Es5 (N:=1) rfl ?_;rw[<-cg v l 0];simp(disch:=omega)only[Ez6,Ag6,Ax,simprocAttr]
def expandedN (l:List Rec) (zone name star:List UInt8):Bool:=decide (star∈starsN l zone name)
def Uv (l:List Rec) (zone name:List UInt8):(starsN l zone name).length<=l.length:=List.length_filterMap_le _ _
def S4 (l:List Rec) (zone name star:List UInt8) (hw:∀r∈l,r.wf) (hl:l.length<=1000000) (hz:zone.length<=9223372036854775807) (hn:name.length<=9223372036854775807):
  S Bq9 4 [B9 l,.s zone,.s name,.s star]=some [.b (expandedN l zone name star)]:=by
 refine Fp8 (N:=1) rfl ?_;have h1:=Uv l zone name;simp(disch:=omega)only[Fg2,mf l zone name hw hl hz hn,Zf,expandedN,Ax,simprocAttr]
def Sx {D:Type} (p q:D->Bool) (h:∀x,q x=true->p x=true):∀l:List D,(l.filter p).find? q=l.find? q
 |[]=>rfl
 |x::l=>by
  have ih:=Sx p q h l;rcases Bn (q x) with hq|hq
  .rw[Dy (h x hq),Vm hq,Vm hq]
  .rcases Bn (p x) with hp|hp
   .rw[Dy hp,Fz (by simp[hq]),Fz (by simp[hq]),ih]
   .rw[G7 (by simp[hp]),Fz (by simp[hq]),ih]
def nj (l:List Rec) (n:List UInt8) (t:Int) (ht:t≠46):setF (setsN l) n t=setF (setsR l) n t:=by refine Sx _ _ (fun x hx=> ?_) _;simp only[isS,Bs,decide_eq_true_eq] at hx;simp[hx.2,ht]
def Af9 {l:List Rec} {n:List UInt8} {t:Int} (ht:t≠46) (hw:∀r∈l,r.wf):SetW ((setF (setsN l) n t).getD zS)∧((setF (setsN l) n t).getD zS).data.length<=l.length:=by rw[nj l n t ht];exact Cn4 hw
def bitB (r:Rec) (t:Nat):Bool:=decide (bit r.data.bits t=1)
def W4 (r:Rec) (t:Int) (n:Nat) (h:t=(n:Int)) (hn:n<64):S xl 1 [.i .i64 t,r.pv]=some [.b (bitB r n)]:=by
 subst h;refine Fp3 (N:=1) rfl ?_;unfold bitB;have hb:IntKind.u64.bits=64:=rfl;have h0:IntKind.u64.wrap (n:Int)=(n:Int):=Fc1 (by omega) (by omega);have h3:X.bin .shr (.i .u64 r.data.bits) (.i .u64 (n:Int))=some (.i .u64 (r.data.bits / 2 ^ n)):=Tv _ _ _ _ (by rw[hb];omega);have h4:r.data.bits / 2 ^ n % 2=bit r.data.bits n:=rfl;simp(disch:=omega)only[Ff9,S1,Fd9,h0,h3,h4,D9,Aw,simprocAttr]
 try simp
def Bp1 (zone:List UInt8) (r:Rec):Bool:=decide (r.typ=2) && !decide (r.name=zone) && under r.name zone
def yq (zone:List UInt8) (l:List Rec):Option (List UInt8):=(l.find? (Bp1 zone)).map Rec.name
def Tz (child:List UInt8) (r:Rec):Bool:=decide (r.name=child) && bitB r 2 && !bitB r 43 && !bitB r 6
def Fq8 {zone c:List UInt8} {l:List Rec} (h:yq zone l=some c):c≠[]∧under c zone=true∧c≠zone:=by
 unfold yq at h;cases hf:l.find? (Bp1 zone) with
 |none=>rw[hf] at h;cases h
 |some r=>
  rw[hf] at h;injection h with h;have hk:=List.find?_some hf;simp only[Bp1,Bs,Dq,decide_eq_false_iff_not] at hk;subst h;refine⟨fun e=> ?_,hk.2,hk.1.2⟩;have hv:=(J8.1 hk.2).1;rw[e] at hv;exact absurd hv (by decide)
def Cn7 (zone:List UInt8) (keys:List Dat) (m:Msg) (now:Int) (c:List UInt8):List Dat×Int:=
 if((setF (setsR m.auth) c 43).isSome && provB zone keys now ((setF (setsR m.auth) c 43).getD zS) m.auth)=true then(((setF (setsR m.auth) c 43).getD zS).data,1)
 else if(proofsN zone keys m now).any (Tz c)=true then([],2) else([],3)
def refM (zone:List UInt8) (keys:List Dat) (m:Msg) (now:Int):List UInt8×List Dat×Int:=
 match yq zone m.auth with
 |some c=>(c,Cn7 zone keys m now c)
 |none=>([],[],3)
def Rx (zone:List UInt8) (keys:List Dat) (m:Msg) (now:Int) (ha:AskOk zone keys) (hm:MsgOk m):
  S Bv5 1 [(ckM zone keys m now).pt]=some [.s (refM zone keys m now).1,Ez (refM zone keys m now).2.1,.i .i64 (refM zone keys m now).2.2]:=by
 have hm2:=hm.auth;have hpl:=Ry zone keys m now;have key:Ct7.ev S (m.auth.length+(proofsN zone keys m now).length+1) [(ckM zone keys m now).pt]=some (.yld 0 [.s ((yq zone m.auth).getD [])]):=by
  unfold yq ckM;refine Em m.auth (fun i=>[.s [],.i .i64 (i:Int)]) (fun _ l=> .yld 0 [.s (((l.find? (Bp1 zone)).map Rec.name).getD [])]) (by simp(disch:=omega)only[D9,Aw,simprocAttr]) (by omega) (fun i x l hd2 hi hx=> ?_) ?_
  .have hil:(i:Int)<(m.auth.length:Int):=by omega
   have hxw:=hm.authw x (Cz hx);have k1:=Fx x.name zone hxw.name ha.zoneL;have e:Bp1 zone x=(decide (x.typ=2) && !decide (x.name=zone) && under x.name zone):=rfl;generalize under x.name zone=u at*;generalize proofsN zone keys m now=pf at*;generalize setsN m.auth=sn at*;generalize setsN m.ans=sa at*;by_cases h1:x.typ=2
   .by_cases h2:x.name=zone
    .left;have e1:Bp1 zone x=false:=by rw[e];simp[h2]
     refine⟨?_,by rw[Fz (by simp[e1])]⟩;simp(disch:=omega)only[Mp,hx,hil,h1,h2,Fh,EVT,EVM,D9,Aw,simprocAttr]
    .cases u with
     |true=>
      right;have e1:Bp1 zone x=true:=by rw[e];simp[h1,h2]
      simp(disch:=omega)only[Mp,hx,hil,h1,h2,k1,Fh,EVT,EVM,D9,Aw,simprocAttr];simp[Vm e1,Out.goes]
     |false=>
      left;have e1:Bp1 zone x=false:=by rw[e];simp
      refine⟨?_,by rw[Fz (by simp[e1])]⟩;simp(disch:=omega)only[Mp,hx,hil,h1,h2,k1,Fh,EVT,EVM,D9,Aw,simprocAttr]
   .left;have e1:Bp1 zone x=false:=by rw[e];simp[h1]
    refine⟨?_,by rw[Fz (by simp[e1])]⟩;simp(disch:=omega)only[Mp,hx,hil,h1,Fh,EVT,EVM,D9,Aw,simprocAttr]
  .generalize proofsN zone keys m now=pf at*;generalize setsN m.auth=sn at*;generalize setsN m.ans=sa at*;simp(disch:=omega)only[Mp,Eb,Fh,EVT,EVM,D9,Aw,simprocAttr];simp[Out.goes]
 have key2:∀c p2 p3 p4,Bx3.ev S (m.auth.length+(proofsN zone keys m now).length+1) [(ckM zone keys m now).pt,.s c,p2,p3,p4]=some (if(proofsN zone keys m now).any (Tz c)=true then .ret [.s c,Ez [],.i .i64 2] else .yld 0 []):=by
  intro c p2 p3 p4;unfold ckM;generalize proofsN zone keys m now=pf at*;generalize setsN m.auth=sn at*;generalize setsN m.ans=sa at*;refine Em pf (fun i=>[.i .i64 (i:Int)]) (fun _ l=>if l.any (Tz c)=true then .ret [.s c,Ez [],.i .i64 2] else .yld 0 []) rfl (by omega) (fun i x l hd2 hi hx=> ?_) ?_
  .have hil:(i:Int)<(pf.length:Int):=by omega
   have k1:=W4 x 2 2 rfl (by decide);have k2:=W4 x 43 43 rfl (by decide);have k3:=W4 x 6 6 rfl (by decide);have e:Tz c x=(decide (x.name=c) && bitB x 2 && !bitB x 43 && !bitB x 6):=rfl;generalize bitB x 2=b1 at*;generalize bitB x 43=b2 at*;generalize bitB x 6=b3 at*;by_cases h1:x.name=c
   .subst h1;cases b1 with
    |false=>
     left;have e1:Tz x.name x=false:=by rw[e];simp
     refine⟨?_,by simp[e1]⟩;simp(disch:=omega)only[Mp,hx,hil,k1,G0,Sp,Sr,Fh,EVT,EVM,D9,Aw,simprocAttr]
    |true=>
     cases b2 with
     |true=>
      left;have e1:Tz x.name x=false:=by rw[e];simp
      refine⟨?_,by simp[e1]⟩;simp(disch:=omega)only[Mp,hx,hil,k1,k2,G0,Sp,Sr,Fh,EVT,EVM,D9,Aw,simprocAttr]
     |false=>
      cases b3 with
      |true=>
       left;have e1:Tz x.name x=false:=by rw[e];simp
       refine⟨?_,by simp[e1]⟩;simp(disch:=omega)only[Mp,hx,hil,k1,k2,k3,G0,Sp,Sr,Fh,EVT,EVM,D9,Aw,simprocAttr]
      |false=>
       right;have e1:Tz x.name x=true:=by rw[e];simp
       simp(disch:=omega)only[Mp,hx,hil,k1,k2,k3,G0,Sp,Sr,Fh,EVT,EVM,D9,Aw,simprocAttr];simp[e1,Out.goes]
   .left;have e1:Tz c x=false:=by rw[e];simp[h1]
    refine⟨?_,by simp[e1]⟩;simp(disch:=omega)only[Mp,hx,hil,h1,G0,Sp,Sr,Fh,EVT,EVM,D9,Aw,simprocAttr]
  .simp(disch:=omega)only[Mp,Eb,Fh,EVT,EVM,D9,Aw,simprocAttr];simp[Out.goes]
 refine Fs3 (N:=m.auth.length+(proofsN zone keys m now).length+1) rfl ?_;have hsn:=P8 m.auth;cases hk:yq zone m.auth with
 |none=>
  have er:refM zone keys m now=([],[],3):=by unfold refM;rw[hk]
  rw[er];rw[hk] at key;have h0:(none:Option (List UInt8)).getD []=[]:=rfl;rw[h0] at key;clear key2;unfold ckM at*;generalize proofsN zone keys m now=pf at*;generalize setsN m.auth=sn at*;generalize setsN m.ans=sa at*;simp(disch:=omega)only[Mp,key,Fh,EVT,EVM,D9,Aw,simprocAttr]
  try rfl
 |some c=>
  rw[hk] at key;have h0:(some c).getD []=c:=rfl;rw[h0] at key;have hne:=(Fq8 hk).1;have k2:=Sy (setsN m.auth) c 43 (by omega);rw[gq] at k2;obtain⟨hs,hsd⟩:=Af9 (n:=c) (t:=43) (by decide) hm.authw;have k3:=Nf (ckM zone keys m now) ((setF (setsN m.auth) c 43).getD zS) m.auth ha hs (by omega) hm.authw (by omega);have e3:(ckM zone keys m now).zone=zone:=rfl;have e4:(ckM zone keys m now).keys=keys:=rfl;have e5:(ckM zone keys m now).now=now:=rfl;rw[e3,e4,e5] at k3;have er:refM zone keys m now=(c,Cn7 zone keys m now c):=by unfold refM;rw[hk]
  rw[er];unfold Cn7;rw[<-nj m.auth c 43 (by decide)];have key3:=key2 c ((setF (setsN m.auth) c 43).getD zS).pv (.b (setF (setsN m.auth) c 43).isSome);generalize (setF (setsN m.auth) c 43).isSome=ok at*;generalize (setF (setsN m.auth) c 43).getD zS=s at*;have hx:(ckM zone keys m now).auth=setsN m.auth:=rfl;generalize provB zone keys now s m.auth=pb at*;have fin:∀{p4},Bx3.ev S (m.auth.length+(proofsN zone keys m now).length+1) [(ckM zone keys m now).pt,.s c,s.pv,.b ok,p4]=_:=fun {p4}=>key3 p4;generalize hpp:(proofsN zone keys m now).any (Tz c)=pp at*;clear key2 key3;unfold ckM at*;generalize hq:proofsN zone keys m now=pf at*;generalize setsN m.auth=sn at*;generalize setsN m.ans=sa at*;cases ok with
  |true=>
   cases pb with
   |true=>
    simp(disch:=omega)only[Mp,key,k2,k3,hne,Fh,EVT,EVM,D9,Aw,simprocAttr]
    try simp
   |false=>
    cases pp<;>simp(disch:=omega)only[Mp,key,fin,k2,k3,hne,Fh,EVT,EVM,D9,Aw,simprocAttr]<;>try simp
  |false=>
   cases pp<;>simp(disch:=omega)only[Mp,key,fin,k2,hne,Fh,EVT,EVM,D9,Aw,simprocAttr]<;>try simp
def Ck1 (zone:List UInt8) (keys:List Dat) (m:Msg) (now:Int) (c:List UInt8) (hm:MsgOk m):(Cn7 zone keys m now c).1.length<=1000:=by
 have h1:=(Cn4 (n:=c) (t:=43) hm.authw).2;have h2:=hm.auth;unfold Cn7;split
 .simp only;omega
 .split<;>simp
def Zl (zone:List UInt8) (keys:List Dat) (m:Msg) (now:Int):List Dat×Int:=
 if keys=[] then([],2) else match yq zone m.auth with
 |some c=>Cn7 zone keys m now c
 |none=>([],3)
def dp (zone:List UInt8) (keys:List Dat) (m:Msg) (now:Int) (ha:AskOk zone keys) (hm:MsgOk m):
  S Cy5 4 [.s zone,Ez keys,m.pv,.i .i64 now]=some [Ez (Zl zone keys m now).1,.i .i64 (Zl zone keys m now).2]:=by
 refine Ft4 (N:=1) rfl ?_;unfold Zl;by_cases h:keys=[]
 .subst h;rw[if_pos rfl];simp(disch:=omega)only[Ey2,Fh,EVT,EVM,D9,Aw,simprocAttr]
  try simp
 .have h':¬(keys.length:Int)=0:=by have:=C1.2 h;omega
  rw[if_neg h];have k1:=Bw3 zone keys m now ha hm;have k2:=Rx zone keys m now ha hm;have e:refM zone keys m now=match yq zone m.auth with|some c=>(c,Cn7 zone keys m now c)|none=>([],[],3):=rfl
  have e2:(match yq zone m.auth with|some c=>Cn7 zone keys m now c|none=>([],3))=(refM zone keys m now).2:=by rw[e];cases yq zone m.auth<;>rfl
  rw[e2];have hl:(refM zone keys m now).2.1.length<=1000:=by
   rw[<-e2];cases yq zone m.auth with
   |none=>exact Df _
   |some c=>exact Ck1 zone keys m now c hm
  generalize refM zone keys m now=r at*;have h0:Ip 13 (Ez []) (Ez r.2.1)=some (Ez r.2.1):=by have:=Pk 13 [] (r.2.1.map Dat.pv) (by simp;omega);simpa [Ez] using this
  generalize (ckM zone keys m now).pt=ck at*;simp(disch:=omega)only[Ey2,h',k1,k2,h0,Fh,EVT,EVM,D9,Aw,simprocAttr]
def u5 (m:Msg) (hm:m.wf):∃b,S Cy6 1 [m.pv]=some [.b b]∧(b=true->MsgOk m∧m.ans.length<=60∧m.auth.length<=60):=by
 have h0:=hm.ans.1;by_cases h1:(m.ans.length:Int)<=60
 .by_cases h2:(m.auth.length:Int)<=60
  .refine⟨true,Dd9 (N:=1) rfl ?_,fun _=>⟨⟨by omega,by omega,hm.ans.2,hm.auth.2,hm.q.name⟩,by omega,by omega⟩⟩;simp(disch:=omega)only[Dv5,h1,h2,EVT,EVM,D9,Aw,simprocAttr]
  .refine⟨false,Dd9 (N:=1) rfl ?_,fun h=>by cases h⟩;simp(disch:=omega)only[Dv5,h1,h2,EVT,EVM,D9,Aw,simprocAttr]
 .refine⟨false,Dd9 (N:=1) rfl ?_,fun h=>by cases h⟩;simp(disch:=omega)only[Dv5,h1,EVT,EVM,D9,Aw,simprocAttr]
def bn (r:Rec) (t:Int):Bool:=
 if r.typ≠47∨t=255∨Yk r t=true∨Yk r 5=true then false else if t=43 then !Yk r 6 else Yk r 6|| !Yk r 2
def Bw8 (r:Rec) (t:Int):S pq 2 [r.pv,.i .i64 t]=some [.b (bn r t)]:=by
 refine Er5 (N:=1) rfl ?_;have a1:=J9 r t;have a2:=J9 r 5;have a3:=J9 r 6;have a4:=J9 r 2;unfold bn;by_cases h1:r.typ=47
 .by_cases h2:t=255
  .simp(disch:=omega)only[T3,h1,h2,Aw,simprocAttr]
   try simp
  .rcases Bn (Yk r t) with e0|e0
   .simp(disch:=omega)only[T3,a1,e0,h1,h2,Aw,simprocAttr]
    try simp
   .rcases Bn (Yk r 5) with e1|e1
    .simp(disch:=omega)only[T3,a1,a2,e0,e1,h1,h2,Aw,simprocAttr]
     try simp
    .by_cases h3:t=43
     .rw[h3] at a1 e0 h2 ⊢;rcases Bn (Yk r 6) with e2|e2<;>simp(disch:=omega)only[T3,a1,a2,a3,e0,e1,e2,h1,Aw,simprocAttr]<;>simp[h1]
     .rcases Bn (Yk r 6) with e2|e2<;>rcases Bn (Yk r 2) with e3|e3<;>simp(disch:=omega)only[T3,a1,a2,a3,a4,e0,e1,e2,e3,h1,h2,h3,Aw,simprocAttr]<;>simp[h1,h2,h3]
 .simp(disch:=omega)only[T3,h1,Aw,simprocAttr]
  try simp[h1]
def Fd7 (l:List Rec) (zone s:List UInt8):Bool:=l.any fun r=>J5 r zone s
def absentN (l:List Rec) (zone name:List UInt8):Bool:=(starsN l zone name).any fun s=>Fd7 l zone s
def u4 {l:List Rec} {zone name s:List UInt8} (h:s∈starsN l zone name):s.length<=254:=by
 unfold starsN at h;rw[List.mem_filterMap] at h;obtain⟨r,_,hr⟩:=h;unfold Zk at hr;split at hr
 .rename_i hc;simp only[Bs] at hc;injection hr with hr;unfold f4 at hr;rw[if_pos hc.2] at hr;rw[<-hr];have:=hc.2;unfold Nv at this;simp only[Bs] at this;exact Jj this.2
 .cases hr
def lg (r:Rec) (zone s:List UInt8) (hr:r.wf) (hz:zone.length<=9223372036854775807) (hn:s.length<=9223372036854775807):S bq 1 [r.pv,.s zone,.s s]=some [.b (J5 r zone s)]:=by refine Er9 (N:=1) rfl ?_;simp(disch:=omega)only[Ez1,S5 r zone s hr hz hn,Aw,simprocAttr]
def zm (l:List Rec) (zone s:List UInt8) (hw:∀r∈l,r.wf) (hl:l.length<=1000000) (hz:zone.length<=9223372036854775807) (hn:s.length<=9223372036854775807):S bw 1 [.s s,B9 l,.s zone]=some [.b (Fd7 l zone s)]:=by refine Es1 (N:=1) rfl ?_;have k:=K3 l bq [.s zone,.s s] (fun r=>J5 r zone s) hl (fun r hr=>lg r zone s (hw r hr) hz hn);unfold Fd7;simp(disch:=omega)only[Ez3,k,Aw,simprocAttr]
def zl (l:List Rec) (zone name:List UInt8) (hw:∀r∈l,r.wf) (hl:l.length<=1000000) (hz:zone.length<=9223372036854775807) (hn:name.length<=9223372036854775807):S Cx6 3 [B9 l,.s zone,.s name]=some [.b (absentN l zone name)]:=by refine Fp5 (N:=1) rfl ?_;have k1:=mf l zone name hw hl hz hn;have hsl:=Uv l zone name;have k:=P3 (starsN l zone name) bw [B9 l,.s zone] (fun s=>Fd7 l zone s) (by omega) (fun s hs=>zm l zone s hw hl hz (by have:=u4 hs;omega));unfold absentN;generalize starsN l zone name=st at*;simp(disch:=omega)only[Fg1,k1,k,Aw,simprocAttr]
def Fd1 (l:List Rec) (zone:List UInt8) (q:Ques) (r:Rec):Bool:=
 (J5 r zone q.name && Mn r.data.host q.name)||(bn r q.typ && (decide (r.name=q.name)||expandedN l zone q.name r.name))
def emptyN (l:List Rec) (zone:List UInt8) (q:Ques):Bool:=under q.name zone && l.any (Fd1 l zone q)
def Bn3 (l:List Rec) (zone:List UInt8) (q:Ques) (r:Rec) (hr:r.wf) (hw:∀r∈l,r.wf) (hl:l.length<=1000000) (hz:zone.length<=9223372036854775807) (hn:q.name.length<=9223372036854775807):
  S bk 1 [r.pv,.s zone,q.pv,B9 l]=some [.b (Fd1 l zone q r)]:=by
 refine Er7 (N:=1) rfl ?_;have g2:=hr.data.host;unfold d8 at g2;have h1:=S5 r zone q.name hr hz hn;have h2:=Hc r.data.host q.name g2 hn;have h3:=Bw8 r q.typ;have h4:=S4 l zone q.name r.name hw hl hz hn;unfold Fd1;by_cases e4:r.name=q.name
 .rcases Bn (J5 r zone q.name) with e0|e0<;>rcases Bn (Mn r.data.host q.name) with e1|e1<;>rcases Bn (bn r q.typ) with e2|e2<;>rcases Bn (expandedN l zone q.name r.name) with e3|e3
  all_goals simp(disch:=omega)only[Cm5,h1,h2,h3,h4,e0,e1,e2,e3,e4,Av,simprocAttr]
  all_goals simp
 .rcases Bn (J5 r zone q.name) with e0|e0<;>rcases Bn (Mn r.data.host q.name) with e1|e1<;>rcases Bn (bn r q.typ) with e2|e2<;>rcases Bn (expandedN l zone q.name r.name) with e3|e3
  all_goals simp(disch:=omega)only[Cm5,h1,h2,h3,h4,e0,e1,e2,e3,e4,Av,simprocAttr]
  all_goals simp
def Bn2 (l:List Rec) (zone:List UInt8) (q:Ques) (hw:∀r∈l,r.wf) (hl:l.length<=1000000) (hz:zone.length<=9223372036854775807) (hn:q.name.length<=9223372036854775807):S Cx5 3 [B9 l,.s zone,q.pv]=some [.b (emptyN l zone q)]:=by refine Fp4 (N:=1) rfl ?_;have k:=K3 l bk [.s zone,q.pv,B9 l] (Fd1 l zone q) hl (fun r hr=>Bn3 l zone q r (hw r hr) hw hl hz hn);have hu:=Fx q.name zone hn hz;unfold emptyN;rcases Bn (under q.name zone) with h|h<;>simp(disch:=omega)only[Fg0,hu,h,k,Av,simprocAttr]<;>simp
end Go.X.G
/- Names with another end; redirections; what records of a name say. -/
namespace Go.X
structure Res where
 kind:Int
 owner:List UInt8
 wild:Bool
 target:List UInt8
 recs:List Rec
 deriving DecidableEq
def Res.cells (x:Res):List PV:=[.i .i64 x.kind,.s x.owner,.b x.wild,.s x.target,B9 x.recs]
def Res.pv (x:Res):PV:= .a x.cells
end Go.X
namespace Go.X.G
open Go Go.X
def Wj (n top to:List UInt8):List (List UInt8):=(lbl n).take ((lbl n).length - (lbl top).length)++lbl to
def replN (n top to:List UInt8):List UInt8×Int:=
 if vld n=true∧vld top=true∧vld to=true∧(lbl to)[0]? ≠some [42] then
  if under n top=true∧n≠top then
   if(flat (Wj n top to)).length<=254 then(flat (Wj n top to),0) else([],9)
  else([],1)
 else([],2)
def cp {l:List (List UInt8)} (h:Gh true l=true) (h2:l[0]? ≠some [42]):Gh false l=true:=by
 cases l with
 |nil=>rfl
 |cons p r=>
  simp only[Gh,Bs] at h ⊢;refine⟨⟨h.1.1,?_⟩,h.2⟩;have:p≠[42]:=fun e=>h2 (by rw[e];rfl);simp[this]
def Uc {n top to:List UInt8} (hu:under n top=true) (hne:n≠top) (ht:vld to=true) (hs:(lbl to)[0]? ≠some [42]):Gh true (Wj n top to)=true∧Wj n top to≠[]∧(lbl n).take ((lbl n).length - (lbl top).length)≠[]:=by
 obtain⟨vn,vt,sf⟩:=J8.1 hu;have hlt:(lbl top).length<(lbl n).length:=by
  have:=sf.length_le;rcases Nat.lt_or_ge (lbl top).length (lbl n).length with h|h
  .exact h
  .exact absurd (uz hu h) hne
 have h1:(lbl n).take ((lbl n).length - (lbl top).length)≠[]:=by intro e;have:=congrArg List.length e;rw[Cy,Cn] at this;omega
 have h2:Gh true ((lbl n).take ((lbl n).length - (lbl top).length))=true:=by have:=V1 vn;rw[<-C7 ((lbl n).length - (lbl top).length) (lbl n),N0,Bs] at this;exact this.1
 refine⟨?_,by unfold Wj;simp[h1],h1⟩;unfold Wj;rw[N0,h2,List.isEmpty_eq_false_iff.2 h1];simp[cp (V1 ht) hs]
def X3 (s t:List UInt8) (hs:s.length<=9223372036854775807) (h:t.isSuffixOf s=true):S pd 2 [.s s,.s t]=some [.s (s.take (s.length - t.length))]:=by
 have hle:t.length<=s.length:=(F7.1 h).length_le;have k1:=Oy s t hs;rw[h] at k1;have k2:S om 2 [.s s,.s t]=some [.s (s.take (s.length - t.length))]:=by
  refine En1 (N:=1) rfl ?_;have h6:f6 (.s s) (.i .i64 0) (.i .i64 ((s.length:Int) - (t.length:Int)))=some (.s (s.take (s.length - t.length))):=by
   rw[Dc9 _ _ _ _ _ (by omega) (by omega) (by omega)];have:((s.length:Int) - (t.length:Int)).toNat=s.length - t.length:=by omega
   rw[this];simp
  simp(disch:=omega)only[Ey4,k1,h6,Av,simprocAttr]
 refine Es3 (N:=1) rfl ?_;simp(disch:=omega)only[Ez5,k2,Av,simprocAttr]
def Qc (n top to:List UInt8) (hn:n.length<=9223372036854775807) (ht:top.length<=9223372036854775807) (hto:to.length<=9223372036854775807):S Bq7 3 [.s n,.s top,.s to]=some [.s (replN n top to).1,.i .i64 (replN n top to).2]:=by
 refine Fp6 (N:=1) rfl ?_;have k1:=C6 n hn;have k2:=C6 top ht;have k3:=C6 to hto;unfold replN;rcases Bn (vld n) with v1|v1
 .rcases Bn (vld top) with v2|v2
  .rcases Bn (vld to) with v3|v3
   .rw[v1] at k1;rw[v2] at k2;rw[v3] at k3;have hp:=M9 v3;have hsf:=Uw v3;obtain⟨c,hc⟩:∃c,to[0]? =some c:=⟨_,B4 hp⟩;rw[hc] at hsf;by_cases hs:c=42
    .rw[if_neg (by rw[hs] at hsf;simp[hsf.1 rfl])];subst hs;simp(disch:=omega)only[Qg,k1,k2,k3,hc,Av,simprocAttr]
     try simp
    .have hs':(lbl to)[0]? ≠some [42]:=fun e=>hs (by have:=hsf.2 e;simpa using this);have hcc:¬(c.toNat:Int)=42:=fun e=>hs (by apply UInt8.toNat.inj;have:(42:UInt8).toNat=42:=rfl;omega)
     rw[if_pos ⟨v1,v2,v3,hs'⟩];have tl:=Jj v2;have k4:=W9 n top hn (by omega);rw[T9 v1 v2] at k4;by_cases he:n=top
     .rw[if_neg (by simp[he])];simp(disch:=omega)only[Qg,k1,k2,k3,hc,hcc,he,Av,simprocAttr]
     .rcases Bn (under n top) with hu|hu
      .rw[hu] at k4;rw[if_pos ⟨hu,he⟩];obtain⟨q1,q2,q3⟩:=Uc hu he v3 hs';have nl:=Jj v1;have tol:=Jj v3;have hnr:n≠[46]:=by rintro rfl;have:=(J8.1 hu).2.2.length_le;rw[Ir] at this;exact he (R6 v1 v2 (by rw[Ir];exact(List.length_eq_zero_iff.1 (by simpa using this)).symm))
       have hnf:n=flat (lbl n):=by have:=T8 v1;unfold jn at this;rwa[if_neg (fun h=>hnr ((Wt v1).1 h))] at this
       have hsp:lbl n=(lbl n).take ((lbl n).length - (lbl top).length)++lbl top:=by
        have:=(J8.1 hu).2.2;rw[List.suffix_iff_eq_drop] at this
        conv=>lhs;rw[<-C7 ((lbl n).length - (lbl top).length) (lbl n)]
        rw[<-this]
       have hhead:∃hd,hd=flat ((lbl n).take ((lbl n).length - (lbl top).length))∧hd.length<=254∧∀p3 p4 p5 p6,Bg3.ev S 1 [.s n,.s top,.s to,p3,p4,p5,p6]=some (.yld 0 [.s hd]):=by
        refine⟨_,rfl,?_,fun p3 p4 p5 p6=> ?_⟩
        .have:(flat (lbl n)).length<=254:=by rw[<-hnf];exact nl
         rw[hsp,N3,Bt] at this;omega
        .by_cases hr:top=[46]
         .subst hr;rw[Ir,Ec] at hsp;rw[Ir,<-hsp,<-hnf];simp(disch:=omega)only[Qg,Av,simprocAttr]
         .have htf:top=flat (lbl top):=by have:=T8 v2;unfold jn at this;rwa[if_neg (fun h=>hr ((Wt v2).1 h))] at this
          have hna:n=flat ((lbl n).take ((lbl n).length - (lbl top).length))++top:=by
           conv=>lhs;rw[hnf,hsp,N3]
           rw[<-htf]
          have hsuf:top.isSuffixOf n=true:=F7.2 ⟨_,hna.symm⟩;have k5:=X3 n top hn hsuf;have htk:n.take (n.length - top.length)=flat ((lbl n).take ((lbl n).length - (lbl top).length)):=by
           conv=>lhs;rw[hna]
           rw[Bt,Vl,Qz]
          rw[htk] at k5;generalize flat ((lbl n).take ((lbl n).length - (lbl top).length))=hd at*;simp(disch:=omega)only[Qg,k5,hr,Av,simprocAttr]
       obtain⟨hd,hd1,hd2,hd3⟩:=hhead;have hfin:flat (Wj n top to)=if to=[46] then hd else hd++to:=by
        unfold Wj;rw[N3,<-hd1];by_cases hr:to=[46]
        .rw[if_pos hr,hr,Ir];simp[flat]
        .rw[if_neg hr];have:=T8 v3;unfold jn at this;rw[if_neg (fun h=>hr ((Wt v3).1 h))] at this;rw[<-this]
       rw[hfin];by_cases hr:to=[46]
       .rw[if_pos hr];subst hr;have h1:¬(255:Int)<=(hd.length:Int):=by omega
        rw[if_pos hd2];simp(disch:=omega)only[Qg,k1,k2,k3,k4,hc,hcc,he,hd3,h1,Av,simprocAttr]
       .rw[if_neg hr];by_cases hlen:(hd++to).length<=254
        .rw[if_pos hlen];have h1:¬(255:Int)<=((hd++to).length:Int):=by omega
         simp(disch:=first|omega|(rw[Bt] at*;omega))only[Qg,k1,k2,k3,k4,hc,hcc,he,hd3,hr,h1,Av,simprocAttr]
        .rw[if_neg hlen];have h1:(255:Int)<=((hd++to).length:Int):=by omega
         simp(disch:=first|omega|(rw[Bt] at*;omega))only[Qg,k1,k2,k3,k4,hc,hcc,he,hd3,hr,h1,Av,simprocAttr]
      .rw[hu] at k4;rw[if_neg (by simp[hu])];simp(disch:=omega)only[Qg,k1,k2,k3,k4,hc,hcc,he,Av,simprocAttr]
   .rw[if_neg (by simp[v3])];rw[v1] at k1;rw[v2] at k2;rw[v3] at k3;simp(disch:=omega)only[Qg,k1,k2,k3,Av,simprocAttr]
  .rw[if_neg (by simp[v2])];rw[v1] at k1;rw[v2] at k2;simp(disch:=omega)only[Qg,k1,k2,Av,simprocAttr]
 .rw[if_neg (by simp[v1])];rw[v1] at k1;simp(disch:=omega)only[Qg,k1,Av,simprocAttr]
end Go.X.G
namespace Go.X.G
open Go Go.X
structure CkOk (c:Ck):Prop where
 ask:AskOk c.zone c.keys
 msg:MsgOk c.m
 pl:c.proofs.length<=1000
 pw:∀r∈c.proofs,r.wf
 ansl:c.ans.length<=1000
 authl:c.auth.length<=1000
 ansW:∀s∈c.ans,SetW s∧s.data.length<=1000∧s.data≠[]
 authW:∀s∈c.auth,SetW s∧s.data.length<=1000
def Eq7 {g:List SetR} {r:Rec} (h:∀s∈g,s.data≠[]):∀s∈addS g r,s.data≠[]:=by
 intro s hs;unfold addS at hs;split at hs
 .split at hs
  .rcases Ct.1 hs with hs|hs
   .exact h s (Aj5 _ hs)
   .rw[Cf.1 hs];simp
  .rcases Ct.1 hs with hs|hs
   .exact h s hs
   .rw[Cf.1 hs];simp
 .rw[Cf.1 hs];simp
def m8 (l:List Rec):∀s∈setsR l,s.data≠[]:=by
 have h:∀(l:List Rec) (g:List SetR),(∀s∈g,s.data≠[])->∀s∈l.foldl addS g,s.data≠[]:=by
  intro l
  induction l with
  |nil=>intro g hg;exact hg
  |cons r l ih=>intro g hg;rw[Yd];exact ih _ (Eq7 hg)
 exact h (sortR l) [] (by simp)
def Dk3 (zone:List UInt8) (keys:List Dat) (m:Msg) (now:Int) (ha:AskOk zone keys) (hm:MsgOk m):CkOk (ckM zone keys m now):=by
 have h1:=Ry zone keys m now;have h2:=P8 m.ans;have h3:=P8 m.auth;have h4:=hm.ans;have h5:=hm.auth;refine⟨ha,hm,?_,v9 zone keys m now hm.authw,?_,?_,fun s hs=> ?_,fun s hs=> ?_⟩
 .show (proofsN zone keys m now).length<=1000;omega
 .show (setsN m.ans).length<=1000;omega
 .show (setsN m.auth).length<=1000;omega
 .obtain⟨a,b⟩:=gk m.ans hm.answ s hs;exact⟨a,by omega,m8 _ s (D8.1 hs).1⟩
 .obtain⟨a,b⟩:=gk m.auth hm.authw s hs;exact⟨a,by omega⟩
def Br9 {zone:List UInt8} {keys:List Dat} {now:Int} {s:SetR} {r:Rec} (h:verR zone keys now s r=true):0<=r.data.b∧r.data.b<=((labK s.name).length:Int):=by
 simp only[verR,Bs] at h;obtain⟨k,hk,h2⟩:=List.any_eq_true.1 h.2;simp only[decide_eq_true_eq] at h2;unfold Ev7 at h2;split at h2
 .exact absurd h2 (by decide)
 .split at h2
  .exact absurd h2 (by decide)
  .split at h2
   .rename_i h3;exact absurd h2 h3
   .rename_i h3;have h4:(signedM s r.data).2=0:=by simpa using h3
    unfold signedM at h4;split at h4
    .exact absurd h4 (by simp)
    .rename_i h5;split at h4
     .exact absurd h4 (by simp)
     .rename_i h6;have hv:E4 46 r.data=true:=by
       rcases Bn (E4 46 r.data) with q|q
       .exact q
       .exact absurd (.inl q) h5
      exact⟨(Ec2 hv).1,by rcases Int.lt_or_le ((labK s.name).length:Int) r.data.b with q|q
                          .exact absurd (.inr q) h6
                          .exact q⟩
def Dl9 (n:List UInt8):(labK n).length<=(lbl n).length:=by
 unfold labK;split
 .rw[C5];omega
 .exact B7 _
def starL (n:List UInt8) (b:Nat):List (List UInt8):=[42]::(lbl n).drop ((lbl n).length - b)
def Ad6 (n:List UInt8) (b:Nat):∀x∈starL n b,Jh x=true:=fun x hx=>by
 unfold starL at hx;rcases Ch.1 hx with rfl|hx
 .decide
 .exact Jr n x (Fq hx)
def Ad5 (n:List UInt8) (b:Nat):(starL n b).length<=255:=by have:=Jy n;unfold starL;rw[Cv,C5];omega
def joinS (n:List UInt8) (b:Int):List UInt8×Int:=joinL (starL n b.toNat)
def Bp2 (zone:List UInt8) (keys:List Dat) (now:Int) (pf:List Rec) (s:SetR) (r:Rec):Bool:=
 verR zone keys now s r && decide ((joinS s.name r.data.b).2=0) && expandedN pf zone s.name (joinS s.name r.data.b).1
def expL (c:Ck) (s:SetR):Bool:=c.m.ans.any (Bp2 c.zone c.keys c.now c.proofs s)
def W8 (c:Ck) (s:SetR) (h:CkOk c) (hs:SetW s) (hd:s.data.length<=1000):S Cy4 2 [c.pt,s.pv]=some [.b (expL c s)]:=by
 have hml:=h.msg.ans;have hpl:=h.pl;have k1:=Ik s.name hs.name;have hll:=Jy s.name;have key:Dj1.ev S (c.m.ans.length+1) [c.pt,s.pv]=some (if expL c s=true then .ret [.b true] else .yld 0 []):=by
  unfold expL;refine Em c.m.ans (fun i=>[.i .i64 (i:Int)]) (fun _ l=>if l.any (Bp2 c.zone c.keys c.now c.proofs s)=true then .ret [.b true] else .yld 0 []) rfl (by omega) (fun i x l hd2 hi hx=> ?_) ?_
  .have hil:(i:Int)<(c.m.ans.length:Int):=by omega
   have k2:=Qn c.zone c.keys s x c.now h.ask hs (by omega) (h.msg.answ x (Cz hx));rcases Bn (verR c.zone c.keys c.now s x) with hv|hv
   .obtain⟨b0,b1⟩:=Br9 hv;have b2:=Dl9 s.name;rw[hv] at k2;have e:Bp2 c.zone c.keys c.now c.proofs s x=(decide ((joinS s.name x.data.b).2=0) && expandedN c.proofs c.zone s.name (joinS s.name x.data.b).1):=by unfold Bp2;rw[hv,Ks]
    obtain⟨b,hb⟩:∃b:Nat,x.data.b=(b:Int):=⟨x.data.b.toNat,by omega⟩;have hjs:joinS s.name (b:Int)=joinL (starL s.name b):=by unfold joinS;rw[E7]
    have k3:=uk (starL s.name b) (Ad5 _ _) (Ad6 _ _);rw[<-hjs] at k3;have k4:=S4 c.proofs c.zone s.name (joinS s.name (b:Int)).1 h.pw (by omega) h.ask.zoneL hs.name;rw[hb] at e;have hnb:¬((lbl s.name).length:Int)<(b:Int):=by omega
    have ls:=Bd7 (lbl s.name) b (by omega) (by omega);have hdl:((lbl s.name).drop ((lbl s.name).length - b)).length<=1000:=by rw[C5];omega
    have ap:=td _ hdl;have e5:starL s.name b=[42]::(lbl s.name).drop ((lbl s.name).length - b):=rfl;rw[<-e5] at ap;have hlt:K5 1 [.s [42]]=some (.l 1 [.s [42]]):=rfl;generalize expandedN c.proofs c.zone s.name (joinS s.name (b:Int)).1=ex at*;generalize joinS s.name (b:Int)=j at*;generalize starL s.name b=st at*;generalize (lbl s.name).drop ((lbl s.name).length - b)=dr at*;generalize lbl s.name=lk at*;by_cases hj:j.2=0
    .cases ex with
     |true=>
      right;have e1:Bp2 c.zone c.keys c.now c.proofs s x=true:=by rw[e];simp[hj]
      simp(disch:=omega)only[ux,hx,hil,hb,hnb,k1,k2,k3,k4,hj,ls,ap,hlt,Fh,EVT,EVM,D9,Aw,simprocAttr];simp[e1,Out.goes]
     |false=>
      left;have e1:Bp2 c.zone c.keys c.now c.proofs s x=false:=by rw[e];simp
      refine⟨?_,by simp[e1]⟩;simp(disch:=omega)only[ux,hx,hil,hb,hnb,k1,k2,k3,k4,hj,ls,ap,hlt,Fh,EVT,EVM,D9,Aw,simprocAttr]
    .left;have e1:Bp2 c.zone c.keys c.now c.proofs s x=false:=by rw[e];simp[hj]
     refine⟨?_,by simp[e1]⟩;simp(disch:=omega)only[ux,hx,hil,hb,hnb,k1,k2,k3,hj,ls,ap,hlt,Fh,EVT,EVM,D9,Aw,simprocAttr]
   .left;rw[hv] at k2;have e1:Bp2 c.zone c.keys c.now c.proofs s x=false:=by unfold Bp2;rw[hv];simp
    refine⟨?_,by simp[e1]⟩;simp(disch:=omega)only[ux,hx,hil,k2,Fh,EVT,EVM,D9,Aw,simprocAttr]
  .simp(disch:=omega)only[ux,Eb,Fh,EVT,EVM,D9,Aw,simprocAttr];simp[Out.goes]
 refine Fs8 (N:=c.m.ans.length+1) rfl ?_;rcases Bn (expL c s) with hv|hv<;>rw[hv] at key ⊢<;>simp(disch:=omega)only[ux,key,Fh,EVT,EVM,D9,Aw,simprocAttr]<;>simp
def gz (zone n:List UInt8) (s:SetR):Bool:=decide (s.typ=39) && decide (s.data.length=1) && under s.name zone && !decide (s.name=n) && under n s.name
def Lk (c:Ck) (n:List UInt8) (h:CkOk c) (hn:n.length<=9223372036854775807):S Bq8 2 [c.pt,.s n]=some [D6 (c.ans.filter (gz c.zone n))]:=by
 have hal:=h.ansl;have key:Cs9.ev S (c.ans.length+1) [c.pt,.s n]=some (.yld 0 [D6 ([]++c.ans.filter (gz c.zone n))]):=by
  refine Ht c.ans (fun i (g:List SetR)=>[D6 g,.i .i64 (i:Int)]) (fun _ g r=> .yld 0 [D6 (g++r.filter (gz c.zone n))]) (fun i g=>g.length<=i) [] (by simp(disch:=omega)only[D9,Aw,simprocAttr]) (Df _) (by omega) (fun i g s r hd hi hs hI=> ?_) (fun g hI=> ?_)
  .left;have hil:(i:Int)<(c.ans.length:Int):=by omega
   obtain⟨hsw,hsd,hne⟩:=h.ansW s (Cz hs);have k1:=Fx s.name c.zone hsw.name h.ask.zoneL;have k2:=Fx n s.name hn hsw.name;have e:gz c.zone n s=(decide (s.typ=39) && decide (s.data.length=1) && under s.name c.zone && !decide (s.name=n) && under n s.name):=rfl;have no:gz c.zone n s=false->∀o,o=some (Out.yld 1 [D6 g,.i .i64 ((i:Int)+1)])->∃g',o=some (Out.yld 1 [D6 g',.i .i64 ((i+1:Nat):Int)])∧g'.length<=i+1∧Out.yld 0 [D6 (g'++r.filter (gz c.zone n))]=Out.yld 0 [D6 (g++(s::r).filter (gz c.zone n))]:=fun hf o ho=>⟨g,ho,by omega,by rw[G7 (by simp[hf])]⟩;generalize under s.name c.zone=u1 at*;generalize under n s.name=u2 at*;by_cases h1:s.typ=39
   .by_cases h2:(s.data.length:Int)=1
    .cases u1 with
     |false=>
      refine no (by rw[e];simp) _ ?_;simp(disch:=omega)only[Yh,hs,hil,h1,h2,k1,Fh,EVT,EVM,D9,Aw,simprocAttr]
     |true=>
      by_cases h3:s.name=n
      .refine no (by rw[e];simp[h3]) _ ?_;rw[h3] at k1;simp(disch:=omega)only[Yh,hs,hil,h1,h2,k1,h3,Fh,EVT,EVM,D9,Aw,simprocAttr]
      .cases u2 with
       |false=>
        refine no (by rw[e];simp) _ ?_;simp(disch:=omega)only[Yh,hs,hil,h1,h2,k1,k2,h3,Fh,EVT,EVM,D9,Aw,simprocAttr]
       |true=>
        refine⟨g++[s],?_,by rw[Bt,Iw];omega,?_⟩
        .simp(disch:=omega)only[Yh,hs,hil,h1,h2,k1,k2,h3,Fh,EVT,EVM,D9,Aw,simprocAttr]
        .rw[Dy (by rw[e];simp[h1,h3];omega),Cq];rfl
    .refine no (by rw[e];simp;omega) _ ?_;simp(disch:=omega)only[Yh,hs,hil,h1,h2,Fh,EVT,EVM,D9,Aw,simprocAttr]
   .refine no (by rw[e];simp[h1]) _ ?_;simp(disch:=omega)only[Yh,hs,hil,h1,Fh,EVT,EVM,D9,Aw,simprocAttr]
  .simp(disch:=omega)only[Yh,Eb,Fh,EVT,EVM,D9,Aw,simprocAttr];simp[Out.goes]
 rw[D2] at key;refine Fp7 (N:=c.ans.length+1) rfl ?_;generalize c.ans.filter (gz c.zone n)=f at*;simp(disch:=omega)only[Yh,key,Fh,EVT,EVM,D9,Aw,simprocAttr]
def W3 (s:SetR):List UInt8:=(s.data[0]?.map Dat.host).getD []
def R9 {s:SetR} (h:s.data≠[]):∃d,s.data[0]? =some d∧W3 s=d.host∧d∈s.data:=by
 unfold W3;cases hs:s.data with
 |nil=>exact absurd hs h
 |cons d r=>exact⟨d,rfl,rfl,.head _⟩
def Cc6 (s x:SetR):Bool:=decide ((replN s.name x.name (W3 x)).2=0) && decide ((replN s.name x.name (W3 x)).1=W3 s)
def impL (c:Ck) (s:SetR):Bool:=decide (s.typ=5) && decide (s.data.length=1) && (c.ans.filter (gz c.zone s.name)).any (Cc6 s)
def Ah4 {c:Ck} (h:CkOk c) {n:List UInt8} {x:SetR} (hx:x∈c.ans.filter (gz c.zone n)):SetW x∧x.data≠[]:=by obtain⟨a,_,b⟩:=h.ansW x (D8.1 hx).1;exact⟨a,b⟩
def yw (c:Ck) (s:SetR) (h:CkOk c) (hs:SetW s) (hne:s.data≠[]):S Cy3 2 [c.pt,s.pv]=some [.b (impL c s)]:=by
 have hal:=h.ansl;have hfl:=et (gz c.zone s.name) c.ans;have k1:=Lk c s.name h hs.name;have hm:=fun x=>Ah4 h (n:=s.name) (x:=x);obtain⟨ds,i0,hh,_⟩:=R9 hne;unfold impL;generalize c.ans.filter (gz c.zone s.name)=rd at*;have key:Dj0.ev S (rd.length+1) [c.pt,s.pv,D6 rd]=some (if rd.any (Cc6 s)=true then .ret [.b true] else .yld 0 []):=by
  refine Em rd (fun i=>[.i .i64 (i:Int)]) (fun _ l=>if l.any (Cc6 s)=true then .ret [.b true] else .yld 0 []) rfl (by omega) (fun i x l hd2 hi hx=> ?_) ?_
  .have hil:(i:Int)<(rd.length:Int):=by omega
   obtain⟨hxw,hxn⟩:=hm x (Cz hx);obtain⟨dx,j0,hj,hjm⟩:=R9 hxn;have k2:=Qc s.name x.name dx.host hs.name hxw.name (hxw.data dx hjm).host;have e:Cc6 s x=(decide ((replN s.name x.name dx.host).2=0) && decide ((replN s.name x.name dx.host).1=ds.host)):=by unfold Cc6;rw[hj,hh]
   generalize replN s.name x.name dx.host=rp at*;by_cases h1:rp.2=0
   .by_cases h2:rp.1=ds.host
    .right;have e1:Cc6 s x=true:=by rw[e];simp[h1,h2]
     simp(disch:=omega)only[fy,hx,hil,i0,j0,k2,h1,h2,Fh,EVT,EVM,D9,Aw,simprocAttr];simp[e1,Out.goes]
    .left;have e1:Cc6 s x=false:=by rw[e];simp[h2]
     refine⟨?_,by simp[e1]⟩;simp(disch:=omega)only[fy,hx,hil,i0,j0,k2,h1,h2,Fh,EVT,EVM,D9,Aw,simprocAttr]
   .left;have e1:Cc6 s x=false:=by rw[e];simp[h1]
    refine⟨?_,by simp[e1]⟩;simp(disch:=omega)only[fy,hx,hil,i0,j0,k2,h1,Fh,EVT,EVM,D9,Aw,simprocAttr]
  .simp(disch:=omega)only[fy,Eb,Fh,EVT,EVM,D9,Aw,simprocAttr];simp[Out.goes]
 refine Fs7 (N:=rd.length+1) rfl ?_;by_cases h1:s.typ=5
 .by_cases h2:(s.data.length:Int)=1
  .have h2':s.data.length=1:=by omega
   rw[decide_eq_true h1,decide_eq_true h2',Ks,Ks];rcases Bn (rd.any (Cc6 s)) with hv|hv<;>rw[hv] at key ⊢<;>simp(disch:=omega)only[fy,k1,key,h1,h2,Fh,EVT,EVM,D9,Aw,simprocAttr]<;>simp
  .have h2':¬s.data.length=1:=by omega
   rw[decide_eq_false h2'];simp(disch:=omega)only[fy,h1,h2,Fh,EVT,EVM,D9,Aw,simprocAttr]
   try simp
 .rw[decide_eq_false h1];simp(disch:=omega)only[fy,h1,Fh,EVT,EVM,D9,Aw,simprocAttr]
  try simp
def Dq4 (n:List UInt8) (t:Int) (r:Rec):Bool:=decide (r.name=n) && (decide (r.typ=t)||decide (t=255))
def ansB (l:List Rec) (n:List UInt8) (t:Int):Bool:=l.any (Dq4 n t)
def folM (l:List Rec) (t:Int):Nat->List UInt8->List UInt8×Bool
 |0,n=>(n,ansB l n t)
 |k+1,n=>if ansB l n t=true then(n,true) else if(setF (setsR l) n 5).isSome=true then folM l t k (W3 ((setF (setsR l) n 5).getD zS)) else(n,false)
def Bc1 (c:Ck) (n:List UInt8) (p2:PV) (h:CkOk c) (N:Nat) (hN:c.m.ans.length<N):
  Cs4.ev S N [c.pt,.s n,p2]=some (if ansB c.m.ans n c.m.q.typ=true then .ret [.s n,.b true] else .yld 2 []):=by
 have hml:=h.msg.ans;unfold ansB;refine Em c.m.ans (fun i=>[.i .i64 (i:Int)]) (fun _ l=>if l.any (Dq4 n c.m.q.typ)=true then .ret [.s n,.b true] else .yld 2 []) rfl hN (fun i x l hd2 hi hx=> ?_) ?_
 .have hil:(i:Int)<(c.m.ans.length:Int):=by omega
  have e:Dq4 n c.m.q.typ x=(decide (x.name=n) && (decide (x.typ=c.m.q.typ)||decide (c.m.q.typ=255))):=rfl;by_cases h1:x.name=n
  .by_cases h2:x.typ=c.m.q.typ
   .right;have e1:Dq4 n c.m.q.typ x=true:=by rw[e];simp[h1,h2]
    simp(disch:=omega)only[Qh,hx,hil,h1,h2,Fh,EVT,EVM,D9,Aw,simprocAttr];simp[e1,Out.goes]
   .by_cases h3:c.m.q.typ=255
    .right;have e1:Dq4 n c.m.q.typ x=true:=by rw[e];simp[h1,h3]
     have h2':=h2;rw[h3] at h2';have e1':Dq4 n 255 x=true:=by rw[<-h3];exact e1
     simp(disch:=omega)only[Qh,hx,hil,h1,h2,h2',h3,Fh,EVT,EVM,D9,Aw,simprocAttr];simp[e1,e1',Out.goes]
    .left;have e1:Dq4 n c.m.q.typ x=false:=by rw[e];simp[h2,h3]
     refine⟨?_,by simp[e1]⟩;simp(disch:=omega)only[Qh,hx,hil,h1,h2,h3,Fh,EVT,EVM,D9,Aw,simprocAttr]
  .left;have e1:Dq4 n c.m.q.typ x=false:=by rw[e];simp[h1]
   refine⟨?_,by simp[e1]⟩;simp(disch:=omega)only[Qh,hx,hil,h1,Fh,EVT,EVM,D9,Aw,simprocAttr]
 .simp(disch:=omega)only[Qh,Eb,Fh,EVT,EVM,D9,Aw,simprocAttr];simp[Out.goes]
def Uz {l:List SetR} {n:List UInt8} {t:Int} (h:(setF l n t).isSome=true):(setF l n t).getD zS∈l:=by
 cases hf:setF l n t with
 |none=>rw[hf] at h;cases h
 |some x=>exact List.mem_of_find?_eq_some hf
def Bc0 (c:Ck) (h:CkOk c) (hc:c.ans=setsN c.m.ans) (hq:c.m.q.name.length<=9223372036854775807):
  S Cy2 1 [c.pt]=some [.s (folM c.m.ans c.m.q.typ 8 c.m.q.name).1,.b (folM c.m.ans c.m.q.typ 8 c.m.q.name).2]:=by
 have hal:=h.ansl;have hml:=h.msg.ans;have key:Ct9.ev S 2000 [c.pt]=some (.ret [.s (folM c.m.ans c.m.q.typ 8 c.m.q.name).1,.b (folM c.m.ans c.m.q.typ 8 c.m.q.name).2]):=by
  refine Jx (fun a:Nat×List UInt8=>[.s a.2,.i .i64 (a.1:Int)]) (fun a=> .ret [.s (folM c.m.ans c.m.q.typ (8 - a.1) a.2).1,.b (folM c.m.ans c.m.q.typ (8 - a.1) a.2).2]) (fun a=>a.1<=8∧a.2.length<=9223372036854775807) (fun a=>9 - a.1) (0,c.m.q.name) ?_ ⟨Df _,hq⟩ (by show 9<2000;decide) (fun⟨i,n⟩ ⟨hi,hn⟩=> ?_)
  .simp(disch:=omega)only[Fh,EVT,EVM,D9,Aw,simprocAttr]
   try rfl
  .simp only at hi hn ⊢;have k1:=fun p2=>Bc1 c n p2 h 2000 (by omega);have k2:=Sy c.ans n 5 (by omega);rw[gq] at k2;have hsound:=Uz (l:=c.ans) (n:=n) (t:=5);have e5:setF c.ans n 5=setF (setsR c.m.ans) n 5:=by rw[hc];exact nj _ _ _ (by decide)
   have ef:∀k,folM c.m.ans c.m.q.typ (k+1) n=if ansB c.m.ans n c.m.q.typ=true then(n,true) else if(setF c.ans n 5).isSome=true then folM c.m.ans c.m.q.typ k (W3 ((setF c.ans n 5).getD zS)) else(n,false):=fun k=>by rw[e5];rfl
   have e0:folM c.m.ans c.m.q.typ 0 n=(n,ansB c.m.ans n c.m.q.typ):=rfl;generalize ansB c.m.ans n c.m.q.typ=ab at*;generalize (setF c.ans n 5).isSome=ok at*;generalize (setF c.ans n 5).getD zS=s at*;rcases Nat.lt_or_ge i 8 with h8|h8
   .obtain⟨k,hk⟩:∃k,8 - i=k+1:=⟨7 - i,by omega⟩;have hk2:8 - (i+1)=k:=by omega
    have hi8:¬(8:Int)<=(i:Int):=by omega
    rw[hk,ef k];cases ab with
    |true=>
     right;simp(disch:=omega)only[Qh,k1,Fh,EVT,EVM,D9,Aw,simprocAttr];simp[Out.goes]
    |false=>
     cases ok with
     |false=>
      right;simp(disch:=omega)only[Qh,k1,k2,Fh,EVT,EVM,D9,Aw,simprocAttr];simp[Out.goes]
     |true=>
      left;obtain⟨hsw,_,hne⟩:=h.ansW s (hsound rfl);obtain⟨d,i0,hh,hdm⟩:=R9 hne;rw[hh];refine⟨(i+1,d.host),?_,⟨by simp only;omega,(hsw.data d hdm).host⟩,by simp only;omega,by simp only[hk2];rfl⟩;simp(disch:=omega)only[Qh,k1,k2,hi8,i0,Fh,EVT,EVM,D9,Aw,simprocAttr]
   .obtain rfl:i=8:=by omega
    rw[show 8 - 8=0 from rfl,e0];right;cases ab with
    |true=>
     simp(disch:=omega)only[Qh,k1,Fh,EVT,EVM,D9,Aw,simprocAttr];simp[Out.goes]
    |false=>
     cases ok<;>simp(disch:=omega)only[Qh,k1,k2,Fh,EVT,EVM,D9,Aw,simprocAttr]<;>simp[Out.goes]
 refine Fs6 (N:=2000) rfl ?_;simp(disch:=omega)only[Qh,key,Fh,EVT,EVM,D9,Aw,simprocAttr]
def Bc3 (l:List Rec) (t:Int) (hw:∀r∈l,r.wf):∀(k:Nat) (n:List UInt8),n.length<=9223372036854775807->(folM l t k n).1.length<=9223372036854775807
 |0,n,hn=>hn
 |k+1,n,hn=>by
  unfold folM;split
  .exact hn
  .split
   .rename_i h;have hm:=Uz h;obtain⟨d,_,hh,hdm⟩:=R9 (m8 _ _ hm);rw[hh];exact Bc3 l t hw k _ ((V8 l hw _ hm).1.data d hdm).host
   .exact hn
def nothB (zone:List UInt8) (keys:List Dat) (m:Msg) (now:Int) (n:List UInt8):Bool:=
 (setF (setsR m.auth) zone 6).isSome && provB zone keys now ((setF (setsR m.auth) zone 6).getD zS) m.auth && (if m.code=3 then absentN (proofsN zone keys m now) zone n else emptyN (proofsN zone keys m now) zone ⟨n,m.q.typ⟩)
def xg (zone:List UInt8) (keys:List Dat) (m:Msg) (now:Int) (n:List UInt8) (ha:AskOk zone keys) (hm:MsgOk m) (hn:n.length<=9223372036854775807):
  S Cy1 2 [(ckM zone keys m now).pt,.s n]=some [.b (nothB zone keys m now n)]:=by
 have h:=Dk3 zone keys m now ha hm;have e1:(ckM zone keys m now).zone=zone:=rfl;have e2:(ckM zone keys m now).keys=keys:=rfl;have e3:(ckM zone keys m now).m=m:=rfl;have e4:(ckM zone keys m now).now=now:=rfl;have e5:(ckM zone keys m now).auth=setsN m.auth:=rfl;have e6:(ckM zone keys m now).proofs=proofsN zone keys m now:=rfl;unfold nothB;rw[<-nj m.auth zone 6 (by decide),<-e6];obtain⟨hs,hsd⟩:=Af9 (n:=zone) (t:=6) (by decide) hm.authw;have hml:=hm.auth;rw[<-e5] at hs hsd ⊢;generalize hck:ckM zone keys m now=c at*;subst e1 e2 e3 e4;have hpl:=h.pl;have hal:=h.authl;have k1:=Sy c.auth c.zone 6 (by omega);rw[gq] at k1;generalize (setF c.auth c.zone 6).isSome=ok at*;generalize (setF c.auth c.zone 6).getD zS=s at*;have k2:=Nf c s c.m.auth h.ask hs (by omega) h.msg.authw (by omega);generalize provB c.zone c.keys c.now s c.m.auth=pb at*;have k3:=zl c.proofs c.zone n h.pw (by omega) h.ask.zoneL hn;have k4:=Bn2 c.proofs c.zone ⟨n,c.m.q.typ⟩ h.pw (by omega) h.ask.zoneL hn;generalize absentN c.proofs c.zone n=ab at*;generalize emptyN c.proofs c.zone ⟨n,c.m.q.typ⟩=em at*;clear hck;refine Fs5 (N:=1) rfl ?_;cases ok with
 |false=>
  simp(disch:=omega)only[Br5,k1,Fh,EVT,EVM,D9,Aw,simprocAttr]
  try simp
 |true=>
  cases pb with
  |false=>
   simp(disch:=omega)only[Br5,k1,k2,Fh,EVT,EVM,D9,Aw,simprocAttr]
   try simp
  |true=>
   by_cases h3:c.m.code=3
   .rw[if_pos h3];simp(disch:=omega)only[Br5,k1,k2,k3,h3,Fh,EVT,EVM,D9,Aw,simprocAttr]
    try simp
   .rw[if_neg h3];simp(disch:=omega)only[Br5,k1,k2,k4,h3,Fh,EVT,EVM,D9,Aw,simprocAttr]
    try simp
def Cc5 (n:List UInt8) (x:SetR):Bool:=decide ((replN n x.name (W3 x)).2≠0)||decide ((replN n x.name (W3 x)).1[0]? =some 42)
def Cj8 {n t to:List UInt8} (h:(replN n t to).2=0):(replN n t to).1≠[]:=by
 unfold replN at h ⊢;split
 .rename_i h1;rw[if_pos h1] at h;split
  .rename_i h2;rw[if_pos h2] at h;split
   .have:=rk (Uc h2.1 h2.2 h1.2.2.1 h1.2.2.2).2.1;intro e;have e':flat (Wj n t to)=[]:=e;rw[e'] at this;exact absurd this (by decide)
   .rename_i h3;rw[if_neg h3] at h;exact absurd h (by decide)
  .rename_i h2;rw[if_neg h2] at h;exact absurd h (by decide)
 .rename_i h1;rw[if_neg h1] at h;exact absurd h (by decide)
def longB (c:Ck) (n:List UInt8):Bool:=decide (c.m.code=6) && (c.ans.filter (gz c.zone n)).any (Cc5 n)
def Ec4 (b:UInt8):((b.toNat:Int)=42)↔b=42:=by
 constructor
 .intro h;have:b.toNat=42:=by omega
  exact UInt8.toNat_inj.1 this
 .rintro rfl;rfl
def ug (c:Ck) (n:List UInt8) (h:CkOk c) (hn:n.length<=9223372036854775807):S Cy0 2 [c.pt,.s n]=some [.b (longB c n)]:=by
 have hal:=h.ansl;have hfl:=et (gz c.zone n) c.ans;have k1:=Lk c n h hn;have hm:=fun x=>Ah4 h (n:=n) (x:=x);unfold longB;generalize c.ans.filter (gz c.zone n)=rd at*;have key:Ct8.ev S (rd.length+1) [c.pt,.s n,D6 rd]=some (if rd.any (Cc5 n)=true then .ret [.b true] else .yld 0 []):=by
  refine Em rd (fun i=>[.i .i64 (i:Int)]) (fun _ l=>if l.any (Cc5 n)=true then .ret [.b true] else .yld 0 []) rfl (by omega) (fun i x l hd2 hi hx=> ?_) ?_
  .have hil:(i:Int)<(rd.length:Int):=by omega
   obtain⟨hxw,hxn⟩:=hm x (Cz hx);obtain⟨dx,j0,hj,hjm⟩:=R9 hxn;have k2:=Qc n x.name dx.host hn hxw.name (hxw.data dx hjm).host;have hp:=Cj8 (n:=n) (t:=x.name) (to:=dx.host);have e:Cc5 n x=(decide ((replN n x.name dx.host).2≠0)||decide ((replN n x.name dx.host).1[0]? =some 42)):=by unfold Cc5;rw[hj]
   generalize replN n x.name dx.host=rp at*;obtain⟨nm,er⟩:=rp;simp only at*;by_cases h1:er=0
   .obtain⟨b,r,hbr⟩:∃b r,nm=b::r:=by
     cases nm with
     |nil=>exact absurd rfl (hp h1)
     |cons b r=>exact⟨b,r,rfl⟩
    have hg:nm[0]? =some b:=by rw[hbr];rfl
    rw[hg] at e;by_cases h2:b=42
    .right;have h2':=(Ec4 b).2 h2;have e1:Cc5 n x=true:=by rw[e];simp[h2]
     simp(disch:=omega)only[uw,hx,hil,j0,k2,h1,hg,h2',Fh,EVT,EVM,D9,Aw,simprocAttr];simp[e1,Out.goes]
    .left;have h2':¬(b.toNat:Int)=42:=fun q=>h2 ((Ec4 b).1 q);have e1:Cc5 n x=false:=by rw[e];simp[h1,h2]
     refine⟨?_,by simp[e1]⟩;simp(disch:=omega)only[uw,hx,hil,j0,k2,h1,hg,h2',Fh,EVT,EVM,D9,Aw,simprocAttr]
   .right;have e1:Cc5 n x=true:=by rw[e];simp[h1]
    simp(disch:=omega)only[uw,hx,hil,j0,k2,h1,Fh,EVT,EVM,D9,Aw,simprocAttr];simp[e1,Out.goes]
  .simp(disch:=omega)only[uw,Eb,Fh,EVT,EVM,D9,Aw,simprocAttr];simp[Out.goes]
 refine Fs4 (N:=rd.length+1) rfl ?_;by_cases h1:c.m.code=6
 .rw[decide_eq_true h1,Ks];rcases Bn (rd.any (Cc5 n)) with hv|hv<;>rw[hv] at key ⊢<;>simp(disch:=omega)only[uw,k1,key,h1,Fh,EVT,EVM,D9,Aw,simprocAttr]<;>simp
 .rw[decide_eq_false h1];simp(disch:=omega)only[uw,h1,Fh,EVT,EVM,D9,Aw,simprocAttr]
  try simp
def Bl9 (c:Ck) (s:SetR):Bool:=under s.name c.zone && !provB c.zone c.keys c.now s c.m.ans && !expL c s && !impL c s
def ansM (zone:List UInt8) (keys:List Dat) (m:Msg) (now:Int):Int:=
 if keys=[] then 2
 else if(setsN m.ans).any (Bl9 (ckM zone keys m now))=true then 3
 else
  let p:=folM m.ans m.q.typ 8 m.q.name
  if(p.2|| !under p.1 zone||nothB zone keys m now p.1||longB (ckM zone keys m now) p.1)=true then 1
  else if((decide ((refM zone keys m now).2.2=1)||decide ((refM zone keys m now).2.2=2)) && under p.1 (refM zone keys m now).1)=true then 1 else 3
def Ck2 (zone:List UInt8) (keys:List Dat) (m:Msg) (now:Int) (hm:MsgOk m):(refM zone keys m now).1.length<=9223372036854775807:=by
 unfold refM;cases hk:yq zone m.auth with
 |none=>exact Df _
 |some c=>
  unfold yq at hk;cases hf:m.auth.find? (Bp1 zone) with
  |none=>rw[hf] at hk;cases hk
  |some r=>
   rw[hf] at hk;injection hk with hk;rw[<-hk];exact(hm.authw r (List.mem_of_find?_eq_some hf)).name
def zh (zone:List UInt8) (keys:List Dat) (m:Msg) (now:Int) (ha:AskOk zone keys) (hm:MsgOk m):
  S ij 4 [.s zone,Ez keys,m.pv,.i .i64 now]=some [.i .i64 (ansM zone keys m now)]:=by
 refine Ft5 (N:=2000) rfl ?_;unfold ansM;by_cases h:keys=[]
 .subst h;rw[if_pos rfl];simp(disch:=omega)only[Mr,Fh,EVT,EVM,D9,Aw,simprocAttr]
  try simp
 .have h':¬(keys.length:Int)=0:=by have:=C1.2 h;omega
  rw[if_neg h];have k1:=Bw3 zone keys m now ha hm;have hc:=Dk3 zone keys m now ha hm;have k2:=Bc0 (ckM zone keys m now) hc rfl hm.qn;have e3:(ckM zone keys m now).m=m:=rfl;rw[e3] at k2;have hfl:=Bc3 m.ans m.q.typ hm.answ 8 m.q.name hm.qn;have k3:=Fx (folM m.ans m.q.typ 8 m.q.name).1 zone hfl ha.zoneL;have k4:=xg zone keys m now (folM m.ans m.q.typ 8 m.q.name).1 ha hm hfl;have k5:=ug (ckM zone keys m now) (folM m.ans m.q.typ 8 m.q.name).1 hc hfl;have k6:=Rx zone keys m now ha hm;have k7:=Fx (folM m.ans m.q.typ 8 m.q.name).1 (refM zone keys m now).1 hfl (Ck2 zone keys m now hm);have ea:(ckM zone keys m now).ans=setsN m.ans:=rfl;have ez:(ckM zone keys m now).zone=zone:=rfl;have ek:(ckM zone keys m now).keys=keys:=rfl;have en:(ckM zone keys m now).now=now:=rfl;rw[<-ea];simp only[];generalize folM m.ans m.q.typ 8 m.q.name=p at*;generalize nothB zone keys m now p.1=nb at*;generalize refM zone keys m now=rf at*;generalize ckM zone keys m now=c at*;subst e3 ez ek en;generalize longB c p.1=lb at*;clear ea;have hal:=hc.ansl;have hml:=hm.ans;have key:Dj6.ev S 2000 [.s c.zone,Ez c.keys,c.m.pv,.i .i64 c.now,c.pt]=some (if c.ans.any (Bl9 c)=true then .ret [.i .i64 3] else .yld 0 []):=by
   refine Em c.ans (fun i=>[.i .i64 (i:Int)]) (fun _ l=>if l.any (Bl9 c)=true then .ret [.i .i64 3] else .yld 0 []) rfl (by omega) (fun i s l hd2 hi hx=> ?_) ?_
   .have hil:(i:Int)<(c.ans.length:Int):=by omega
    obtain⟨hsw,hsd,hsn⟩:=hc.ansW s (Cz hx);have g1:=Fx s.name c.zone hsw.name ha.zoneL;have g2:=Nf c s c.m.ans hc.ask hsw (by omega) hm.answ (by omega);have g3:=W8 c s hc hsw hsd;have g4:=yw c s hc hsw hsn;have e:Bl9 c s=(under s.name c.zone && !provB c.zone c.keys c.now s c.m.ans && !expL c s && !impL c s):=rfl;generalize under s.name c.zone=b1 at*;generalize provB c.zone c.keys c.now s c.m.ans=b2 at*;generalize expL c s=b3 at*;generalize impL c s=b4 at*;have yes:Bl9 c s=false->∀o:Option Out,o=some (.yld 1 [.i .i64 ((i:Int)+1)])->(o=some (.yld 1 [.i .i64 ((i+1:Nat):Int)])∧(if l.any (Bl9 c)=true then Out.ret [.i .i64 3] else .yld 0 [])=(if(s::l).any (Bl9 c)=true then Out.ret [.i .i64 3] else .yld 0 [])):=fun hf o ho=>⟨ho,by simp[hf]⟩;cases b1 with
    |false=>
     left;refine yes (by rw[e];rfl) _ ?_;simp(disch:=omega)only[Mr,hx,hil,g1,Fh,EVT,EVM,D9,Aw,simprocAttr]
    |true=>
     cases b2 with
     |true=>
      left;refine yes (by rw[e];rfl) _ ?_;simp(disch:=omega)only[Mr,hx,hil,g1,g2,Fh,EVT,EVM,D9,Aw,simprocAttr]
     |false=>
      cases b3 with
      |true=>
       left;refine yes (by rw[e];rfl) _ ?_;simp(disch:=omega)only[Mr,hx,hil,g1,g2,g3,Fh,EVT,EVM,D9,Aw,simprocAttr]
      |false=>
       cases b4 with
       |true=>
        left;refine yes (by rw[e];rfl) _ ?_;simp(disch:=omega)only[Mr,hx,hil,g1,g2,g3,g4,Fh,EVT,EVM,D9,Aw,simprocAttr]
       |false=>
        right;have e1:Bl9 c s=true:=by rw[e];rfl
        simp(disch:=omega)only[Mr,hx,hil,g1,g2,g3,g4,Fh,EVT,EVM,D9,Aw,simprocAttr];simp[e1,Out.goes]
   .simp(disch:=omega)only[Mr,Eb,Fh,EVT,EVM,D9,Aw,simprocAttr];simp[Out.goes]
  generalize c.ans.any (Bl9 c)=bad at*;generalize under p.1 c.zone=u1 at*;generalize under p.1 rf.1=u2 at*;obtain⟨nm,fo⟩:=p;obtain⟨ch,dd,st⟩:=rf;simp only at*;cases bad with
  |true=>
   simp(disch:=omega)only[Mr,h',k1,key,Fh,EVT,EVM,D9,Aw,simprocAttr]
  |false=>
   cases fo with
   |true=>
    simp(disch:=omega)only[Mr,h',k1,k2,key,Fh,EVT,EVM,D9,Aw,simprocAttr]
    try simp
   |false=>
    cases u1 with
    |false=>
     simp(disch:=omega)only[Mr,h',k1,k2,k3,key,Fh,EVT,EVM,D9,Aw,simprocAttr]
     try simp
    |true=>
     cases nb with
     |true=>
      simp(disch:=omega)only[Mr,h',k1,k2,k3,k4,key,Fh,EVT,EVM,D9,Aw,simprocAttr]
      try simp
     |false=>
      cases lb with
      |true=>
       simp(disch:=omega)only[Mr,h',k1,k2,k3,k4,k5,key,Fh,EVT,EVM,D9,Aw,simprocAttr]
       try simp
      |false=>
       by_cases s1:st=1
       .cases u2<;>simp(disch:=omega)only[Mr,h',k1,k2,k3,k4,k5,k6,k7,s1,key,Fh,EVT,EVM,D9,Aw,simprocAttr]<;>try simp
       .by_cases s2:st=2
        .cases u2<;>simp(disch:=omega)only[Mr,h',k1,k2,k3,k4,k5,k6,k7,s2,key,Fh,EVT,EVM,D9,Aw,simprocAttr]<;>try simp
        .simp(disch:=omega)only[Mr,h',k1,k2,k3,k4,k5,k6,s1,s2,key,Fh,EVT,EVM,D9,Aw,simprocAttr]
         try simp[s1,s2]
def Bm7 (g:List SetR) (r:Rec):(∃x∈addS g r,x.name=r.name∧x.typ=r.typ)∧∀y∈g,∃x∈addS g r,x.name=y.name∧x.typ=y.typ:=by
 unfold addS;split
 .rename_i y hy;split
  .rename_i h;refine⟨⟨_,Ct.2 (.inr (.head _)),h⟩,fun w hw=> ?_⟩;have hne:g≠[]:=fun e=>by rw[e] at hw;cases hw
   have hgl:=List.getLast?_eq_some_getLast hne;rw[hy] at hgl;injection hgl with hgl;rw[<-Gt hne] at hw;rcases Ct.1 hw with hw|hw
   .exact⟨w,Ct.2 (.inl hw),rfl,rfl⟩
   .rw[Cf.1 hw,<-hgl];exact⟨_,Ct.2 (.inr (.head _)),rfl,rfl⟩
  .exact⟨⟨_,Ct.2 (.inr (.head _)),rfl,rfl⟩,fun w hw=>⟨w,Ct.2 (.inl hw),rfl,rfl⟩⟩
 .rename_i hn;rw[List.getLast?_eq_none_iff] at hn;subst hn;exact⟨⟨_,.head _,rfl,rfl⟩,fun w hw=>by cases hw⟩
def Uy:∀(l:List Rec) (g:List SetR),(∀r∈l,∃x∈l.foldl addS g,x.name=r.name∧x.typ=r.typ)∧∀y∈g,∃x∈l.foldl addS g,x.name=y.name∧x.typ=y.typ
 |[],g=>⟨by simp,fun y hy=>⟨y,hy,rfl,rfl⟩⟩
 |r::l,g=>by
  obtain⟨a1,a2⟩:=Bm7 g r;obtain⟨i1,i2⟩:=Uy l (addS g r);refine⟨fun s hs=> ?_,fun y hy=> ?_⟩
  .rcases Ch.1 hs with rfl|hs
   .obtain⟨x,hx,n1,n2⟩:=a1;obtain⟨w,hw,m1,m2⟩:=i2 x hx;exact⟨w,hw,m1.trans n1,m2.trans n2⟩
   .exact i1 s hs
  .obtain⟨x,hx,n1,n2⟩:=a2 y hy;obtain⟨w,hw,m1,m2⟩:=i2 x hx;exact⟨w,hw,m1.trans n1,m2.trans n2⟩
def Dd5 (l:List Rec) (r:Rec) (hr:r∈l):∃x∈setsR l,x.name=r.name∧x.typ=r.typ:=by obtain⟨y,hy,hk,_⟩:=Bl7 l r hr;obtain⟨x,hx,n1,n2⟩:=(Uy (sortR l) []).1 y (((L4 l).2 y).2 hy);have e:=hk;unfold Gg at e;simp only[B3] at e;exact⟨x,hx,n1.trans e.1,n2.trans e.2.1⟩
def Jq (r:Rec):Bool:= !decide (r.typ=46)
def Ih (m:Msg):Msg:=⟨m.id,m.op,m.code,m.resp,m.aa,m.tc,m.rd,m.ra,m.ad,m.cd,m.dok,m.size,m.q,m.ans.filter Jq,m.auth,m.ext⟩
def Sj (zone:List UInt8) (r:Rec):Bool:= !decide (r.typ=46) && !decide (r.typ=5) && under r.name zone
def Ek9 {m:Msg} (h:MsgOk m):MsgOk (Ih m):=by refine⟨?_,h.auth,fun r hr=>h.answ r (D8.1 hr).1,h.authw,h.qn⟩;have h1:=h.ans;have h2:=et Jq m.ans;show (m.ans.filter Jq).length<=1000;omega
def tx {zone:List UInt8} {keys:List Dat} {now:Int} {s:SetR} {m:Msg} {r:Rec} (hr:r∈(Ih m).ans):verR zone keys now s r=false:=by have h:=(D8.1 hr).2;simp only[Jq,Dq,decide_eq_false_iff_not] at h;unfold verR Fn4;simp[h]
def Eq1 (zone:List UInt8) (keys:List Dat) (m:Msg) (now:Int) (h:keys≠[]):ansM zone keys m now=1∨ansM zone keys m now=3:=by
 unfold ansM;rw[if_neg h];split
 .exact .inr rfl
 .simp only[];split
  .exact .inl rfl
  .split
   .exact .inl rfl
   .exact .inr rfl
def Ch1 {zone:List UInt8} {keys:List Dat} {m:Msg} {now:Int} (hk:keys≠[]) (h:m.ans.any (Sj zone)=true):ansM zone keys (Ih m) now=3:=by
 obtain⟨r,hr,h2⟩:=List.any_eq_true.1 h;simp only[Sj,Bs,Dq,decide_eq_false_iff_not] at h2;obtain⟨⟨h46,h5⟩,hu⟩:=h2;have hb:r∈(Ih m).ans:=D8.2 ⟨hr,by simp[Jq,h46]⟩;obtain⟨s,hs,n1,n2⟩:=Dd5 _ r hb;have hsn:s∈setsN (Ih m).ans:=D8.2 ⟨hs,by simp[n2,h46]⟩;have hbad:Bl9 (ckM zone keys (Ih m) now) s=true:=by
  have p1:provB zone keys now s (Ih m).ans=false:=by unfold provB;rw[List.any_eq_false];intro x hx;unfold Df3;rw[tx hx];simp
  have p2:expL (ckM zone keys (Ih m) now) s=false:=by unfold expL;rw[List.any_eq_false];intro x hx;unfold Bp2;rw[show verR (ckM zone keys (Ih m) now).zone (ckM zone keys (Ih m) now).keys (ckM zone keys (Ih m) now).now s x=false from tx (zone:=zone) (keys:=keys) (now:=now) (s:=s) (m:=m) hx];simp
  have p3:impL (ckM zone keys (Ih m) now) s=false:=by unfold impL;rw[decide_eq_false (by rw[n2];exact h5)];rfl
  have p4:under s.name zone=true:=by rw[n1];exact hu
  unfold Bl9;rw[p2,p3,show provB (ckM zone keys (Ih m) now).zone (ckM zone keys (Ih m) now).keys (ckM zone keys (Ih m) now).now s (ckM zone keys (Ih m) now).m.ans=false from p1,show under s.name (ckM zone keys (Ih m) now).zone=true from p4];rfl
 unfold ansM;rw[if_neg hk,if_pos (List.any_eq_true.2 ⟨s,hsn,hbad⟩)]
def yk (x:Ask) (m:Msg) (p2 p3:PV) (hz:x.zone.length<=9223372036854775807) (hm:MsgOk m):
  Dm1.ev S 2000 [x.pv,m.pv,p2,p3]=some (.yld 0 [B9 (m.ans.filter Jq),.b (m.ans.any (Sj x.zone))]):=by
 have hml:=hm.ans;have key:Dm1.ev S 2000 [x.pv,m.pv,p2,p3]=some (.yld 0 [B9 ([]++m.ans.filter Jq),.b (false||m.ans.any (Sj x.zone))]):=by
  refine Ht m.ans (fun i (g:List Rec×Bool)=>[B9 g.1,.b g.2,.i .i64 (i:Int)]) (fun _ g r=> .yld 0 [B9 (g.1++r.filter Jq),.b (g.2||r.any (Sj x.zone))]) (fun i g=>g.1.length<=i) ([],false) (by simp(disch:=omega)only[D9,Aw,simprocAttr];try rfl) (Df _) (by omega) (fun i g c r hd hi hc hI=> ?_) (fun g hI=> ?_)
  .left;have hil:(i:Int)<(m.ans.length:Int):=by omega
   have hcw:=hm.answ c (Cz hc);have k1:=Fx c.name x.zone hcw.name hz;obtain⟨gl,gb⟩:=g;simp only at hI ⊢;have e:Sj x.zone c=(!decide (c.typ=46) && !decide (c.typ=5) && under c.name x.zone):=rfl;generalize under c.name x.zone=u at*;by_cases h46:c.typ=46
   .have e1:Sj x.zone c=false:=by rw[e];simp[h46]
    refine⟨(gl,gb),?_,by simp only;omega,by simp[G7 (show¬Jq c=true by simp[Jq,h46]),e1]⟩;simp(disch:=omega)only[Bp0,hc,hil,h46,Bn4,Fh,EVT,EVM,D9,Aw,simprocAttr]
   .have fp:(c::r).filter Jq=c::r.filter Jq:=Dy (by simp[Jq,h46]);cases gb with
    |true=>
     refine⟨(gl++[c],true),?_,by simp;omega,by simp[fp]⟩;simp(disch:=omega)only[Bp0,hc,hil,h46,Bn4,Fh,EVT,EVM,D9,Aw,simprocAttr]
    |false=>
     by_cases h5:c.typ=5
     .have e1:Sj x.zone c=false:=by rw[e];simp[h5]
      refine⟨(gl++[c],false),?_,by simp;omega,by simp[fp,e1]⟩;simp(disch:=omega)only[Bp0,hc,hil,h46,h5,Bn4,Fh,EVT,EVM,D9,Aw,simprocAttr]
      try simp
     .have e1:Sj x.zone c=u:=by rw[e];simp[h46,h5]
      refine⟨(gl++[c],u),?_,by simp;omega,by simp[fp,e1]⟩;simp(disch:=omega)only[Bp0,hc,hil,h46,h5,k1,Bn4,Fh,EVT,EVM,D9,Aw,simprocAttr]
      try simp
  .simp(disch:=omega)only[Bp0,Eb,Bn4,Fh,EVT,EVM,D9,Aw,simprocAttr];simp[Out.goes]
 simpa using key
def law_ValidateMissing (x:Ask) (m:Msg) (hx:x.wf) (hm:m.wf):S Fc9 2 [x.pv,m.pv]=some [.b true]:=by
 have k0:=zw;have k1:=Cd8 x;obtain⟨b,k2,hb⟩:=u5 m hm;refine Gw7 (N:=2000) rfl ?_;by_cases h1:(x.keys.length:Int)<=8
 .have ha:AskOk x.zone x.keys:=⟨hx.zone,hx.keys,by omega⟩;rw[decide_eq_true h1] at k1;cases b with
  |true=>
   obtain⟨hm1,_,_⟩:=hb rfl;have hb1:=Ek9 hm1;have ha0:AskOk x.zone []:=⟨hx.zone,by simp,by simp⟩;have key:=fun p2 p3=>yk x m p2 p3 hx.zone hm1;have k3:=zh x.zone x.keys (Ih m) x.now ha hb1;have k4:=dp x.zone [] (Ih m) x.now ha0 hb1;have er:Zl x.zone [] (Ih m) x.now=([],2):=by unfold Zl;rw[if_pos rfl]
   rw[er] at k4;have em:Ih m=⟨m.id,m.op,m.code,m.resp,m.aa,m.tc,m.rd,m.ra,m.ad,m.cd,m.dok,m.size,m.q,m.ans.filter Jq,m.auth,m.ext⟩:=rfl;have h3:x.keys≠[]->m.ans.any (Sj x.zone)=true->ansM x.zone x.keys (Ih m) x.now=3:=fun a b=>Ch1 a b;have h2:x.keys≠[]->ansM x.zone x.keys (Ih m) x.now=1∨ansM x.zone x.keys (Ih m) x.now=3:=Eq1 _ _ _ _;have h0:x.keys=[]->ansM x.zone x.keys (Ih m) x.now=2:=fun h=>by unfold ansM;rw[if_pos h]
   generalize ansM x.zone x.keys (Ih m) x.now=st at*;rw[em] at k3 k4;generalize m.ans.filter Jq=bl at*;generalize m.ans.any (Sj x.zone)=an at*;by_cases hk:x.keys=[]
   .have h0':=h0 hk;have hl:(x.keys.length:Int)=0:=by rw[hk];rfl
    simp(disch:=omega)only[Bp0,k0,k1,k2,key,k3,k4,h0',hl,Bn4,EVT,EVM,D9,Aw,simprocAttr]
    try simp
   .have hl:¬(x.keys.length:Int)=0:=by have:=C1.2 hk;omega
    rcases h2 hk with h2|h2
    .have hf:an=false:=by
      cases an with
      |false=>rfl
      |true=>have:=h3 hk rfl;omega
     subst hf;simp(disch:=omega)only[Bp0,k0,k1,k2,key,k3,k4,h2,hl,Bn4,EVT,EVM,D9,Aw,simprocAttr]
     try simp
    .simp(disch:=omega)only[Bp0,k0,k1,k2,key,k3,k4,h2,hl,Bn4,EVT,EVM,D9,Aw,simprocAttr]
     try simp
  |false=>
   simp(disch:=omega)only[Bp0,k0,k1,k2,Bn4,EVT,EVM,D9,Aw,simprocAttr]
 .rw[decide_eq_false h1] at k1;simp(disch:=omega)only[Bp0,k0,k1,Bn4,EVT,EVM,D9,Aw,simprocAttr]
end Go.X.G
