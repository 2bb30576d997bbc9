/- validate: states of sets; the law ValidateSets. -/
import Derived.Test.YtjjbngkgndckcaaGreatDoorValidateSetsG13
open Bool renaming eq_false_or_eq_true->B0
open Int renaming lt_irrefl->E2
open List renaming mem_of_getElem?->Cy
set_option maxHeartbeats 1000000
set_option linter.defProp false
set_option linter.unusedVariables false
set_option linter.unusedSimpArgs false
namespace Go.X.G
open Go Go.X
def Ab:=And.intro EVC<|And.intro xe<|And.intro EVP EV
def Ew0 (s:SetR) (r:Rec):Bool:=decide (r.typ=46) && decide (r.name=s.name) && decide (r.data.a=s.typ)
def Bm3 (zone:List UInt8) (keys:List Dat) (s:SetR) (g:Dat) (now:Int):Bool:=keys.any fun k=>decide (Bp2 zone k s g now=0)
def Aj3 (zone:List UInt8) (keys:List Dat) (now:Int) (s:SetR) (r:Rec):Bool:=Ew0 s r && Bm3 zone keys s r.data now
def setM (zone:List UInt8) (keys:List Dat) (s:SetR) (l:List Rec) (now:Int):Int:=if l.any (Aj3 zone keys now s)=true then 1 else 3
structure AskOk (zone:List UInt8) (keys:List Dat):Prop where
 zoneL:zone.length<=9223372036854775807
 keysW:∀d∈keys,d.wf
 few:keys.length<=1000
def fj (zone:List UInt8) (keys:List Dat) (s:SetR) (r:Rec) (now:Int) (ha:AskOk zone keys) (hs:SetW s) (hd:s.data.length<=1000000) (hr:r.wf):
  S wb 5 [.s zone,Gb keys,s.pv,r.pv,.i .i64 now]=some [.b (Aj3 zone keys now s r)]:=by
 have hf:=ha.few;have key:Ct9.ev S (keys.length+1) [.s zone,Gb keys,s.pv,r.pv,.i .i64 now]=some (if Bm3 zone keys s r.data now=true then .ret [.b true] else .yld 0 []):=by
  unfold Bm3;refine E8 keys (fun i=>[.i .i64 (i:Int)]) (fun _ l=>if(l.any fun k=>decide (Bp2 zone k s r.data now=0))=true then .ret [.b true] else .yld 0 []) rfl (by omega) (fun i c l hd2 hi hc=> ?_) ?_
  .have k:=yl zone c s r.data now ha.zoneL (ha.keysW c (Cy hc)) hs hr.data hd;have hil:(i:Int)<(keys.length:Int):=by omega
   by_cases h:Bp2 zone c s r.data now=0
   .right;simp(disch:=omega)only[eg,hc,hil,k,h,Gq,Ab,simprocAttr];simp[h,Out.goes]
   .left;refine⟨?_,by simp[h]⟩;simp(disch:=omega)only[eg,hc,hil,k,h,Gq,Ab,simprocAttr]
  .simp(disch:=omega)only[eg,E2,Gq,Ab,simprocAttr];simp[Out.goes]
 refine Gx7 (N:=keys.length+1) rfl ?_;unfold Aj3 Ew0;by_cases h1:r.typ=46
 .by_cases h2:r.name=s.name
  .by_cases h3:r.data.a=s.typ
   .rcases B0 (Bm3 zone keys s r.data now) with hv|hv<;>rw[hv] at key ⊢<;>simp(disch:=omega)only[eg,key,h1,h2,h3,Gq,Ab,simprocAttr]<;>simp
   .simp(disch:=omega)only[eg,h1,h2,h3,Gq,Ab,simprocAttr]
    try simp[h3]
  .simp(disch:=omega)only[eg,h1,h2,Gq,Ab,simprocAttr]
   try simp[h2]
 .simp(disch:=omega)only[eg,h1,Gq,Ab,simprocAttr]
  try simp[h1]
def tt (s:SetR) (r:Rec):S Cv8 2 [r.pv,s.pv]=some [.b (Ew0 s r)]:=by
 refine Gx6 (N:=1) rfl ?_;unfold Ew0;by_cases h1:r.typ=46
 .by_cases h2:r.name=s.name
  .simp(disch:=omega)only[Dq3,h1,h2,Gq,Ab,simprocAttr]
   try simp
  .simp(disch:=omega)only[Dq3,h1,h2,Gq,Ab,simprocAttr]
   try simp[h2]
 .simp(disch:=omega)only[Dq3,h1,Gq,Ab,simprocAttr]
  try simp[h1]
def Ww (zone:List UInt8) (keys:List Dat) (s:SetR) (g:Dat) (now:Int) (ha:AskOk zone keys) (hs:SetW s) (hd:s.data.length<=1000000) (hr:g.wf):
  S Cv7 5 [.s zone,Gb keys,s.pv,g.pv,.i .i64 now]=some [.b (Bm3 zone keys s g now)]:=by
 have hf:=ha.few;have key:Ct8.ev S (keys.length+1) [.s zone,Gb keys,s.pv,g.pv,.i .i64 now]=some (if Bm3 zone keys s g now=true then .ret [.b true] else .yld 0 []):=by
  unfold Bm3;refine E8 keys (fun i=>[.i .i64 (i:Int)]) (fun _ l=>if(l.any fun k=>decide (Bp2 zone k s g now=0))=true then .ret [.b true] else .yld 0 []) rfl (by omega) (fun i c l hd2 hi hc=> ?_) ?_
  .have k:=kz zone c s g now ha.zoneL (ha.keysW c (Cy hc)) hs hr hd;have hil:(i:Int)<(keys.length:Int):=by omega
   by_cases h:Bp2 zone c s g now=0
   .right;simp(disch:=omega)only[Bn7,hc,hil,k,h,Gq,Ab,simprocAttr];simp[h,Out.goes]
   .left;refine⟨?_,by simp[h]⟩;simp(disch:=omega)only[Bn7,hc,hil,k,h,Gq,Ab,simprocAttr]
  .simp(disch:=omega)only[Bn7,E2,Gq,Ab,simprocAttr];simp[Out.goes]
 refine Gx5 (N:=keys.length+1) rfl ?_;rcases B0 (Bm3 zone keys s g now) with hv|hv<;>rw[hv] at key ⊢<;>simp(disch:=omega)only[Bn7,key,Gq,Ab,simprocAttr]<;>simp
def Ev5 (zone:List UInt8) (keys:List Dat) (s:SetR) (l:List Rec) (now:Int) (ha:AskOk zone keys) (hs:SetW s) (hd:s.data.length<=1000000) (hw:∀r∈l,r.wf) (hl:l.length<=1000000):
  S wg 5 [.s zone,Gb keys,s.pv,B9 l,.i .i64 now]=some [.i .i64 (setM zone keys s l now)]:=by
 have key:Dj2.ev S (l.length+1) [.s zone,Gb keys,s.pv,B9 l,.i .i64 now]=some (if l.any (Aj3 zone keys now s)=true then .ret [.i .i64 1] else .yld 0 []):=by
  refine E8 l (fun i=>[.i .i64 (i:Int)]) (fun _ l=>if l.any (Aj3 zone keys now s)=true then .ret [.i .i64 1] else .yld 0 []) rfl (by omega) (fun i c r hd2 hi hc=> ?_) ?_
  .have k:=fj zone keys s c now ha hs hd (hw c (Cy hc));have hil:(i:Int)<(l.length:Int):=by omega
   rcases B0 (Aj3 zone keys now s c) with hv|hv
   .right;rw[hv] at k;simp(disch:=omega)only[Bn8,hc,hil,k,Gq,Ab,simprocAttr];simp[hv,Out.goes]
   .left;rw[hv] at k;refine⟨?_,by simp[hv]⟩;simp(disch:=omega)only[Bn8,hc,hil,k,Gq,Ab,simprocAttr]
  .simp(disch:=omega)only[Bn8,E2,Gq,Ab,simprocAttr];simp[Out.goes]
 refine Gy1 (N:=l.length+1) rfl ?_;unfold setM;rcases B0 (l.any (Aj3 zone keys now s)) with hv|hv<;>rw[hv] at key ⊢<;>simp(disch:=omega)only[Bn8,key,Gq,Ab,simprocAttr]<;>simp
def Cg2 (zone:List UInt8) (keys:List Dat) (s:SetR) (l:List Rec) (now:Int) (ha:AskOk zone keys) (hs:SetW s) (hd:s.data.length<=1000000) (hw:∀r∈l,r.wf) (hl:l.length<=1000000):
  S Cw0 5 [.s zone,Gb keys,s.pv,B9 l,.i .i64 now]=some [.i .i64 (setM zone keys s l now)]:=by
 have key:Dj1.ev S (l.length+1) [.s zone,Gb keys,s.pv,B9 l,.i .i64 now]=some (if l.any (Aj3 zone keys now s)=true then .ret [.i .i64 1] else .yld 0 []):=by
  refine E8 l (fun i=>[.i .i64 (i:Int)]) (fun _ l=>if l.any (Aj3 zone keys now s)=true then .ret [.i .i64 1] else .yld 0 []) rfl (by omega) (fun i c r hd2 hi hc=> ?_) ?_
  .have k1:=tt s c;have k2:=Ww zone keys s c.data now ha hs hd (hw c (Cy hc)).data;have hil:(i:Int)<(l.length:Int):=by omega
   have e:Aj3 zone keys now s c=(Ew0 s c && Bm3 zone keys s c.data now):=rfl;rcases B0 (Ew0 s c) with h1|h1
   .rw[h1] at k1 e;rcases B0 (Bm3 zone keys s c.data now) with h2|h2
    .right;rw[h2] at k2 e;simp(disch:=omega)only[z5,hc,hil,k1,k2,Gq,Ab,simprocAttr];simp[e,Out.goes]
    .left;rw[h2] at k2 e;refine⟨?_,by simp[e]⟩;simp(disch:=omega)only[z5,hc,hil,k1,k2,Gq,Ab,simprocAttr]
   .left;rw[h1] at k1 e;refine⟨?_,by simp[e]⟩;simp(disch:=omega)only[z5,hc,hil,k1,Gq,Ab,simprocAttr]
  .simp(disch:=omega)only[z5,E2,Gq,Ab,simprocAttr];simp[Out.goes]
 refine Gy0 (N:=l.length+1) rfl ?_;unfold setM;rcases B0 (l.any (Aj3 zone keys now s)) with hv|hv<;>rw[hv] at key ⊢<;>simp(disch:=omega)only[z5,key,Gq,Ab,simprocAttr]<;>simp
def Cb4 (x:Ask):S Fn0 1 [x.pv]=some [.b (decide ((x.keys.length:Int)<=8))]:=by refine Gf0 (N:=1) rfl ?_;simp(disch:=omega)only[Gd7,Fm2,Gq,Ab,simprocAttr]
def law_ValidateSets (x:Ask) (s:SetR) (l:List Rec) (hx:x.wf) (hs:SetW s) (hl:gj l):S Fn1 3 [x.pv,s.pv,B9 l]=some [.b true]:=by
 have k0:=yd;have k1:=Cb4 x;refine Gf1 (N:=1) rfl ?_;by_cases h1:(x.keys.length:Int)<=8
 .have ha:AskOk x.zone x.keys:=⟨hx.zone,hx.keys,by omega⟩;rw[decide_eq_true h1] at k1;by_cases h2:s.data.length<=70
  .have h2':¬(70:Int)<(s.data.length:Int):=by omega
   by_cases h3:l.length<=20
   .have h3':¬(20:Int)<(l.length:Int):=by omega
    have k2:=Ev5 x.zone x.keys s l x.now ha hs (by omega) hl.2 (by omega);have k3:=Cg2 x.zone x.keys s l x.now ha hs (by omega) hl.2 (by omega);generalize setM x.zone x.keys s l x.now=v at*;simp(disch:=omega)only[Fm5,k0,k1,k2,k3,h2',h3',Fm2,Gq,Ab,simprocAttr]
   .have h3':(20:Int)<(l.length:Int):=by omega
    simp(disch:=omega)only[Fm5,k0,k1,h2',h3',Fm2,Gq,Ab,simprocAttr]
  .have h2':(70:Int)<(s.data.length:Int):=by omega
   simp(disch:=omega)only[Fm5,k0,k1,h2',Fm2,Gq,Ab,simprocAttr]
 .rw[decide_eq_false h1] at k1;simp(disch:=omega)only[Fm5,k0,k1,Fm2,Gq,Ab,simprocAttr]
end Go.X.G
