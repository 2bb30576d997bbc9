/- Names: what the reference's functions give. -/
import Derived.Test.YtfhbgkahambahaaGreatDoorIterateServerG8
import Derived.Test.YtfhbgkahambahaaGreatDoorIterateServerG9
open Bool renaming eq_false_or_eq_true→Bm,and_eq_true→Br,or_eq_true→Cj,eq_iff_iff→D6,and_true→Sx
open List renaming length_append→B0,getElem?_eq_getElem→B3,mem_cons→Ck,length_cons→Cw,append_assoc→Cy,mem_of_getElem?→Cc,length_nil→Cl,length_pos_iff→Cr,take_append_drop→C9,getD_eq_getElem?_getD→Dj,getElem?_cons_zero→Dc,cons_append→Dh,nil_append→Dp,drop_eq_getElem_cons→D8,take_length→Ex,isSuffixOf_iff_suffix→Gr,flatMap_cons→Hk,mem_cons_self→H3,getLast_eq_getElem→K2,cons_prefix_cons→Ow,append_cancel_right→Sv,drop_eq_nil_of_le→c5,drop_suffix→Dm8,count_eq_zero→Hr3
open Nat renaming le_refl→B7,zero_le→Dr
open Option renaming map_eq_some_iff→Bs,map_some→Cb
open Option.some renaming injEq→Bn
set_option maxHeartbeats 1000000
set_option linter.defProp false
set_option linter.unusedVariables false
set_option linter.unusedSimpArgs false
namespace Go.X.G
open Go Go.X
def Aj:=And.intro xe<|And.intro EVP EV
def Yr (c:UInt8):Bool:=decide (97≤(c.toNat:Int)) && decide ((c.toNat:Int)≤122)||decide (48≤(c.toNat:Int)) && decide ((c.toNat:Int)≤57)||decide ((c.toNat:Int)=45)||decide ((c.toNat:Int)=95)
def Ln (s:List UInt8):Bool:=decide (s=[42])||(decide (1≤s.length) && decide (s.length≤63) && s.all Yr)
end Go.X.G
/- Names: what the reference's functions give. -/
namespace Go.X.G
open Go Go.X
def spl (first:Bool) (cur:List UInt8):List UInt8→Option (List (List UInt8))
 |[]=>some []
 |c::r=>if c=46 then(if Ln cur=true∧(cur=[42]→first=true) then(spl false [] r).map (cur::·) else none) else spl first (cur++[c]) r
def nm (n:List UInt8):Option (List (List UInt8)):=
 if n=[46] then some [] else if 2≤n.length∧n.length≤254∧n[n.length - 1]? =some 46 then spl true [] n else none
def lbl (n:List UInt8):List (List UInt8):=(nm n).getD []
def vld (n:List UInt8):Bool:=(nm n).isSome
end Go.X.G
/- Names: what the reference's functions give, ctd. -/
namespace Go.X.G
open Go Go.X
def xf:∀(r:List UInt8) (f:Bool) (cur:List UInt8) (l:List (List UInt8)),spl f cur r=some l→l.length≤r.length
 |[],f,cur,l,h=>by simp[spl] at h;simp[←h]
 |c::r,f,cur,l,h=>by
  simp only[spl] at h;split at h
  ·split at h
   ·obtain⟨m,hm,rfl⟩:=Bs.1 h;have:=xf r _ _ _ hm;simp;omega
   ·cases h
  ·have:=xf r _ _ _ h;simp;omega
def Hv4 {n:List UInt8} {l:List (List UInt8)} (h:nm n=some l):l.length≤254:=by
 unfold nm at h;split at h
 ·injection h with h;subst h;simp
 ·split at h
  ·rename_i h2;have:=xf _ _ _ _ h;omega
  ·cases h
def Kl (n:List UInt8):(lbl n).length≤254:=by
 unfold lbl;cases h:nm n with
 |none=>simp
 |some l=>exact Hv4 h
def Aj8 {α:Type} [DecidableEq α]:List α→List α→Nat
 |x::xs,y::ys=>if x=y then Aj8 xs ys+1 else 0
 |_,_=>0
def xm (a b:List (List UInt8)):Nat:=Aj8 a.reverse b.reverse
def under (n top:List UInt8):Bool:=vld n && vld top && decide (xm (lbl n) (lbl top)=(lbl top).length)
def cmpS (a b:List UInt8):Int:=if Op.bytesLess a b then -1 else if a=b then 0 else 1
def Ld (a b:List UInt8):Int:=
 if vld a && vld b then
  let k:=xm (lbl a) (lbl b)
  if k<(lbl a).length∧k<(lbl b).length then cmpS ((lbl a).getD ((lbl a).length - 1 - k) []) ((lbl b).getD ((lbl b).length - 1 - k) [])
  else if(lbl a).length<(lbl b).length then -1 else if(lbl b).length<(lbl a).length then 1 else 0
 else if vld a then -1 else if vld b then 1 else cmpS a b
end Go.X.G
/- Data of records: what the reference's functions give. -/
namespace Go.X.G
open Go Go.X
def t15 (t:Int):t=1∨t=2∨t=5∨t=6∨t=12∨t=15∨t=16∨t=28∨t=33∨t=39∨t=43∨t=46∨t=47∨t=48∨(t≠1∧t≠2∧t≠5∧t≠6∧t≠12∧t≠15∧t≠16∧t≠28∧t≠33∧t≠39∧t≠43∧t≠46∧t≠47∧t≠48):=by omega
def knw (t:Int):Bool:=decide (t=1)||decide (t=2)||decide (t=5)||decide (t=6)||decide (t=12)||decide (t=15)||decide (t=16)||decide (t=28)||decide (t=33)||decide (t=39)||decide (t=43)||decide (t=46)||decide (t=47)||decide (t=48)
def F5 (d:Dat):Bool:=d.v6||(decide (d.hi=0) && decide (d.lo<4294967296))
def inB (n most:Int):Bool:=decide (0≤n) && decide (n≤most)
def Ks (s:List UInt8):Bool:=decide (1≤s.length) && decide (s.length≤255)
def Jd (n:List UInt8):Bool:=vld n && decide (n[0]? ≠some 42)
def bit (set:Int) (t:Nat):Int:=set / 2 ^ t % 2
def Jx2 (x:Int):IntKind.u64.wrap ((BitVec.ofInt IntKind.u64.bits x &&& BitVec.ofInt IntKind.u64.bits 1).toNat:Int)=x % 2:=by
 have h2:(BitVec.ofInt 64 x &&& BitVec.ofInt 64 1).toNat=(BitVec.ofInt 64 x).toNat % 2:=by rw[BitVec.toNat_and];show (BitVec.ofInt 64 x).toNat &&& 1=_;exact Nat.and_one_is_mod _
 show IntKind.u64.wrap (((BitVec.ofInt 64 x &&& BitVec.ofInt 64 1).toNat:Nat):Int)=_;rw[h2,BitVec.toNat_ofInt];rw[Ij6]<;>omega
end Go.X.G
/- Data of records: bytes. -/
namespace Go.X.G
open Go Go.X
def Gx5 (set:Int) (i:Nat):Nat→Bool
 |0=>true
 |k+1=>(!decide (bit set i=1)||knw (i:Int)) && Gx5 set (i+1) k
def be (v:Int):Nat→List UInt8
 |0=>[]
 |n+1=>UInt8.ofNat (v / 256 ^ n % 256).toNat::be v n
def Gy (v:Int):∀n,(be v n).length=n
 |0=>rfl
 |n+1=>by simp[be,Gy v n]
def Ch8 (z:Int) (h1:0≤z) (h2:z<256):((UInt8.ofNat z.toNat).toNat:Int)=z:=by simp;omega
def Gq2 (v:Int) (j:Nat):v / 256 ^ j / 256=v / 256 ^ (j+1):=by rw[Int.pow_succ,Int.ediv_ediv_of_nonneg (Int.le_of_lt (Int.pow_pos (by decide)))]
def Hl2 (v:Int) (j:Nat) (h:0≤v):0≤v / 256 ^ j:=Int.ediv_nonneg h (Int.le_of_lt (Int.pow_pos (by decide)))
def Hl3 (v:Int) (j:Nat) (h:0≤v):v / 256 ^ j≤v:=Int.ediv_le_self _ h
end Go.X.G
/- Data of records: the wire form. -/
namespace Go.X.G
open Go Go.X
def rc {s:List UInt8} (h:Ln s=true):s.length≤63:=by
 unfold Ln at h;simp at h;rcases h with h|h
 ·simp[h]
 ·omega
def dl:∀(r:List UInt8) (f:Bool) (cur:List UInt8) (l:List (List UInt8)),spl f cur r=some l→∀x∈l,Ln x=true
 |[],f,cur,l,h=>by simp[spl] at h;subst h;simp
 |c::r,f,cur,l,h=>by
  simp only[spl] at h;split at h
  ·split at h
   ·rename_i h2;obtain⟨m,hm,rfl⟩:=Bs.1 h;intro x hx;simp at hx;rcases hx with rfl|hx
    ·exact h2.1
    ·exact dl r _ _ _ hm x hx
   ·cases h
  ·exact dl r _ _ _ h
def gv (n:List UInt8):∀x∈lbl n,Ln x=true:=by
 unfold lbl nm;split
 ·simp
 ·split
  ·cases h:spl true [] n with
   |none=>simp
   |some l=>simpa using dl _ _ _ _ h
  ·simp
def wireL (l:List (List UInt8)):List UInt8:=l.flatMap fun x=>be (x.length:Int) 1++x
def Kf (n:List UInt8):List UInt8:=wireL (lbl n)++be 0 1
def V1:∀(l:List (List UInt8)),(∀x∈l,Ln x=true)→(wireL l).length≤64*l.length
 |[],_=>by simp[wireL]
 |x::l,h=>by have h1:=rc (h x (by simp));have h2:=V1 l (fun y hy=>h y (by simp[hy]));simp only[wireL,Hk,B0,Gy,Cw] at h2 ⊢;omega
def l5 (n:List UInt8):(Kf n).length≤20000:=by have h1:=V1 (lbl n) (gv n);have h2:=Kl n;simp only[Kf,B0,Gy];omega
def bmV (set:Int) (i:Nat):Nat→Int
 |0=>0
 |j+1=>bmV set i j*2+bit set (i*8+j)
def Fb5 (set:Int) (t:Nat):0≤bit set t∧bit set t≤1:=by unfold bit;omega
def Ar7 (set:Int) (i:Nat):∀j,0≤bmV set i j∧bmV set i j<2 ^ j
 |0=>by simp[bmV]
 |j+1=>by have h1:=Ar7 set i j;have h2:=Fb5 set (i*8+j);simp only[bmV,Int.pow_succ];omega
def bmB (set:Int) (i:Nat):UInt8:=UInt8.ofNat (bmV set i 8).toNat
def bmL (set:Int):Nat→Nat
 |0=>0
 |i+1=>if bmV set i 8≠0 then i+1 else bmL set i
def Fb3 (set:Int):∀i,bmL set i≤i
 |0=>B7 _
 |i+1=>by have:=Fb3 set i;simp only[bmL];split<;>omega
def bmap (set:Int):List UInt8:=((List.range 8).map (bmB set)).take (bmL set 8)
def Ar6 (set:Int):(bmap set).length≤8:=by simp[bmap];omega
def Ub (d:Dat):List UInt8:=if d.v6 then be d.hi 8++be d.lo 8 else be d.lo 4
def usd (t:Int) (d:Dat):Dat:=
 if t=1∨t=28 then ⟨d.v6,d.hi,d.lo,[],[],[],0,0,0,0,0,0,0⟩
 else if t=2∨t=5∨t=12∨t=39 then ⟨false,0,0,d.host,[],[],0,0,0,0,0,0,0⟩
 else if t=6 then ⟨false,0,0,d.host,d.mail,[],d.a,d.b,d.c,d.d,d.e,0,0⟩
 else if t=15 then ⟨false,0,0,d.host,[],[],d.a,0,0,0,0,0,0⟩
 else if t=16 then ⟨false,0,0,[],[],d.text,0,0,0,0,0,0,0⟩
 else if t=33 then ⟨false,0,0,d.host,[],[],d.a,d.b,d.c,0,0,0,0⟩
 else if t=43∨t=48 then ⟨false,0,0,[],[],d.text,d.a,d.b,d.c,0,0,0,0⟩
 else if t=46 then ⟨false,0,0,d.host,[],d.text,d.a,d.b,d.c,d.d,d.e,d.f,0⟩
 else ⟨false,0,0,d.host,[],[],0,0,0,0,0,0,d.bits⟩
end Go.X.G
/- Data of records: which are valid. -/
namespace Go.X.G
open Go Go.X
def E7 (t:Int) (d:Dat):Bool:=
 if t=1 then F5 d && !d.v6
 else if t=28 then d.v6
 else if t=6 then Jd d.host && Jd d.mail && inB d.a 4294967295 && inB d.b 2147483647 && inB d.c 2147483647 && inB d.d 2147483647 && inB d.e 2147483647
 else if t=15 then Jd d.host && inB d.a 65535
 else if t=16 then decide (d.text.length≤255)
 else if t=33 then Jd d.host && inB d.a 65535 && inB d.b 65535 && inB d.c 65535
 else if t=43 then inB d.a 65535 && inB d.b 255 && inB d.c 255 && Ks d.text
 else if t=46 then knw d.a && decide (d.a≠46) && inB d.b 127 && inB d.c 2147483647 && inB d.d 4294967295 && inB d.e 4294967295 && inB d.f 65535 && Jd d.host && Ks d.text
 else if t=47 then vld d.host && decide (d.bits≠0) && Gx5 d.bits 0 64
 else if t=48 then(decide (d.a=256)||decide (d.a=257)) && decide (d.b=3) && inB d.c 255 && Ks d.text
 else Jd d.host
def F9 (t:Int) (d:Dat):Bool:=knw t && decide (usd t d=d) && E7 t d
def Mj (t:Int) (d:Dat):List UInt8:=
 if t=1∨t=28 then Ub d
 else if t=6 then Kf d.host++Kf d.mail++be d.a 4++be d.b 4++be d.c 4++be d.d 4++be d.e 4
 else if t=15 then be d.a 2++Kf d.host
 else if t=16 then be (d.text.length:Int) 1++d.text
 else if t=33 then be d.a 2++be d.b 2++be d.c 2++Kf d.host
 else if t=43∨t=48 then be d.a 2++be d.b 1++be d.c 1++d.text
 else if t=46 then be d.a 2++be 253 1++be d.b 1++be d.c 4++be d.d 4++be d.e 4++be d.f 2++Kf d.host++d.text
 else if t=47 then Kf d.host++be 0 1++be ((bmap d.bits).length:Int) 1++bmap d.bits
 else Kf d.host
def knw_cases {t:Int} (h:knw t=true):t=1∨t=2∨t=5∨t=6∨t=12∨t=15∨t=16∨t=28∨t=33∨t=39∨t=43∨t=46∨t=47∨t=48:=by simp[knw] at h;omega
def Er5 (t:Int) (a b:Dat):Int:=
 if F9 t a && F9 t b then cmpS (Mj t a) (Mj t b) else if F9 t a then -1 else if F9 t b then 1 else 0
end Go.X.G
/- Lists of records: what the reference's functions give. -/
namespace Go.X.G
open Go Go.X
def Sz (r:Rec):Bool:=vld r.name && knw r.typ && decide (0≤r.ttl) && decide (r.ttl≤2147483647) && F9 r.typ r.data
def Ap6 (a b:Int):Int:=if a<b then -1 else if b<a then 1 else 0
def Yv (a b:Rec):Int:=
 if Ld a.name b.name≠0 then Ld a.name b.name else if Ap6 a.typ b.typ≠0 then Ap6 a.typ b.typ else Er5 a.typ a.data b.data
def isK (n:List UInt8) (t:Int) (r:Rec):Bool:=decide (r.name=n) && decide (r.typ=t)
def findR (l:List Rec) (n:List UInt8) (t:Int):List Rec:=l.filter (isK n t)
def Lq (l:List Rec) (n:List UInt8) (t:Int) (hl:l.length≤1000000):S fp 3 [B6 l,.s n,.i .i64 t]=some [B6 (findR l n t)]:=by
 refine Iy5 (N:=l.length+1) rfl ?_;have key:Fv8.ev S (l.length+1) [B6 l,.s n,.i .i64 t]=some (.yld 0 [B6 ([]++findR l n t)]):=by
  refine Fc l (fun i (g:List Rec)=>[B6 g,.i .i64 (i:Int)]) (fun i g r=> .yld 0 [B6 (g++findR r n t)]) (fun i g=>g.length≤i) [] rfl (Dr _) (by omega) (fun i g c r hd hi hc hI=> ?_) (fun g hI=> ?_)
  ·left;by_cases h:isK n t c=true
   ·refine⟨g++[c],?_,by simp;omega,by simp[findR,h]⟩;simp[isK] at h;simp(disch:=omega)only[Bp2,hc,h.1,h.2,Aj,simprocAttr]
   ·refine⟨g,?_,by omega,by simp[findR,h]⟩;simp[isK] at h;by_cases h1:c.name=n
    ·simp(disch:=omega)only[Bp2,hc,h1,h h1,Aj,simprocAttr]
    ·by_cases h2:c.typ=t<;>simp(disch:=omega)only[Bp2,hc,h1,h2,Aj,simprocAttr]
  ·simp(disch:=omega)only[Bp2,Aj,simprocAttr];simp[findR,Out.goes]
 simp(disch:=omega)only[Bp2,key,Aj,simprocAttr]
def vg (x:Rec):List Rec→List Rec
 |[]=>[x]
 |y::r=>if Yv y x<0 then y::vg x r else if Yv y x=0 then(if x.ttl<y.ttl then x::r else y::r) else x::y::r
def sortR (l:List Rec):List Rec:=l.foldl (fun acc x=>vg x acc) []
def insR_mem (x:Rec):∀(l:List Rec) (y:Rec),y∈vg x l→y=x∨y∈l
 |[],y,h=>by simp[vg] at h;exact .inl h
 |z::r,y,h=>by
  simp only[vg] at h;split at h
  ·simp at h;rcases h with h|h
   ·exact .inr (by simp[h])
   ·rcases insR_mem x r y h with h|h
    ·exact .inl h
    ·exact .inr (by simp[h])
  ·split at h
   ·split at h
    ·simp at h;rcases h with h|h
     ·exact .inl h
     ·exact .inr (by simp[h])
    ·exact .inr h
   ·simp at h;rcases h with h|h
    ·exact .inl h
    ·exact .inr (by simpa using h)
end Go.X.G
/- The library's functions on strings. -/
namespace Go.X.G
open Go Go.X
def Gq6 (x:List UInt8) (c:UInt8):S Al2 2 [.s x,.i .u8 (c.toNat:Int)]=some [.i .i64 (x.count c:Int)]:=
 Gn9 (args:=[.s x,.i .u8 (c.toNat:Int)]) (by simp[XK.run,Bj9,Lib.countByte])
def Fr6 (x:List UInt8) (c:UInt8):S Al1 2 [.s x,.i .u8 (c.toNat:Int)]=some [.i .i64 (Lib.indexByte x c)]:=
 Gn0 (args:=[.s x,.i .u8 (c.toNat:Int)]) (by simp[XK.run,Bj9])
def Gq7 (x y:List UInt8):S Al0 2 [.s x,.s y]=some [.i .i64 (Lib.compareBytes x y)]:=
 Gm8 (args:=[.s x,.s y]) (by simp[XK.run,Eb1])
def R7 (x:List UInt8) (c:UInt8):S Z4 2 [.s x,.i .u8 (c.toNat:Int)]=some [.i .i64 (Lib.indexByte x c)]:=by refine Gp2 (N:=1) rfl ?_;simp(disch:=omega)only[Gc9,Fr6,Aj,simprocAttr]
def u9 (x:List UInt8) (c:UInt8):S qv 2 [.s x,.i .u8 (c.toNat:Int)]=some [.i .i64 (Lib.indexByte x c)]:=by refine Gs7 (N:=1) rfl ?_;simp(disch:=omega)only[Gd8,R7,Aj,simprocAttr]
def Pq (c:UInt8):∀(x:List UInt8),c∉x→Lib.indexByte x c= -1
 |[],_=>rfl
 |b::l,h=>by have h1:b≠c:=fun e=>h (by simp[e]);have h2:=Pq c l (fun e=>h (by simp[e]));simp[Lib.indexByte,h1,h2]
def Lb (c:UInt8) (post:List UInt8):∀(pre:List UInt8),c∉pre→Lib.indexByte (pre++c::post) c=(pre.length:Int)
 |[],_=>by simp[Lib.indexByte]
 |b::l,h=>by
  have h1:b≠c:=fun e=>h (by simp[e]);have h2:=Lb c post l (fun e=>h (by simp[e]));simp only[Dh,Lib.indexByte,h2];simp[h1]
  try omega
def dot_split (c:UInt8):∀(s:List UInt8),c∉s∨∃pre post,s=pre++c::post∧c∉pre
 |[]=> .inl (by simp)
 |b::l=>by
  by_cases h:b=c
  ·exact .inr ⟨[],l,by simp[h],by simp⟩
  ·rcases dot_split c l with h1|⟨pre,post,rfl,h2⟩
   ·exact .inl (by simp[h1,Ne.symm h])
   ·exact .inr ⟨b::pre,post,by simp,by simp[h2,Ne.symm h]⟩
def pcs (cur:List UInt8):List UInt8→List (List UInt8)
 |[]=>[cur]
 |c::r=>if c=46 then cur::pcs [] r else pcs (cur++[c]) r
def cut (s:List UInt8):List (List UInt8):=pcs [] s
def Ch1 (post:List UInt8):∀(pre cur:List UInt8),(46:UInt8)∉pre→pcs cur (pre++46::post)=(cur++pre)::pcs [] post
 |[],cur,_=>by simp[pcs]
 |b::l,cur,h=>by have h1:b≠46:=fun e=>h (by simp[e]);have h2:=Ch1 post l (cur++[b]) (fun e=>h (by simp[e]));simp[pcs,h1,h2]
def ep:∀(s cur:List UInt8),(46:UInt8)∉s→pcs cur s=[cur++s]
 |[],cur,_=>by simp[pcs]
 |b::l,cur,h=>by have h1:b≠46:=fun e=>h (by simp[e]);have h2:=ep l (cur++[b]) (fun e=>h (by simp[e]));simp[pcs,h1,h2]
def Dx8 (s:List UInt8):(cut s).length=s.count 46+1:=by
 have:∀(s cur:List UInt8),(pcs cur s).length=s.count 46+1:=by
  intro s
  induction s with
  |nil=>intro cur;rfl
  |cons c r ih=>
   intro cur;by_cases h:c=46<;>simp[pcs,h,ih]
 exact this s []
def Bl7 (s:List UInt8) (hs:s.length≤9223372036854775807):S o7 2 [.s s,.s [46]]=some [.i .i64 (Lib.indexByte s 46)]:=by
 refine Gn8 (N:=1) rfl ?_;have h1:=R7 s 46;have e:(((46:UInt8).toNat:Nat):Int)=46:=rfl;rw[e] at h1;by_cases h:[46]=s
 ·subst h;simp(disch:=omega)only[Fj1,Aj,simprocAttr];rfl
 ·simp(disch:=omega)only[Fj1,h,h1,e,Aj,simprocAttr]
def u7 (s:List UInt8) (hs:s.length≤9223372036854775807):S Z8 2 [.s s,.s [46]]=some [.i .i64 (Lib.indexByte s 46)]:=by refine Gp9 (N:=1) rfl ?_;simp(disch:=omega)only[Gd3,Bl7,Aj,simprocAttr]
def Dl7 (s:List UInt8):S pk 2 [.s s,.s [46]]=some [.i .i64 (s.count 46:Int)]:=by refine Gr0 (N:=1) rfl ?_;have h1:=Gq6 s 46;have e:(((46:UInt8).toNat:Nat):Int)=46:=rfl;rw[e] at h1;simp(disch:=omega)only[Gd4,h1,e,Aj,simprocAttr]
def Dq5 (done rest:List (List UInt8)):Out:=
 .yld 0 [.s ((done++rest).getLastD []),Cs ((done++rest).dropLast++[[]]),.i .i64 (((done++rest).length:Int) - 1)]
def zl (s:List UInt8) (N:Nat) (hN:s.length<N) (hs:s.length≤1000000) (p q:PV):
  zy.ev S N [.s s,.s [46],.i .i64 0,p,.i .i64 ((s.count 46:Int)+1)]=some (Dq5 [] (cut s)):=by
 have hc0:s.count 46≤s.length:=List.count_le_length;have key:=Jc (fn:=S) (N:=N) (η:=[.s s,.s [46],.i .i64 0,p,.i .i64 ((s.count 46:Int)+1)]) (id:=1) (init:=[(.v 0),(.rep 1 (.mn (.v 4) (.bin .add (.slen (.v 0)) (.c (.i .i64 (1))))) (.c (.s []))),(.c (.i .i64 (0)))]) (body:=Av6) (α:=List (List UInt8)×List UInt8)
  (fun a=>[.s a.2,Cs (a.1++List.replicate (a.2.count 46+1) []),.i .i64 (a.1.length:Int)]) (fun a=>Dq5 a.1 (cut a.2)) (fun a=>a.1.length+a.2.count 46=s.count 46∧a.2.length≤s.length) (fun a=>a.2.length) ([],s) ?_ ⟨by simp,B7 _⟩ hN ?_
 ·simpa [zy] using key
 ·have e:((s.count 46:Int)+1).toNat=s.count 46+1:=by omega
  simp(disch:=omega)only[e,Aj,simprocAttr]
 ·rintro⟨done,rest⟩ ⟨h1,h2⟩;simp only at h1 h2 ⊢;rcases dot_split 46 rest with h|⟨pre,post,rfl,h⟩
  ·right;have c0:rest.count 46=0:=Hr3.2 h;have i0:=Pq 46 rest h;have cu:cut rest=[rest]:=by simpa [cut] using ep rest [] h
   refine⟨?_,rfl⟩;rw[c0];rw[c0] at h1;simp(disch:=omega)only[Bs0,u7,i0,Aj,simprocAttr];simp[Dq5,cu,List.getLastD_eq_getLast?]
  ·left;have c0:(pre++46::post).count 46=post.count 46+1:=by rw[List.count_append,Hr3.2 h];simp
   have i0:=Lb 46 post pre h;have cu:cut (pre++46::post)=pre::cut post:=by simpa [cut] using Ch1 post pre [] h
   have hl:(pre++46::post).length=pre.length+post.length+1:=by simp;omega
   have sl1:List.drop (0:Int).toNat (List.take ((pre.length:Int)+0).toNat (pre++46::post))=pre:=by simp
   have sl2:List.drop ((pre.length:Int)+1).toNat (List.take (pre++46::post).length (pre++46::post))=post:=by
    have:((pre.length:Int)+1).toNat=pre.length+1:=by omega
    rw[this,Ex,List.drop_append];simp
   have sl3:(done++[]::[]::List.replicate (post.count 46) ([]:List UInt8)).length=done.length+post.count 46+2:=by simp;omega
   refine⟨(done++[pre],post),?_,⟨by simp;omega,by simp only;omega⟩,by simp;omega,by simp[Dq5,cu]⟩;rw[c0];rw[c0] at h1;simp(disch:=omega)only[Bs0,u7,i0,sl1,sl2,Aj,simprocAttr];simp[List.replicate_succ,List.set_append]
def zh (s:List UInt8) (hs:s.length≤1000000):S qg 4 [.s s,.s [46],.i .i64 0,.i .i64 (-1)]=some [Cs (cut s)]:=by
 refine Hj1 (N:=s.length+1) rfl ?_;have h1:=Dx8 s;have h2:s.count 46≤s.length:=List.count_le_length;obtain⟨l,x,hx⟩:∃l x,cut s=l++[x]:=⟨(cut s).dropLast,(cut s).getLast (by intro e;simp[e] at h1),(List.dropLast_concat_getLast _).symm⟩;have h3:l.length=s.count 46:=by rw[hx] at h1;simpa using h1
 have h4:((l.length:Int)+1 - 1)=(l.length:Int):=by omega
 have h5:((l++[([]:List UInt8)]).length:Int)=l.length+1:=by simp
 have h6:((l++[x]).length:Int)=l.length+1:=by simp
 have g1:(l++[([]:List UInt8)])[l.length]? =some []:=by simp
 have g2:(l++[x]).getLastD []=x:=by simp[List.getLastD_eq_getLast?]
 have g3:(l++[([]:List UInt8)]).set l.length x=l++[x]:=by simp
 have hk:=zl s (s.length+1) (by omega) hs (.i .i64 (-1)) .u;rw[hx] at hk ⊢;simp only[Dq5,Dp,List.dropLast_concat] at hk;simp(disch:=omega)only[Bs0,Dl7,hk,h4,h6,g1,g2,g3,Aj,simprocAttr];have g4:((l.length:Int)+1).toNat=(l++[x]).length:=by simp
 rw[g4,Ex];rfl
def u5 (s:List UInt8) (hs:s.length≤1000000):S Bb9 2 [.s s,.s [46]]=some [Cs (cut s)]:=by refine Iz8 (N:=1) rfl ?_;simp(disch:=omega)only[Ht1,zh,Aj,simprocAttr]
def R8 (s t:List UInt8) (hs:s.length≤9223372036854775807):S Bz1 2 [.s s,.s t]=some [.b (t.isSuffixOf s)]:=by
 refine Iv5 (N:=1) rfl ?_;by_cases h:t.length≤s.length
 ·have e:((s.length:Int) - (t.length:Int)).toNat=s.length - t.length:=by omega
  simp(disch:=omega)only[Gb4,e,Aj,simprocAttr];simp only[Ex];congr 4;rw[D6,Gr,decide_eq_true_eq];refine⟨fun h=>h▸Dm8 _ _,fun h=> ?_⟩;obtain⟨p,rfl⟩:=h;simp
 ·have h2:t.isSuffixOf s=false:=by rw[Bool.eq_false_iff,ne_eq,Gr];exact fun h'=>h h'.length_le
  simp(disch:=omega)only[Gb4,h2,Aj,simprocAttr]
def Oj (s t:List UInt8) (hs:s.length≤9223372036854775807):S Bc0 2 [.s s,.s t]=some [.b (t.isSuffixOf s)]:=by refine Iz9 (N:=1) rfl ?_;simp(disch:=omega)only[Ht2,R8,Aj,simprocAttr]
def Aw6 (x y:List UInt8):S o4 2 [.s x,.s y]=some [.i .i64 (Lib.compareBytes x y)]:=by refine Gn5 (N:=1) rfl ?_;simp(disch:=omega)only[Gc6,Gq7,Aj,simprocAttr]
def Aw3 (x y:List UInt8):S Tt 2 [.s x,.s y]=some [.i .i64 (Lib.compareBytes x y)]:=by refine Gp5 (N:=1) rfl ?_;simp(disch:=omega)only[Gd0,Aw6,Aj,simprocAttr]
end Go.X.G
/- Names and their labels. -/
namespace Go.X.G
open Go Go.X
def flat (l:List (List UInt8)):List UInt8:=l.flatMap fun x=>x++[46]
def jn (l:List (List UInt8)):List UInt8:=if l=[] then [46] else flat l
def Hz (first:Bool):List (List UInt8)→Bool
 |[]=>true
 |p::r=>Ln p && (!decide (p=[42])||first) && Hz false r
def Fr3:Yr 46=false:=by decide
def Np {p:List UInt8} (h:Ln p=true):(46:UInt8)∉p:=by
 unfold Ln at h;simp at h;rcases h with rfl|⟨_,h⟩
 ·decide
 ·intro h2;have:=h 46 h2;rw[Fr3] at this;cases this
def Am9 {p:List UInt8} (h:Ln p=true):p≠[]:=by rintro rfl;simp[Ln] at h
def I5 {p:List UInt8}:∀{f:Bool} {l:List (List UInt8)},Hz f l=true→p∈l→Ln p=true
 |f,q::r,h,hp=>by
  simp only[Hz,Br] at h;rcases Ck.1 hp with rfl|hp
  ·exact h.1.1
  ·exact I5 h.2 hp
def Bd7:∀{l:List (List UInt8)},Hz false l=true→Hz true l=true
 |[],_=>rfl
 |p::r,h=>by simp only[Hz,Br] at h ⊢;exact⟨⟨h.1.1,by simp⟩,h.2⟩
def Rk:∀{f:Bool} {a b:List (List UInt8)},Hz f (a++b)=(Hz f a && Hz (f && a.isEmpty) b)
 |f,[],b=>by simp[Hz]
 |f,p::r,b=>by simp only[Dh,Hz,Rk (a:=r)];simp[Bool.and_assoc]
def Bd8 {f:Bool} {l:List (List UInt8)} (h:Hz f l=true) (k:Nat):Hz f (l.drop k)=true:=by
 rw[←C9 k l,Rk,Br] at h;have h2:=h.2;cases f with
 |false=>simpa using h2
 |true=>
  cases he:(l.take k).isEmpty with
  |true=>rw[he] at h2;exact h2
  |false=>rw[he] at h2;exact Bd7 h2
def V8:∀(m:List UInt8) (f:Bool) (cur:List UInt8),spl f cur (m++[46])=if Hz f (pcs cur m)=true then some (pcs cur m) else none
 |[],f,cur=>by simp only[Dp,spl,if_true,pcs,Hz,Cb,Sx];by_cases h:Ln cur=true<;>by_cases h2:cur=[42]<;>cases f<;>simp[h,h2]
 |c::r,f,cur=>by
  simp only[Dh,spl,pcs];by_cases hc:c=46
  ·simp only[if_pos hc];rw[V8 r false []];simp only[Hz];by_cases h:Ln cur=true<;>by_cases h2:cur=[42]<;>cases f<;>by_cases h3:Hz false (pcs [] r)=true<;>simp[h,h2,h3]
  ·simp only[if_neg hc];exact V8 r f (cur++[c])
def Wg (b:List UInt8):∀(a cur:List UInt8),pcs cur (a++46::b)=pcs cur a++cut b
 |[],cur=>by simp[pcs,cut]
 |c::r,cur=>by
  simp only[Dh,pcs];split
  ·rw[Wg b r []];rfl
  ·exact Wg b r _
def Vz:∀(m cur:List UInt8),flat (pcs cur m)=cur++m++[46]
 |[],cur=>by simp[pcs,flat]
 |c::r,cur=>by
  simp only[pcs];split
  ·rename_i h;have:=Vz r [];simp only[flat,Hk] at this ⊢;rw[this,h];simp
  ·rw[Vz r (cur++[c])];simp
def Mm (a b:List (List UInt8)):flat (a++b)=flat a++flat b:=by simp[flat]
def Hk9 (cur m:List UInt8):pcs cur m≠[]:=by
 cases m with
 |nil=>simp[pcs]
 |cons c r=>
  simp only[pcs];split
  ·simp
  ·intro h;have:=Vz r (cur++[c]);rw[h] at this;simp[flat] at this
def Vg:∀(l:List (List UInt8)),(∀p∈l,(46:UInt8)∉p)→cut (flat l)=l++[[]]
 |[],_=>rfl
 |p::l,h=>by
  have h1:flat (p::l)=p++46::flat l:=by simp[flat]
  rw[h1];show pcs [] _=_;rw[Wg,ep p [] (h p (by simp)),Vg l (fun q hq=>h q (by simp[hq]))];simp
def Lp:∀(l:List (List UInt8)),l≠[]→∃m,flat l=m++[46]
 |[p],_=>⟨p,by simp[flat]⟩
 |p::q::r,_=>by obtain⟨m,hm⟩:=Lp (q::r) (by simp);exact⟨p++[46]++m,by simp only[flat,Hk] at hm ⊢;rw[hm];simp⟩
def Ap0 {l:List (List UInt8)} (hl:l≠[]) (h:∀p∈l,(46:UInt8)∉p) {m:List UInt8} (hm:flat l=m++[46]):cut m=l:=by
 have h1:=Vg l h;rw[hm] at h1;have h2:cut (m++[46])=cut m++[[]]:=by show pcs [] (m++46::[])=_;rw[Wg];rfl
 rw[h2] at h1;exact Sv h1
def Jg {l:List (List UInt8)} (h:Hz true l=true) (hl:l≠[]):2≤(flat l).length:=by
 cases l with
 |nil=>exact absurd rfl hl
 |cons p r=>
  have h1:=Am9 (I5 h (H3 ..));have:0<p.length:=Cr.2 h1;simp[flat];omega
def Fn3 {l:List (List UInt8)} (h:Hz true l=true) (hl:l≠[]) (hlen:(flat l).length≤254):nm (flat l)=some l:=by obtain⟨m,hm⟩:=Lp l hl;have h1:=Ap0 hl (fun p hp=>Np (I5 h hp)) hm;have h2:=Jg h hl;unfold nm;rw[if_neg (by intro e;rw[e] at h2;simp at h2),if_pos ⟨h2,hlen,by rw[hm];simp⟩,hm,V8];have:pcs [] m=l:=h1;rw[this,if_pos h]
def Fn2 {n:List UInt8} {l:List (List UInt8)} (h:nm n=some l):(n=[46]∧l=[])∨(l≠[]∧Hz true l=true∧n=flat l∧n.length≤254):=by
 unfold nm at h;split at h
 ·rename_i e;injection h with h;exact .inl ⟨e,h.symm⟩
 ·split at h
  ·rename_i h1;right;obtain⟨h2,h3,h4⟩:=h1;obtain⟨m,hm⟩:∃m,n=m++[46]:=by
    refine⟨n.dropLast,?_⟩;have:n≠[]:=by intro e;simp[e] at h2
    have h5:=List.dropLast_concat_getLast this;rw[←h5];congr 1
    ·simp
    ·have h6:n[n.length - 1]? =some (n.getLast this):=by rw[K2];exact B3 _
     rw[h6] at h4;injection h4 with h4;simp[h4]
   rw[hm,V8] at h;split at h
   ·rename_i h5;injection h with h;subst h;refine⟨Hk9 _ _,h5,?_,by omega⟩;rw[Vz,hm];simp
   ·cases h
  ·cases h
def Fd8 {n:List UInt8}:vld n=true↔nm n=some (lbl n):=by unfold vld lbl;cases nm n<;>simp
def vld_cases {n:List UInt8} (h:vld n=true):(n=[46]∧lbl n=[])∨(lbl n≠[]∧Hz true (lbl n)=true∧n=flat (lbl n)∧n.length≤254):=Fn2 (Fd8.1 h)
def Qc {n:List UInt8} (h:vld n=true):Hz true (lbl n)=true:=by
 rcases vld_cases h with⟨_,h⟩|⟨_,h,_⟩
 ·rw[h];rfl
 ·exact h
def O8 {n:List UInt8} (h:vld n=true):n=jn (lbl n):=by
 unfold jn;rcases vld_cases h with⟨h1,h2⟩|⟨h1,_,h2,_⟩
 ·rw[h2,if_pos rfl];exact h1
 ·rw[if_neg h1];exact h2
def Js {n:List UInt8} (h:vld n=true):n.length≤254:=by
 rcases vld_cases h with⟨h1,_⟩|⟨_,_,_,h⟩
 ·simp[h1]
 ·exact h
def Kj:lbl [46]=[]:=rfl
def s5 {l:List (List UInt8)} (h:Hz true l=true) (hl:l≠[]):flat l≠[46]:=by intro e;have:=Jg h hl;rw[e] at this;simp at this
def gj {n:List UInt8} (h:vld n=true):lbl n=[]↔n=[46]:=by
 rcases vld_cases h with⟨h1,h2⟩|⟨h1,h2,h3,_⟩
 ·simp[h1,Kj]
 ·constructor
  ·intro e;exact absurd e h1
  ·intro e;rw[h3] at e;exact absurd e (s5 h2 h1)
def Gg7 {l:List (List UInt8)} (h:Hz true l=true) (hlen:(flat l).length≤254):vld (jn l)=true∧lbl (jn l)=l:=by
 unfold jn;by_cases hl:l=[]
 ·subst hl;exact⟨rfl,rfl⟩
 ·rw[if_neg hl];have:=Fn3 h hl hlen;exact⟨by simp[vld,this],by simp[lbl,this]⟩
def Nm {a b:List UInt8} (ha:vld a=true) (hb:vld b=true) (h:lbl a=lbl b):a=b:=by rw[O8 ha,O8 hb,h]
def g9 (l:List (List UInt8)) (k:Nat):(flat (l.drop k)).length≤(flat l).length:=by
 have:flat l=flat (l.take k)++flat (l.drop k):=by rw[←Mm,C9]
 rw[this,B0];omega
def Jw {n:List UInt8} (h:vld n=true) (k:Nat):vld (jn ((lbl n).drop k))=true∧lbl (jn ((lbl n).drop k))=(lbl n).drop k:=by
 refine Gg7 (Bd8 (Qc h) k) ?_;rcases vld_cases h with⟨_,h1⟩|⟨_,_,h1,h2⟩
 ·rw[h1];simp[flat]
 ·have:=g9 (lbl n) k;rw[←h1] at this;omega
def Bd4 {s:List UInt8} (h:Ln s=true):s.length≤63:=by
 unfold Ln at h;simp at h;rcases h with h|h
 ·simp[h]
 ·omega
def Eh8 {n:List UInt8} (h:vld n=false):lbl n=[]:=by
 unfold lbl;unfold vld at h;cases h1:nm n with
 |none=>rfl
 |some l=>rw[h1] at h;cases h
def Cr9 (n:List UInt8):∀x∈lbl n,Ln x=true:=fun x hx=>by
 rcases Bm (vld n) with h|h
 ·exact I5 (Qc h) hx
 ·rw[Eh8 h] at hx;cases hx
def Oy {n:List UInt8} (h:vld n=true):0<n.length:=by
 rcases vld_cases h with⟨h1,_⟩|⟨h1,h2,h3,_⟩
 ·simp[h1]
 ·have:=Jg h2 h1;rw[h3];omega
end Go.X.G
/- Names: what the program's functions give. -/
namespace Go.X.G
open Go Go.X
def ord (s:List UInt8):Bool:=decide (1≤s.length) && decide (s.length≤63) && s.all Yr
def rz (s:List UInt8):Ln s=(decide (s=[42])||ord s):=rfl
def Ah4:ord [42]=false:=by decide
def yz (s:List UInt8) (N:Nat) (hN:s.length<N) (hs:s.length≤9223372036854775807):
  Fw2.ev S N [.s s]=some (if s.all Yr=true then .yld 0 [] else .ret [.b false]):=by
 refine F2 s (fun i=>[.i .i64 (i:Int)]) (fun i r=>if r.all Yr=true then .yld 0 [] else .ret [.b false]) rfl hN (fun i c r hd hi hc=> ?_) ?_
 ·have key:Dg8.ev S N ([.s s]++[.i .i64 (i:Int)])=some (if Yr c=true then .yld 1 [.i .i64 ((i:Int)+1)] else .ret [.b false]):=by
   simp(disch:=omega)only[Bp5,hc,Aj,simprocAttr];unfold Yr
   grind
  rw[key];rcases Bm (Yr c) with h|h<;>simp[h,Out.goes]
 ·simp(disch:=omega) [Bp5,xe,EVP,EV,simprocAttr,Out.goes]
def Kg (s:List UInt8) (hs:s.length≤9223372036854775807):S Bb8 1 [.s s]=some [.b (ord s)]:=by
 refine Iz7 (N:=s.length+1) rfl ?_;unfold ord;by_cases h1:s=[]
 ·subst h1;simp(disch:=omega) [Bp5,Aj,simprocAttr]
 ·have h2:1≤s.length:=Cr.2 h1;by_cases h3:s.length≤63
  ·simp(disch:=omega)only[Bp5,yz,h1,Aj,simprocAttr];cases s.all Yr<;>simp[h2,h3]
  ·simp(disch:=omega)only[Bp5,h1,Aj,simprocAttr];simp[h3]
def okP (i:Nat) (p:List UInt8):Bool:=ord p||(decide (i=0) && decide (p=[42]))
def Ef6:Nat→List (List UInt8)→Bool
 |_,[]=>true
 |i,p::r=>okP i p && Ef6 (i+1) r
def oc:∀(l:List (List UInt8)) (i:Nat),Ef6 i l=Hz (decide (i=0)) l
 |[],_=>rfl
 |p::r,i=>by
  have h1:=oc r (i+1);simp only[Ef6,Hz,h1,okP,rz];by_cases h2:p=[42]
  ·subst h2;by_cases h3:i=0<;>simp[Ah4,h3]
  ·simp[h2]
def Dh9 (p q:PV) (l:List (List UInt8)) (hl:l.length≤1000000) (hw:∀x∈l,x.length≤9223372036854775807) (N:Nat) (hN:l.length<N):
  Fx8.ev S N [p,q,Cs l]=some (if Ef6 0 l=true then .yld 0 [] else .ret [.b false]):=by
 refine F2 l (fun i=>[.i .i64 (i:Int)]) (fun i r=>if Ef6 i r=true then .yld 0 [] else .ret [.b false]) rfl hN (fun i c r hd hi hc=> ?_) ?_
 ·have hcw:=hw c (Cc hc);have key:Dh0.ev S N ([p,q,Cs l]++[.i .i64 (i:Int)])=some (if okP i c=true then .yld 1 [.i .i64 ((i:Int)+1)] else .ret [.b false]):=by
   rcases Bm (ord c) with h1|h1
   ·simp(disch:=omega)only[dz,Kg,hc,h1,Aj,simprocAttr];simp[okP,h1]
   ·by_cases h2:i=0
    ·subst h2;by_cases h3:c=[42]
     ·subst h3;simp(disch:=omega)only[dz,Kg,hc,h1,Aj,simprocAttr];simp[okP]
     ·simp(disch:=omega)only[dz,Kg,hc,h1,h3,Aj,simprocAttr];simp[okP,h1,h3]
    ·simp(disch:=omega)only[dz,Kg,hc,h1,Aj,simprocAttr];simp[okP,h1,h2]
  rw[key];rcases Bm (okP i c) with h|h<;>simp[h,Ef6,Out.goes]
 ·simp(disch:=omega)only[dz,Aj,simprocAttr];simp[Out.goes,Ef6]
def fj:∀(m cur:List UInt8) (x:List UInt8),x∈pcs cur m→x.length≤cur.length+m.length
 |[],cur,x,h=>by simp[pcs] at h;subst h;simp
 |c::r,cur,x,h=>by
  simp only[pcs] at h;split at h
  ·rcases Ck.1 h with rfl|h
   ·omega
   ·have:=fj r [] x h;simp at this ⊢;omega
  ·have:=fj r _ x h;simp at this ⊢;omega
def Er2 (m x:List UInt8) (h:x∈cut m):x.length≤m.length:=by simpa using fj m [] x h
def Hl6 (m:List UInt8):(cut m).length≤m.length+1:=by have:=Dx8 m;have:m.count 46≤m.length:=List.count_le_length;omega
def Bt5 (n:List UInt8):([46]:List UInt8).isSuffixOf n=true↔∃m,n=m++[46]:=by rw[Gr];exact⟨fun⟨m,h⟩=>⟨m,h.symm⟩,fun⟨m,h⟩=>⟨m,h.symm⟩⟩
def Dp6 (m:List UInt8) (hm:m≠[]) (hl:m.length≤253):vld (m++[46])=Ef6 0 (cut m):=by have h1:m++[46]≠[46]:=fun e=>hm (Sv (bs:=[46]) (by simpa using e));have h2:0<m.length:=Cr.2 hm;unfold vld nm;rw[if_neg h1,if_pos ⟨by simp;omega,by simp;omega,by simp⟩,V8,oc];have e:pcs [] m=cut m:=rfl;have e2:Hz (decide ((0:Nat)=0)) (cut m)=Hz true (cut m):=rfl;rw[e,e2];cases Hz true (cut m)<;>rfl
def Eh7 (m:List UInt8) (h:vld (m++[46])=true) (hm:m≠[]):lbl (m++[46])=cut m:=by
 rcases vld_cases h with⟨h1,_⟩|⟨h1,h2,h3,_⟩
 ·exact absurd (Sv (bs:=[46]) (by simpa using h1)) hm
 ·exact(Ap0 h1 (fun p hp=>Np (I5 h2 hp)) h3.symm).symm
def Dx (n:List UInt8) (hn:n.length≤9223372036854775807):S Ll 1 [.s n]=some [.b (vld n)]:=by
 refine If7 (N:=300) rfl ?_;by_cases h0:n=[46]
 ·subst h0;simp(disch:=omega)only[dz,Aj,simprocAttr];rfl
 ·by_cases h1:255≤n.length
  ·have hv:vld n=false:=by rw[Bool.eq_false_iff];intro h;have:=Js h;omega
   simp(disch:=omega)only[dz,h0,hv,Aj,simprocAttr]
  ·rcases Bm (([46]:List UInt8).isSuffixOf n) with h2|h2
   ·obtain⟨m,rfl⟩:=(Bt5 n).1 h2;have hm:m≠[]:=fun e=>h0 (by simp[e]);have hl:(m++[46]).length=m.length+1:=by simp
    have hml:m.length≤1000000:=by omega
    have e:List.drop 0 (List.take (((m++[46]).length:Int) - 1).toNat (m++[46]))=m:=by
     have:(((m++[46]).length:Int) - 1).toNat=m.length:=by omega
     rw[this];simp
    have hc:=Hl6 m;have hv:=Dp6 m hm (by omega);have hk:=Dh9 (.s (m++[46])) (.b true) (cut m) (by omega) (fun x hx=>by have:=Er2 m x hx;omega) 300 (by omega);simp(disch:=omega)only[dz,Oj,u5,e,hk,h0,h2,Aj,simprocAttr];rw[hv];cases Ef6 0 (cut m)<;>simp
   ·have hv:vld n=false:=by
     rw[Bool.eq_false_iff];intro h;rcases vld_cases h with⟨h3,_⟩|⟨h3,_,h5,_⟩
     ·exact h0 h3
     ·obtain⟨m,hm⟩:=Lp _ h3;have:=(Bt5 n).2 ⟨m,h5.trans hm⟩;rw[h2] at this;cases this
    simp(disch:=omega)only[dz,Oj,h0,h2,hv,Aj,simprocAttr]
def L3 (n:List UInt8) (hn:n.length≤9223372036854775807):S fh 1 [.s n]=some [Cs (lbl n)]:=by
 refine Iw7 (N:=1) rfl ?_;by_cases h0:n=[46]
 ·subst h0;simp(disch:=omega)only[Fc6,Kj,Aj,simprocAttr]
 ·rcases Bm (vld n) with h1|h1
  ·obtain⟨m,hm,rfl⟩:∃m,m≠[]∧n=m++[46]:=by
    rcases vld_cases h1 with⟨h3,_⟩|⟨h3,_,h5,_⟩
    ·exact absurd h3 h0
    ·obtain⟨m,hm⟩:=Lp _ h3;exact⟨m,fun e=>h0 (by rw[h5,hm,e];rfl),h5.trans hm⟩
   have hl:(m++[46]).length=m.length+1:=by simp
   have e:List.drop 0 (List.take (((m++[46]).length:Int) - 1).toNat (m++[46]))=m:=by
    have:(((m++[46]).length:Int) - 1).toNat=m.length:=by omega
    rw[this];simp
   have hl2:=Js h1;have e2:=Eh7 m h1 hm;simp(disch:=omega)only[Fc6,Dx,u5,e,e2,h0,h1,Aj,simprocAttr]
  ·have e:lbl n=[]:=by
    unfold lbl;unfold vld at h1;cases h:nm n with
    |none=>rfl
    |some l=>rw[h] at h1;cases h1
   simp(disch:=omega)only[Fc6,Dx,h0,h1,e,Aj,simprocAttr]
def Rw (p:List UInt8) (l:List (List UInt8)):flat (p::l)=p++46::flat l:=by simp[flat]
def fw (n:List UInt8):List UInt8:=if vld n=true∧n≠[46] then jn ((lbl n).drop 1) else []
def An0 (n:List UInt8):Bool:=vld n && !decide (n=[46])
def Tb (n:List UInt8) (hn:n.length≤9223372036854775807):S yh 1 [.s n]=some [.s (fw n),.b (An0 n)]:=by
 refine Iy4 (N:=1) rfl ?_;unfold fw An0;by_cases h0:n=[46]
 ·subst h0;simp(disch:=omega)only[Dp0,Aj,simprocAttr];simp
 ·rcases Bm (vld n) with h1|h1
  ·rcases vld_cases h1 with⟨h3,_⟩|⟨h3,h4,h5,h6⟩
   ·exact absurd h3 h0
   ·cases hl:lbl n with
    |nil=>exact absurd hl h3
    |cons p r=>
     rw[hl] at h4 h5;have hp:=Np (I5 h4 (H3 ..));have hi:=u9 n 46;have hc:(((46:UInt8).toNat:Nat):Int)=46:=rfl;have hx:Lib.indexByte n 46=(p.length:Int):=by rw[h5,Rw];exact Lb 46 _ p hp
     rw[hc,hx] at hi;have hlen:n.length=p.length+1+(flat r).length:=by rw[h5,Rw];simp;omega
     have e:List.drop ((p.length:Int)+1).toNat (List.take n.length n)=flat r:=by
      have:((p.length:Int)+1).toNat=p.length+1:=by omega
      rw[this,Ex,h5,Rw];simp
     by_cases h7:r=[]
     ·subst h7;have e2:flat []=[]:=rfl;simp(disch:=omega)only[Dp0,Dx,hi,e,e2,h0,h1,Aj,simprocAttr];simp[jn]
     ·have e2:¬flat r=[]:=by obtain⟨m,hm⟩:=Lp r h7;rw[hm];simp
      simp(disch:=omega)only[Dp0,Dx,hi,e,e2,h0,h1,Aj,simprocAttr];simp[jn,h7]
  ·simp(disch:=omega)only[Dp0,Dx,h0,h1,Aj,simprocAttr];simp
def Dw2 (n top:List UInt8):Bool:=(decide (top=[46])||decide (n=top))||(46::top).isSuffixOf n
def Dw1 (n top:List UInt8) (hn:n.length≤9223372036854775807) (ht:top.length≤1000000):S Bb4 2 [.s n,.s top]=some [.b (Dw2 n top)]:=by
 refine Iy9 (N:=1) rfl ?_;unfold Dw2;have h0:([46]:List UInt8).length=1:=rfl;by_cases h1:top=[46]<;>by_cases h2:n=top<;>simp(disch:=omega)only[Hs8,Oj,h1,h2,Aj,simprocAttr]
 all_goals simp
def zt {a b:List (List UInt8)} (ha:Hz true a=true) (hb:Hz true b=true) (h:(46::flat b)<:+flat a):b<:+a:=by obtain⟨p,hp⟩:=h;have h1:=Vg a (fun x hx=>Np (I5 ha hx));have h2:=Vg b (fun x hx=>Np (I5 hb hx));rw[←hp] at h1;have h3:cut (p++46::flat b)=cut p++cut (flat b):=Wg (flat b) p [];rw[h3,h2,←Cy] at h1;exact⟨cut p,Sv h1⟩
def Ep0 {n top:List UInt8} (hn:vld n=true) (ht:vld top=true):Dw2 n top=true↔lbl top<:+lbl n:=by
 unfold Dw2;simp only[Cj,decide_eq_true_eq,Gr];constructor
 ·rintro ((rfl|rfl)|h)
  ·rw[Kj];exact List.nil_suffix
  ·exact List.suffix_refl _
  ·rcases vld_cases ht with⟨h1,h2⟩|⟨h1,h2,h3,_⟩
   ·rw[h2];exact List.nil_suffix
   ·rcases vld_cases hn with⟨h5,_⟩|⟨h5,h6,h7,_⟩
    ·rw[h5] at h;have h9:=h.length_le;have h8:=Jg h2 h1;rw[←h3] at h8;simp only[Cw,Cl] at h9;omega
    ·rw[h3,h7] at h;exact zt h6 h2 h
 ·intro h;obtain⟨p,hp⟩:=h;rcases vld_cases ht with⟨h1,h2⟩|⟨h1,h2,h3,_⟩
  ·exact .inl (.inl h1)
  ·by_cases hp0:p=[]
   ·left;right;subst hp0;exact Nm hn ht hp.symm
   ·right;rcases vld_cases hn with⟨_,h5⟩|⟨h5,h6,h7,_⟩
    ·rw[h5] at hp;exact absurd (List.append_eq_nil_iff.1 hp).1 hp0
    ·obtain⟨m,hm⟩:=Lp p hp0;rw[h7,←hp,Mm,hm];exact⟨m,by rw[Cy,←h3];simp⟩
def X1 {α:Type} [DecidableEq α]:∀(a b:List α),Aj8 a b=b.length↔b<+:a
 |[],[]=>by simp[Aj8]
 |[],y::ys=>by simp[Aj8]
 |x::xs,[]=>by simp[Aj8]
 |x::xs,y::ys=>by
  have:=X1 xs ys;simp only[Aj8];split
  ·rename_i h;subst h;simp[this,Ow]
  ·rename_i h;simp[Ow,Ne.symm h]
def nk (a b:List (List UInt8)):xm a b=b.length↔b<:+a:=by unfold xm;have:=X1 a.reverse b.reverse;rw[List.length_reverse] at this;rw[this,List.reverse_prefix]
def C8 {n top:List UInt8}:under n top=true↔vld n=true∧vld top=true∧lbl top<:+lbl n:=by unfold under;simp[nk,and_assoc]
def Zc {n top:List UInt8} (hn:vld n=true) (ht:vld top=true):Dw2 n top=under n top:=by rw[D6,Ep0 hn ht,C8];simp[hn,ht]
def Ep (n top:List UInt8) (hn:n.length≤9223372036854775807) (ht:top.length≤9223372036854775807):S J7 2 [.s n,.s top]=some [.b (under n top)]:=by
 refine Id9 (N:=1) rfl ?_;rcases Bm (vld n) with h1|h1
 ·rcases Bm (vld top) with h2|h2
  ·have h3:=Js h2;simp(disch:=omega)only[Fd1,Dx,Dw1,h1,h2,Aj,simprocAttr];rw[Zc h1 h2]
  ·have h3:under n top=false:=by simp[under,h2]
   simp(disch:=omega)only[Fd1,Dx,h1,h2,h3,Aj,simprocAttr]
 ·have h3:under n top=false:=by simp[under,h1]
  simp(disch:=omega)only[Fd1,Dx,h1,h3,Aj,simprocAttr]
end Go.X.G
/- Names: order, common ancestors, wildcards. -/
namespace Go.X.G
open Go Go.X
def Uq:∀(a:List UInt8),Op.bytesLess a a=false
 |[]=>rfl
 |a::x=>by simp[Op.bytesLess,Uq x]
def N4:∀(a b:List UInt8),Lib.compareBytes a b=cmpS a b
 |[],[]=>rfl
 |[],_::_=>rfl
 |_::_,[]=>rfl
 |a::x,b::y=>by
  have ih:=N4 x y;unfold cmpS at ih ⊢;simp only[Lib.compareBytes,Op.bytesLess,ih];by_cases h1:a<b
  ·simp[h1]
  ·by_cases h2:b<a
   ·have h3:a≠b:=fun e=>by subst e;exact h1 h2
    simp[h1,h2,h3]
   ·have h3:a=b:=UInt8.le_antisymm (UInt8.not_lt.1 h2) (UInt8.not_lt.1 h1);subst h3;simp[h1]
def Kp {a b:List UInt8}:cmpS a b=0↔a=b:=by
 unfold cmpS;by_cases h:a=b
 ·subst h;simp[Uq]
 ·cases h2:Op.bytesLess a b<;>simp[h]
def Ms (x y:List UInt8):S Tt 2 [.s x,.s y]=some [.i .i64 (cmpS x y)]:=by rw[Aw3,N4]
def Yq:List (List UInt8)→List (List UInt8)→Option Int
 |x::xs,y::ys=>if x=y then Yq xs ys else some (cmpS x y)
 |_,_=>none
def Dy1:∀(a b:List (List UInt8)),Yq a b=if Aj8 a b<a.length∧Aj8 a b<b.length then some (cmpS (a.getD (Aj8 a b) []) (b.getD (Aj8 a b) [])) else none
 |[],b=>by simp[Yq,Aj8]
 |x::xs,[]=>by simp[Yq,Aj8]
 |x::xs,y::ys=>by
  have ih:=Dy1 xs ys;simp only[Yq,Aj8];by_cases h:x=y
  ·simp only[if_pos h,ih];simp
  ·simp[h]
def Bh0 (a b:List (List UInt8)):Int:=match Yq a.reverse b.reverse with
 |some c=>c
 |none=>if a.length<b.length then -1 else if b.length<a.length then 1 else 0
def An2 (a:List (List UInt8)) (k:Nat) (h:k<a.length):a.reverse.getD k []=a.getD (a.length - 1 - k) []:=by simp[Dj,List.getElem?_reverse h]
def jj {a b:List UInt8} (ha:vld a=true) (hb:vld b=true):Ld a b=Bh0 (lbl a) (lbl b):=by
 unfold Ld Bh0;rw[Dy1];have e:Aj8 (lbl a).reverse (lbl b).reverse=xm (lbl a) (lbl b):=rfl;rw[e,ha,hb];simp only[List.length_reverse,Bool.and_self,if_true];by_cases h:xm (lbl a) (lbl b)<(lbl a).length∧xm (lbl a) (lbl b)<(lbl b).length
 ·rw[if_pos h,if_pos h,An2 _ _ h.1,An2 _ _ h.2]
 ·rw[if_neg h,if_neg h]
def Aw5 (a b:List (List UInt8)) (p1 p2 p3 p4:PV) (ha:a.length≤1000) (hb:b.length≤1000) (N:Nat) (hN:1001<N):
  zx.ev S N [p1,p2,p3,p4,Cs a,Cs b]=some (match Yq a.reverse b.reverse with|some c=> .ret [.i .i64 c]|none=> .yld 0 []):=by
 have key:=Jc (fn:=S) (N:=N) (η:=[p1,p2,p3,p4,Cs a,Cs b]) (id:=1) (init:=[(.c (.i .i64 (1)))]) (body:=Av4) (α:=Nat) (fun k=>[.i .i64 ((k:Int)+1)])
  (fun k=>match Yq (a.reverse.drop k) (b.reverse.drop k) with|some c=> .ret [.i .i64 c]|none=> .yld 0 []) (fun k=>k≤a.length∧k≤b.length) (fun k=>a.length - k) 0 rfl ⟨Dr _,Dr _⟩ (by omega) ?_
 ·simpa [zx] using key
 ·rintro k ⟨h1,h2⟩;by_cases h3:k<a.length
  ·by_cases h4:k<b.length
   ·have e1:((a.length:Int) - ((k:Int)+1)).toNat=a.length - 1 - k:=by omega
    have e2:((b.length:Int) - ((k:Int)+1)).toNat=b.length - 1 - k:=by omega
    have g1:a[a.length - 1 - k]? =some (a[a.length - 1 - k]'(by omega)):=B3 (by omega);have g2:b[b.length - 1 - k]? =some (b[b.length - 1 - k]'(by omega)):=B3 (by omega);have d1:a.reverse.drop k=(a[a.length - 1 - k]'(by omega))::a.reverse.drop (k+1):=by rw[D8 (by simpa using h3)];simp
    have d2:b.reverse.drop k=(b[b.length - 1 - k]'(by omega))::b.reverse.drop (k+1):=by rw[D8 (by simpa using h4)];simp
    rw[d1,d2];generalize (a[a.length - 1 - k]'(by omega))=x at g1;generalize (b[b.length - 1 - k]'(by omega))=y at g2;simp only[Yq];by_cases h:x=y
    ·left;have h5:cmpS x y=0:=Kp.2 h;refine⟨k+1,?_,⟨by omega,by omega⟩,by omega,by rw[if_pos h]⟩;simp(disch:=omega)only[V0,Ms,e1,e2,g1,g2,h5,Aj,simprocAttr]
    ·right;have h5:¬cmpS x y=0:=fun e=>h (Kp.1 e);rw[if_neg h];simp(disch:=omega)only[V0,Ms,e1,e2,g1,g2,h5,Aj,simprocAttr];simp[Out.goes]
   ·right;have d2:b.reverse.drop k=[]:=c5 (by simp;omega);have z:Yq (a.reverse.drop k) []=none:=by cases a.reverse.drop k<;>rfl
    rw[d2,z];simp(disch:=omega) [V0,xe,EVP,EV,simprocAttr,Out.goes]
  ·right;have d1:a.reverse.drop k=[]:=c5 (by simp;omega);have z:Yq [] (b.reverse.drop k)=none:=rfl;rw[d1,z];simp(disch:=omega) [V0,xe,EVP,EV,simprocAttr,Out.goes]
def X8 (a b:List UInt8) (hn:a.length≤9223372036854775807) (ht:b.length≤9223372036854775807):S Lm 2 [.s a,.s b]=some [.i .i64 (Ld a b)]:=by
 refine Gt2 (N:=1002) rfl ?_;have h1:=Kl a;have h2:=Kl b;rcases Bm (vld a) with h3|h3<;>rcases Bm (vld b) with h4|h4
 ·rw[jj h3 h4];unfold Bh0;have hk:=Aw5 (lbl a) (lbl b) (.s a) (.s b) (.b true) (.b true) (by omega) (by omega) 1002 (by omega);cases h5:Yq (lbl a).reverse (lbl b).reverse with
  |some c=>
   rw[h5] at hk;simp(disch:=omega)only[V0,Dx,L3,hk,h3,h4,Aj,simprocAttr]
  |none=>
   rw[h5] at hk;simp(disch:=omega)only[V0,Dx,L3,hk,h3,h4,Aj,simprocAttr]
   grind
 all_goals unfold Ld
 all_goals simp(disch:=omega)only[V0,Dx,Ms,h3,h4,Aj,simprocAttr]
 all_goals simp
def Am6 {n:List UInt8} (h:vld n=true) (k:Nat):(jn ((lbl n).drop k)).length≤254:=Js (Jw h k).1
def Yy (n:List UInt8):List UInt8:=if n=[46] then [42,46] else [42,46]++n
def Qh (n:List UInt8):Bool:=vld n && !decide ((lbl n)[0]? =some [42]) && vld (Yy n)
def starN (n:List UInt8):List UInt8:=if Qh n=true then Yy n else []
def Sr {n:List UInt8} (h:vld n=true):(n[0]? =some 42↔(lbl n)[0]? =some [42]):=by
 rcases vld_cases h with⟨h1,h2⟩|⟨h1,h2,h3,_⟩
 ·subst h1;simp[Kj]
 ·cases hl:lbl n with
  |nil=>exact absurd hl h1
  |cons p r=>
   rw[hl] at h2 h3;have hp:=I5 h2 (H3 ..);have hne:=Am9 hp;cases p with
   |nil=>exact absurd rfl hne
   |cons c q=>
    rw[h3,Rw];simp only[Dh,Dc,Bn];constructor
    ·rintro rfl;unfold Ln at hp;simp at hp;rcases hp with h|h
     ·rw[h]
     ·exfalso;have:Yr 42=false:=by decide
      rw[this] at h;simp at h
    ·intro h;injection h
def Et0 (n:List UInt8) (hn:n.length≤1000000):S Cm0 1 [.s n]=some [.s (starN n),.b (Qh n)]:=by
 refine Ix7 (N:=1) rfl ?_;have h0:([42,46]:List UInt8).length=2:=rfl;have hl:(Yy n).length≤9223372036854775807:=by
  unfold Yy;split
  ·simp
  ·rw[B0,h0];omega
 unfold starN Qh;have tail:T.ev S 1 Dz2 [.s n,.s (Yy n)]=some (.ret [.s (starN n),.b (Qh n)]):=by
  unfold starN Qh;rcases Bm (vld n) with h3|h3
  ·have h4:=Sr h3;have h5:=B3 (Oy h3);have h6:=Iq0 (n[0]'(Oy h3)) 42 (by omega);by_cases h7:(lbl n)[0]? =some [42]
   ·have h8:=h4.2 h7;rw[h5] at h8;injection h8 with h8;have h9:((n[0]'(Oy h3)).toNat:Int)=42:=h6.2 h8;simp(disch:=omega)only[Dn9,Dx,h3,h5,Aj,simprocAttr];simp[h7]
   ·have h8:¬n[0]? =some 42:=fun e=>h7 (h4.1 e);rw[h5] at h8;have h9:¬((n[0]'(Oy h3)).toNat:Int)=42:=fun e=>h8 (by rw[h6.1 e];rfl);rcases Bm (vld (Yy n)) with ha|ha<;>simp(disch:=omega)only[Dn9,Dx,h3,h5,ha,Aj,simprocAttr]<;>simp[h7]
  ·simp(disch:=omega)only[Dn9,Dx,h3,Aj,simprocAttr];simp
 unfold starN Qh at tail;obtain⟨y0,y1,y2,y3,y4,y5,y6,y7,yt⟩:=Dn9;by_cases h4:n=[46]
 ·have e:Yy n=[42,46]:=by simp[Yy,h4]
  rw[e] at tail ⊢;subst h4;simp(disch:=omega)only[y0,y1,y2,yt,Aj,simprocAttr];rw[tail];simp
 ·have e:Yy n=42::46::n:=by simp[Yy,h4]
  rw[e] at tail ⊢;simp(disch:=omega)only[y0,y1,y2,yt,h4,Aj,simprocAttr];rw[tail];simp
end Go.X.G
