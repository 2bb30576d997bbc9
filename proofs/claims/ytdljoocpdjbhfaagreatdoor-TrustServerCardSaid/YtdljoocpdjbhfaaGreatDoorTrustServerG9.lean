/- Names: what the reference's functions give. -/
import Derived.Test.YtdljoocpdjbhfaaGreatDoorTrustServerG7
import Derived.Test.YtdljoocpdjbhfaaGreatDoorTrustServerG8
open Bool renaming eq_false_or_eq_true→Aq,and_eq_true→Aw,or_eq_true→Am,eq_iff_iff→Cn,and_true→Pg
open List renaming length_append→Az,getElem?_eq_getElem→Ab,mem_cons→An,append_assoc→As,length_cons→A0,mem_of_getElem?→A6,length_pos_iff→Bw,length_nil→By,getD_eq_getElem?_getD→Bp,take_append_drop→Br,cons_append→B9,getElem?_cons_zero→Cv,nil_append→Cy,drop_eq_getElem_cons→Cp,take_length→C8,isSuffixOf_iff_suffix→E8,mem_cons_self→Gw,flatMap_cons→G2,getLast_eq_getElem→I6,cons_prefix_cons→Mj,append_cancel_right→Pd,drop_eq_nil_of_le→Xv,count_eq_zero→Jc7
open Nat renaming le_refl→Af,zero_le→Cc
open Option renaming map_eq_some_iff→Ax,map_some→A4
open Option.some renaming injEq→Ak
set_option maxHeartbeats 1000000
set_option linter.unusedVariables false
set_option linter.unusedSimpArgs false
namespace Go.X.G
open Go Go.X
def Vj (c:UInt8):Bool:=decide (97≤(c.toNat:Int)) && decide ((c.toNat:Int)≤122)||decide (48≤(c.toNat:Int)) && decide ((c.toNat:Int)≤57)||decide ((c.toNat:Int)=45)||decide ((c.toNat:Int)=95)
def M2 (s:List UInt8):Bool:=decide (s=[42])||(decide (1≤s.length) && decide (s.length≤63) && s.all Vj)
end Go.X.G
/- Names: what the reference's functions give. -/
namespace Go.X.G
open Go Go.X
def spl (first:Bool) (cur:List UInt8):List UInt8→Option (List (List UInt8))
 |[]=>some []
 |c::r=>if c=46 then (if M2 cur=true∧(cur=[42]→first=true) then (spl false [] r).map (cur::·) else none) else spl first (cur++[c]) r
def nm (n:List UInt8):Option (List (List UInt8)):=
 if n=[46] then some [] else if 2≤n.length∧n.length≤254∧n[n.length - 1]? =some 46 then spl true [] n else none
def lbl (n:List UInt8):List (List UInt8):=(nm n).getD []
def vld (n:List UInt8):Bool:=(nm n).isSome
end Go.X.G
/- Names: what the reference's functions give, ctd. -/
namespace Go.X.G
open Go Go.X
theorem mm:∀(r:List UInt8) (f:Bool) (cur:List UInt8) (l:List (List UInt8)),spl f cur r=some l→l.length≤r.length
 |[],f,cur,l,h=>by simp [spl] at h;simp [←h]
 |c::r,f,cur,l,h=>by
  simp only [spl] at h;split at h
  ·split at h
   ·obtain ⟨m,hm,rfl⟩:=Ax.1 h;have:=mm r _ _ _ hm;simp;omega
   ·cases h
  ·have:=mm r _ _ _ h;simp;omega
theorem Im6 {n:List UInt8} {l:List (List UInt8)} (h:nm n=some l):l.length≤254:=by
 unfold nm at h;split at h
 ·injection h with h;subst h;simp
 ·split at h
  ·rename_i h2;have:=mm _ _ _ _ h;omega
  ·cases h
theorem Ll (n:List UInt8):(lbl n).length≤254:=by
 unfold lbl;cases h:nm n with
 |none=>simp
 |some l=>exact Im6 h
def pg {α:Type} [DecidableEq α]:List α→List α→Nat
 |x::xs,y::ys=>if x=y then pg xs ys+1 else 0
 |_,_=>0
def ms (a b:List (List UInt8)):Nat:=pg a.reverse b.reverse
def under (n top:List UInt8):Bool:=vld n && vld top && decide (ms (lbl n) (lbl top)=(lbl top).length)
def cmpS (a b:List UInt8):Int:=if Op.bytesLess a b then -1 else if a=b then 0 else 1
def Jm (a b:List UInt8):Int:=
 if vld a && vld b then
  let k:=ms (lbl a) (lbl b)
  if k<(lbl a).length∧k<(lbl b).length then cmpS ((lbl a).getD ((lbl a).length - 1 - k) []) ((lbl b).getD ((lbl b).length - 1 - k) [])
  else if (lbl a).length<(lbl b).length then -1 else if (lbl b).length<(lbl a).length then 1 else 0
 else if vld a then -1 else if vld b then 1 else cmpS a b
end Go.X.G
/- Data of records: what the reference's functions give. -/
namespace Go.X.G
open Go Go.X
theorem t15 (t:Int):t=1∨t=2∨t=5∨t=6∨t=12∨t=15∨t=16∨t=28∨t=33∨t=39∨t=43∨t=46∨t=47∨t=48∨(t≠1∧t≠2∧t≠5∧t≠6∧t≠12∧t≠15∧t≠16∧t≠28∧t≠33∧t≠39∧t≠43∧t≠46∧t≠47∧t≠48):=by omega
def knw (t:Int):Bool:=decide (t=1)||decide (t=2)||decide (t=5)||decide (t=6)||decide (t=12)||decide (t=15)||decide (t=16)||decide (t=28)||decide (t=33)||decide (t=39)||decide (t=43)||decide (t=46)||decide (t=47)||decide (t=48)
def Ek (d:Dat):Bool:=d.v6||(decide (d.hi=0) && decide (d.lo<4294967296))
def inB (n most:Int):Bool:=decide (0≤n) && decide (n≤most)
def I3 (s:List UInt8):Bool:=decide (1≤s.length) && decide (s.length≤255)
def Hl (n:List UInt8):Bool:=vld n && decide (n[0]? ≠some 42)
def bit (set:Int) (t:Nat):Int:=set / 2 ^ t % 2
theorem Kg1 (x:Int):IntKind.u64.wrap ((BitVec.ofInt IntKind.u64.bits x &&& BitVec.ofInt IntKind.u64.bits 1).toNat:Int)=x % 2:=by
 have h2:(BitVec.ofInt 64 x &&& BitVec.ofInt 64 1).toNat=(BitVec.ofInt 64 x).toNat % 2:=by rw [BitVec.toNat_and];show (BitVec.ofInt 64 x).toNat &&& 1=_;exact Nat.and_one_is_mod _
 show IntKind.u64.wrap (((BitVec.ofInt 64 x &&& BitVec.ofInt 64 1).toNat:Nat):Int)=_;rw [h2,BitVec.toNat_ofInt];rw [Jf8]<;>omega
end Go.X.G
/- Data of records: bytes. -/
namespace Go.X.G
open Go Go.X
def Hs2 (set:Int) (i:Nat):Nat→Bool
 |0=>true
 |k+1=>(!decide (bit set i=1)||knw (i:Int)) && Hs2 set (i+1) k
def be (v:Int):Nat→List UInt8
 |0=>[]
 |n+1=>UInt8.ofNat (v / 256 ^ n % 256).toNat::be v n
theorem En (v:Int):∀n,(be v n).length=n
 |0=>rfl
 |n+1=>by simp [be,En v n]
theorem Br6 (z:Int) (h1:0≤z) (h2:z<256):((UInt8.ofNat z.toNat).toNat:Int)=z:=by simp;omega
theorem Hf6 (v:Int) (j:Nat):v / 256 ^ j / 256=v / 256 ^ (j+1):=by rw [Int.pow_succ,Int.ediv_ediv_of_nonneg (Int.le_of_lt (Int.pow_pos (by decide)))]
theorem Jx4 (v:Int) (j:Nat) (h:0≤v):0≤v / 256 ^ j:=Int.ediv_nonneg h (Int.le_of_lt (Int.pow_pos (by decide)))
theorem Jx5 (v:Int) (j:Nat) (h:0≤v):v / 256 ^ j≤v:=Int.ediv_le_self _ h
end Go.X.G
/- Data of records: the wire form. -/
namespace Go.X.G
open Go Go.X
theorem im {s:List UInt8} (h:M2 s=true):s.length≤63:=by
 unfold M2 at h;simp at h;rcases h with h|h
 ·simp [h]
 ·omega
theorem X0:∀(r:List UInt8) (f:Bool) (cur:List UInt8) (l:List (List UInt8)),spl f cur r=some l→∀x∈l,M2 x=true
 |[],f,cur,l,h=>by simp [spl] at h;subst h;simp
 |c::r,f,cur,l,h=>by
  simp only [spl] at h;split at h
  ·split at h
   ·rename_i h2;obtain ⟨m,hm,rfl⟩:=Ax.1 h;intro x hx;simp at hx;rcases hx with rfl|hx
    ·exact h2.1
    ·exact X0 r _ _ _ hm x hx
   ·cases h
  ·exact X0 r _ _ _ h
theorem Yp (n:List UInt8):∀x∈lbl n,M2 x=true:=by
 unfold lbl nm;split
 ·simp
 ·split
  ·cases h:spl true [] n with
   |none=>simp
   |some l=>simpa using X0 _ _ _ _ h
  ·simp
def wireL (l:List (List UInt8)):List UInt8:=l.flatMap fun x=>be (x.length:Int) 1++x
def Im (n:List UInt8):List UInt8:=wireL (lbl n)++be 0 1
theorem Sg:∀(l:List (List UInt8)),(∀x∈l,M2 x=true)→(wireL l).length≤64*l.length
 |[],_=>by simp [wireL]
 |x::l,h=>by have h1:=im (h x (by simp));have h2:=Sg l (fun y hy=>h y (by simp [hy]));simp only [wireL,G2,Az,En,A0] at h2 ⊢;omega
theorem bl (n:List UInt8):(Im n).length≤20000:=by have h1:=Sg (lbl n) (Yp n);have h2:=Ll n;simp only [Im,Az,En];omega
def bmV (set:Int) (i:Nat):Nat→Int
 |0=>0
 |j+1=>bmV set i j*2+bit set (i*8+j)
theorem Gp4 (set:Int) (t:Nat):0≤bit set t∧bit set t≤1:=by unfold bit;omega
theorem Az8 (set:Int) (i:Nat):∀j,0≤bmV set i j∧bmV set i j<2 ^ j
 |0=>by simp [bmV]
 |j+1=>by have h1:=Az8 set i j;have h2:=Gp4 set (i*8+j);simp only [bmV,Int.pow_succ];omega
def bmB (set:Int) (i:Nat):UInt8:=UInt8.ofNat (bmV set i 8).toNat
def bmL (set:Int):Nat→Nat
 |0=>0
 |i+1=>if bmV set i 8≠0 then i+1 else bmL set i
theorem Gp2 (set:Int):∀i,bmL set i≤i
 |0=>Af _
 |i+1=>by have:=Gp2 set i;simp only [bmL];split<;>omega
def bmap (set:Int):List UInt8:=((List.range 8).map (bmB set)).take (bmL set 8)
theorem Az7 (set:Int):(bmap set).length≤8:=by simp [bmap];omega
def Rj (d:Dat):List UInt8:=if d.v6 then be d.hi 8++be d.lo 8 else be d.lo 4
def usd (t:Int) (d:Dat):Dat:=
 if t=1∨t=28 then ⟨d.v6,d.hi,d.lo,[],[],[],0,0,0,0,0,0,0⟩
 else if t=2∨t=5∨t=12∨t=39 then ⟨false,0,0,d.host,[],[],0,0,0,0,0,0,0⟩
 else if t=6 then ⟨false,0,0,d.host,d.mail,[],d.a,d.b,d.c,d.d,d.e,0,0⟩
 else if t=15 then ⟨false,0,0,d.host,[],[],d.a,0,0,0,0,0,0⟩
 else if t=16 then ⟨false,0,0,[],[],d.text,0,0,0,0,0,0,0⟩
 else if t=33 then ⟨false,0,0,d.host,[],[],d.a,d.b,d.c,0,0,0,0⟩
 else if t=43∨t=48 then ⟨false,0,0,[],[],d.text,d.a,d.b,d.c,0,0,0,0⟩
 else if t=46 then ⟨false,0,0,d.host,[],d.text,d.a,d.b,d.c,d.d,d.e,d.f,0⟩
 else ⟨false,0,0,d.host,[],[],0,0,0,0,0,0,d.bits⟩
end Go.X.G
/- Data of records: which are valid. -/
namespace Go.X.G
open Go Go.X
def Dz (t:Int) (d:Dat):Bool:=
 if t=1 then Ek d && !d.v6
 else if t=28 then d.v6
 else if t=6 then Hl d.host && Hl d.mail && inB d.a 4294967295 && inB d.b 2147483647 && inB d.c 2147483647 && inB d.d 2147483647 && inB d.e 2147483647
 else if t=15 then Hl d.host && inB d.a 65535
 else if t=16 then decide (d.text.length≤255)
 else if t=33 then Hl d.host && inB d.a 65535 && inB d.b 65535 && inB d.c 65535
 else if t=43 then inB d.a 65535 && inB d.b 255 && inB d.c 255 && I3 d.text
 else if t=46 then knw d.a && decide (d.a≠46) && inB d.b 127 && inB d.c 2147483647 && inB d.d 4294967295 && inB d.e 4294967295 && inB d.f 65535 && Hl d.host && I3 d.text
 else if t=47 then vld d.host && decide (d.bits≠0) && Hs2 d.bits 0 64
 else if t=48 then (decide (d.a=256)||decide (d.a=257)) && decide (d.b=3) && inB d.c 255 && I3 d.text
 else Hl d.host
def Ey (t:Int) (d:Dat):Bool:=knw t && decide (usd t d=d) && Dz t d
def Kq (t:Int) (d:Dat):List UInt8:=
 if t=1∨t=28 then Rj d
 else if t=6 then Im d.host++Im d.mail++be d.a 4++be d.b 4++be d.c 4++be d.d 4++be d.e 4
 else if t=15 then be d.a 2++Im d.host
 else if t=16 then be (d.text.length:Int) 1++d.text
 else if t=33 then be d.a 2++be d.b 2++be d.c 2++Im d.host
 else if t=43∨t=48 then be d.a 2++be d.b 1++be d.c 1++d.text
 else if t=46 then be d.a 2++be 253 1++be d.b 1++be d.c 4++be d.d 4++be d.e 4++be d.f 2++Im d.host++d.text
 else if t=47 then Im d.host++be 0 1++be ((bmap d.bits).length:Int) 1++bmap d.bits
 else Im d.host
theorem knw_cases {t:Int} (h:knw t=true):t=1∨t=2∨t=5∨t=6∨t=12∨t=15∨t=16∨t=28∨t=33∨t=39∨t=43∨t=46∨t=47∨t=48:=by simp [knw] at h;omega
def Fq6 (t:Int) (a b:Dat):Int:=
 if Ey t a && Ey t b then cmpS (Kq t a) (Kq t b) else if Ey t a then -1 else if Ey t b then 1 else 0
end Go.X.G
/- Lists of records: what the reference's functions give. -/
namespace Go.X.G
open Go Go.X
def Pl (r:Rec):Bool:=vld r.name && knw r.typ && decide (0≤r.ttl) && decide (r.ttl≤2147483647) && Ey r.typ r.data
def Aq3 (a b:Int):Int:=if a<b then -1 else if b<a then 1 else 0
def Ut (a b:Rec):Int:=
 if Jm a.name b.name≠0 then Jm a.name b.name else if Aq3 a.typ b.typ≠0 then Aq3 a.typ b.typ else Fq6 a.typ a.data b.data
def isK (n:List UInt8) (t:Int) (r:Rec):Bool:=decide (r.name=n) && decide (r.typ=t)
def findR (l:List Rec) (n:List UInt8) (t:Int):List Rec:=l.filter (isK n t)
theorem M1 (l:List Rec) (n:List UInt8) (t:Int) (hl:l.length≤1000000):S n0 3 [Ag l, .s n, .i .i64 t]=some [Ag (findR l n t)]:=by
 refine Js7 (N:=l.length+1) rfl ?_;have key:Fd7.ev S (l.length+1) [Ag l, .s n, .i .i64 t]=some (.yld 0 [Ag ([]++findR l n t)]):=by
  refine Ex l (fun i (g:List Rec)=>[Ag g, .i .i64 (i:Int)]) (fun i g r=> .yld 0 [Ag (g++findR r n t)]) (fun i g=>g.length≤i) [] rfl (Cc _) (by omega) (fun i g c r hd hi hc hI=> ?_) (fun g hI=> ?_)
  ·left;by_cases h:isK n t c=true
   ·refine ⟨g++[c],?_,by simp;omega,by simp [findR,h]⟩;simp [isK] at h;simp (disch:=omega) only [Bv8,hc,h.1,h.2,xe,EVP,EV,simprocAttr]
   ·refine ⟨g,?_,by omega,by simp [findR,h]⟩;simp [isK] at h;by_cases h1:c.name=n
    ·simp (disch:=omega) only [Bv8,hc,h1,h h1,xe,EVP,EV,simprocAttr]
    ·by_cases h2:c.typ=t<;>simp (disch:=omega) only [Bv8,hc,h1,h2,xe,EVP,EV,simprocAttr]
  ·simp (disch:=omega) only [Bv8,xe,EVP,EV,simprocAttr];simp [findR,Out.goes]
 simp (disch:=omega) only [Bv8,key,xe,EVP,EV,simprocAttr]
def lv (x:Rec):List Rec→List Rec
 |[]=>[x]
 |y::r=>if Ut y x<0 then y::lv x r else if Ut y x=0 then (if x.ttl<y.ttl then x::r else y::r) else x::y::r
def sortR (l:List Rec):List Rec:=l.foldl (fun acc x=>lv x acc) []
theorem insR_mem (x:Rec):∀(l:List Rec) (y:Rec),y∈lv x l→y=x∨y∈l
 |[],y,h=>by simp [lv] at h;exact .inl h
 |z::r,y,h=>by
  simp only [lv] at h;split at h
  ·simp at h;rcases h with h|h
   ·exact .inr (by simp [h])
   ·rcases insR_mem x r y h with h|h
    ·exact .inl h
    ·exact .inr (by simp [h])
  ·split at h
   ·split at h
    ·simp at h;rcases h with h|h
     ·exact .inl h
     ·exact .inr (by simp [h])
    ·exact .inr h
   ·simp at h;rcases h with h|h
    ·exact .inl h
    ·exact .inr (by simpa using h)
end Go.X.G
/- The library's functions on strings. -/
namespace Go.X.G
open Go Go.X
theorem Hg0 (x:List UInt8) (c:UInt8):S zc 2 [.s x, .i .u8 (c.toNat:Int)]=some [.i .i64 (x.count c:Int)]:=
 Ib3 (args:=[.s x, .i .u8 (c.toNat:Int)]) (by simp [XK.run,Ad4,Lib.countByte])
theorem Hb1 (x:List UInt8) (c:UInt8):S zb 2 [.s x, .i .u8 (c.toNat:Int)]=some [.i .i64 (Lib.indexByte x c)]:=
 Iz4 (args:=[.s x, .i .u8 (c.toNat:Int)]) (by simp [XK.run,Ad4])
theorem Hg1 (x y:List UInt8):S zz 2 [.s x, .s y]=some [.i .i64 (Lib.compareBytes x y)]:=
 Iz2 (args:=[.s x, .s y]) (by simp [XK.run,Eh7])
theorem Pw (x:List UInt8) (c:UInt8):S V9 2 [.s x, .i .u8 (c.toNat:Int)]=some [.i .i64 (Lib.indexByte x c)]:=by refine Ib6 (N:=1) rfl ?_;simp (disch:=omega) only [Ik3,Hb1,xe,EVP,EV,simprocAttr]
theorem ky (x:List UInt8) (c:UInt8):S gx 2 [.s x, .i .u8 (c.toNat:Int)]=some [.i .i64 (Lib.indexByte x c)]:=by refine Id5 (N:=1) rfl ?_;simp (disch:=omega) only [Iq2,Pw,xe,EVP,EV,simprocAttr]
theorem M7 (c:UInt8):∀(x:List UInt8),c∉x→Lib.indexByte x c= -1
 |[],_=>rfl
 |b::l,h=>by have h1:b≠c:=fun e=>h (by simp [e]);have h2:=M7 c l (fun e=>h (by simp [e]));simp [Lib.indexByte,h1,h2]
theorem Jg (c:UInt8) (post:List UInt8):∀(pre:List UInt8),c∉pre→Lib.indexByte (pre++c::post) c=(pre.length:Int)
 |[],_=>by simp [Lib.indexByte]
 |b::l,h=>by
  have h1:b≠c:=fun e=>h (by simp [e]);have h2:=Jg c post l (fun e=>h (by simp [e]));simp only [B9,Lib.indexByte,h2];simp [h1]
  try omega
theorem dot_split (c:UInt8):∀(s:List UInt8),c∉s∨∃pre post,s=pre++c::post∧c∉pre
 |[]=> .inl (by simp)
 |b::l=>by
  by_cases h:b=c
  ·exact .inr ⟨[],l,by simp [h],by simp⟩
  ·rcases dot_split c l with h1|⟨pre,post,rfl,h2⟩
   ·exact .inl (by simp [h1,Ne.symm h])
   ·exact .inr ⟨b::pre,post,by simp,by simp [h2,Ne.symm h]⟩
def pcs (cur:List UInt8):List UInt8→List (List UInt8)
 |[]=>[cur]
 |c::r=>if c=46 then cur::pcs [] r else pcs (cur++[c]) r
def cut (s:List UInt8):List (List UInt8):=pcs [] s
theorem Bp9 (post:List UInt8):∀(pre cur:List UInt8),(46:UInt8)∉pre→pcs cur (pre++46::post)=(cur++pre)::pcs [] post
 |[],cur,_=>by simp [pcs]
 |b::l,cur,h=>by have h1:b≠46:=fun e=>h (by simp [e]);have h2:=Bp9 post l (cur++[b]) (fun e=>h (by simp [e]));simp [pcs,h1,h2]
theorem Yv:∀(s cur:List UInt8),(46:UInt8)∉s→pcs cur s=[cur++s]
 |[],cur,_=>by simp [pcs]
 |b::l,cur,h=>by have h1:b≠46:=fun e=>h (by simp [e]);have h2:=Yv l (cur++[b]) (fun e=>h (by simp [e]));simp [pcs,h1,h2]
theorem Cc2 (s:List UInt8):(cut s).length=s.count 46+1:=by
 have:∀(s cur:List UInt8),(pcs cur s).length=s.count 46+1:=by
  intro s
  induction s with
  |nil=>intro cur;rfl
  |cons c r ih=>
   intro cur;by_cases h:c=46<;>simp [pcs,h,ih]
 exact this s []
theorem Bj8 (s:List UInt8) (hs:s.length≤9223372036854775807):S fg 2 [.s s, .s [46]]=some [.i .i64 (Lib.indexByte s 46)]:=by
 refine Ib2 (N:=1) rfl ?_;have h1:=Pw s 46;have e:(((46:UInt8).toNat:Nat):Int)=46:=rfl;rw [e] at h1;by_cases h:[46]=s
 ·subst h;simp (disch:=omega) only [Fx2,xe,EVP,EV,simprocAttr];rfl
 ·simp (disch:=omega) only [Fx2,h,h1,e,xe,EVP,EV,simprocAttr]
theorem kx (s:List UInt8) (hs:s.length≤9223372036854775807):S Ww 2 [.s s, .s [46]]=some [.i .i64 (Lib.indexByte s 46)]:=by refine Ic5 (N:=1) rfl ?_;simp (disch:=omega) only [Ik7,Bj8,xe,EVP,EV,simprocAttr]
theorem Eq1 (s:List UInt8):S f8 2 [.s s, .s [46]]=some [.i .i64 (s.count 46:Int)]:=by refine Ic6 (N:=1) rfl ?_;have h1:=Hg0 s 46;have e:(((46:UInt8).toNat:Nat):Int)=46:=rfl;rw [e] at h1;simp (disch:=omega) only [Ik8,h1,e,xe,EVP,EV,simprocAttr]
def Cy6 (done rest:List (List UInt8)):Out:=
 .yld 0 [.s ((done++rest).getLastD []),Bh ((done++rest).dropLast++[[]]), .i .i64 (((done++rest).length:Int) - 1)]
theorem o2 (s:List UInt8) (N:Nat) (hN:s.length<N) (hs:s.length≤1000000) (p q:PV):
  ob.ev S N [.s s, .s [46], .i .i64 0,p, .i .i64 ((s.count 46:Int)+1)]=some (Cy6 [] (cut s)):=by
 have hc0:s.count 46≤s.length:=List.count_le_length;have key:=Ir (fn:=S) (N:=N) (η:=[.s s, .s [46], .i .i64 0,p, .i .i64 ((s.count 46:Int)+1)]) (id:=1) (init:=[(.v 0),(.rep 1 (.mn (.v 4) (.bin .add (.slen (.v 0)) (.c (.i .i64 (1))))) (.c (.s []))),(.c (.i .i64 (0)))]) (body:=tj) (α:=List (List UInt8)×List UInt8)
  (fun a=>[.s a.2,Bh (a.1++List.replicate (a.2.count 46+1) []), .i .i64 (a.1.length:Int)]) (fun a=>Cy6 a.1 (cut a.2)) (fun a=>a.1.length+a.2.count 46=s.count 46∧a.2.length≤s.length) (fun a=>a.2.length) ([],s) ?_ ⟨by simp,Af _⟩ hN ?_
 ·simpa [ob] using key
 ·have e:((s.count 46:Int)+1).toNat=s.count 46+1:=by omega
  simp (disch:=omega) only [e,xe,EVP,EV,simprocAttr]
 ·rintro ⟨done,rest⟩ ⟨h1,h2⟩;simp only at h1 h2 ⊢;rcases dot_split 46 rest with h|⟨pre,post,rfl,h⟩
  ·right;have c0:rest.count 46=0:=Jc7.2 h;have i0:=M7 46 rest h;have cu:cut rest=[rest]:=by simpa [cut] using Yv rest [] h
   refine ⟨?_,rfl⟩;rw [c0];rw [c0] at h1;simp (disch:=omega) only [Bx1,kx,i0,xe,EVP,EV,simprocAttr];simp [Cy6,cu,List.getLastD_eq_getLast?]
  ·left;have c0:(pre++46::post).count 46=post.count 46+1:=by rw [List.count_append,Jc7.2 h];simp
   have i0:=Jg 46 post pre h;have cu:cut (pre++46::post)=pre::cut post:=by simpa [cut] using Bp9 post pre [] h
   have hl:(pre++46::post).length=pre.length+post.length+1:=by simp;omega
   have sl1:List.drop (0:Int).toNat (List.take ((pre.length:Int)+0).toNat (pre++46::post))=pre:=by simp
   have sl2:List.drop ((pre.length:Int)+1).toNat (List.take (pre++46::post).length (pre++46::post))=post:=by
    have:((pre.length:Int)+1).toNat=pre.length+1:=by omega
    rw [this,C8,List.drop_append];simp
   have sl3:(done++[]::[]::List.replicate (post.count 46) ([]:List UInt8)).length=done.length+post.count 46+2:=by simp;omega
   refine ⟨(done++[pre],post),?_,⟨by simp;omega,by simp only;omega⟩,by simp;omega,by simp [Cy6,cu]⟩;rw [c0];rw [c0] at h1;simp (disch:=omega) only [Bx1,kx,i0,sl1,sl2,xe,EVP,EV,simprocAttr];simp [List.replicate_succ,List.set_append]
theorem o0 (s:List UInt8) (hs:s.length≤1000000):S gt 4 [.s s, .s [46], .i .i64 0, .i .i64 (-1)]=some [Bh (cut s)]:=by
 refine Ig0 (N:=s.length+1) rfl ?_;have h1:=Cc2 s;have h2:s.count 46≤s.length:=List.count_le_length;obtain ⟨l,x,hx⟩:∃l x,cut s=l++[x]:=⟨(cut s).dropLast,(cut s).getLast (by intro e;simp [e] at h1),(List.dropLast_concat_getLast _).symm⟩;have h3:l.length=s.count 46:=by rw [hx] at h1;simpa using h1
 have h4:((l.length:Int)+1 - 1)=(l.length:Int):=by omega
 have h5:((l++[([]:List UInt8)]).length:Int)=l.length+1:=by simp
 have h6:((l++[x]).length:Int)=l.length+1:=by simp
 have g1:(l++[([]:List UInt8)])[l.length]? =some []:=by simp
 have g2:(l++[x]).getLastD []=x:=by simp [List.getLastD_eq_getLast?]
 have g3:(l++[([]:List UInt8)]).set l.length x=l++[x]:=by simp
 have hk:=o2 s (s.length+1) (by omega) hs (.i .i64 (-1)) .u;rw [hx] at hk ⊢;simp only [Cy6,Cy,List.dropLast_concat] at hk;simp (disch:=omega) only [Bx1,Eq1,hk,h4,h6,g1,g2,g3,xe,EVP,EV,simprocAttr];have g4:((l.length:Int)+1).toNat=(l++[x]).length:=by simp
 rw [g4,C8];rfl
theorem kj (s:List UInt8) (hs:s.length≤1000000):S An0 2 [.s s, .s [46]]=some [Bh (cut s)]:=by refine Jn5 (N:=1) rfl ?_;simp (disch:=omega) only [Jd3,o0,xe,EVP,EV,simprocAttr]
theorem Px (s t:List UInt8) (hs:s.length≤9223372036854775807):S Wg 2 [.s s, .s t]=some [.b (t.isSuffixOf s)]:=by
 refine Ig1 (N:=1) rfl ?_;by_cases h:t.length≤s.length
 ·have e:((s.length:Int) - (t.length:Int)).toNat=s.length - t.length:=by omega
  simp (disch:=omega) only [Fx8,e,xe,EVP,EV,simprocAttr];simp only [C8];congr 4;rw [Cn,E8,decide_eq_true_eq];refine ⟨fun h=>h▸List.drop_suffix _ _,fun h=> ?_⟩;obtain ⟨p,rfl⟩:=h;simp
 ·have h2:t.isSuffixOf s=false:=by rw [Bool.eq_false_iff,ne_eq,E8];exact fun h'=>h h'.length_le
  simp (disch:=omega) only [Fx8,h2,xe,EVP,EV,simprocAttr]
theorem L8 (s t:List UInt8) (hs:s.length≤9223372036854775807):S An1 2 [.s s, .s t]=some [.b (t.isSuffixOf s)]:=by refine Jn6 (N:=1) rfl ?_;simp (disch:=omega) only [Jd4,Px,xe,EVP,EV,simprocAttr]
theorem tp (x y:List UInt8):S fb 2 [.s x, .s y]=some [.i .i64 (Lib.compareBytes x y)]:=by refine Iz9 (N:=1) rfl ?_;simp (disch:=omega) only [Ik1,Hg1,xe,EVP,EV,simprocAttr]
theorem td (x y:List UInt8):S Qp 2 [.s x, .s y]=some [.i .i64 (Lib.compareBytes x y)]:=by refine Ic0 (N:=1) rfl ?_;simp (disch:=omega) only [Ik4,tp,xe,EVP,EV,simprocAttr]
end Go.X.G
/- Names and their labels. -/
namespace Go.X.G
open Go Go.X
def flat (l:List (List UInt8)):List UInt8:=l.flatMap fun x=>x++[46]
def jn (l:List (List UInt8)):List UInt8:=if l=[] then [46] else flat l
def Fp (first:Bool):List (List UInt8)→Bool
 |[]=>true
 |p::r=>M2 p && (!decide (p=[42])||first) && Fp false r
theorem Hz4:Vj 46=false:=by decide
theorem Lp {p:List UInt8} (h:M2 p=true):(46:UInt8)∉p:=by
 unfold M2 at h;simp at h;rcases h with rfl|⟨_,h⟩
 ·decide
 ·intro h2;have:=h 46 h2;rw [Hz4] at this;cases this
theorem Aj6 {p:List UInt8} (h:M2 p=true):p≠[]:=by rintro rfl;simp [M2] at h
theorem Hm {p:List UInt8}:∀{f:Bool} {l:List (List UInt8)},Fp f l=true→p∈l→M2 p=true
 |f,q::r,h,hp=>by
  simp only [Fp,Aw] at h;rcases An.1 hp with rfl|hp
  ·exact h.1.1
  ·exact Hm h.2 hp
theorem Ar3:∀{l:List (List UInt8)},Fp false l=true→Fp true l=true
 |[],_=>rfl
 |p::r,h=>by simp only [Fp,Aw] at h ⊢;exact ⟨⟨h.1.1,by simp⟩,h.2⟩
theorem On:∀{f:Bool} {a b:List (List UInt8)},Fp f (a++b)=(Fp f a && Fp (f && a.isEmpty) b)
 |f,[],b=>by simp [Fp]
 |f,p::r,b=>by simp only [B9,Fp,On (a:=r)];simp [Bool.and_assoc]
theorem Ar4 {f:Bool} {l:List (List UInt8)} (h:Fp f l=true) (k:Nat):Fp f (l.drop k)=true:=by
 rw [←Br k l,On,Aw] at h;have h2:=h.2;cases f with
 |false=>simpa using h2
 |true=>
  cases he:(l.take k).isEmpty with
  |true=>rw [he] at h2;exact h2
  |false=>rw [he] at h2;exact Ar3 h2
theorem S1:∀(m:List UInt8) (f:Bool) (cur:List UInt8),spl f cur (m++[46])=if Fp f (pcs cur m)=true then some (pcs cur m) else none
 |[],f,cur=>by simp only [Cy,spl,if_true,pcs,Fp,A4,Pg];by_cases h:M2 cur=true<;>by_cases h2:cur=[42]<;>cases f<;>simp [h,h2]
 |c::r,f,cur=>by
  simp only [B9,spl,pcs];by_cases hc:c=46
  ·simp only [if_pos hc];rw [S1 r false []];simp only [Fp];by_cases h:M2 cur=true<;>by_cases h2:cur=[42]<;>cases f<;>by_cases h3:Fp false (pcs [] r)=true<;>simp [h,h2,h3]
  ·simp only [if_neg hc];exact S1 r f (cur++[c])
theorem Tx (b:List UInt8):∀(a cur:List UInt8),pcs cur (a++46::b)=pcs cur a++cut b
 |[],cur=>by simp [pcs,cut]
 |c::r,cur=>by
  simp only [B9,pcs];split
  ·rw [Tx b r []];rfl
  ·exact Tx b r _
theorem R8:∀(m cur:List UInt8),flat (pcs cur m)=cur++m++[46]
 |[],cur=>by simp [pcs,flat]
 |c::r,cur=>by
  simp only [pcs];split
  ·rename_i h;have:=R8 r [];simp only [flat,G2] at this ⊢;rw [this,h];simp
  ·rw [R8 r (cur++[c])];simp
theorem Mn (a b:List (List UInt8)):flat (a++b)=flat a++flat b:=by simp [flat]
theorem Il1 (cur m:List UInt8):pcs cur m≠[]:=by
 cases m with
 |nil=>simp [pcs]
 |cons c r=>
  simp only [pcs];split
  ·simp
  ·intro h;have:=R8 r (cur++[c]);rw [h] at this;simp [flat] at this
theorem Sj:∀(l:List (List UInt8)),(∀p∈l,(46:UInt8)∉p)→cut (flat l)=l++[[]]
 |[],_=>rfl
 |p::l,h=>by
  have h1:flat (p::l)=p++46::flat l:=by simp [flat]
  rw [h1];show pcs [] _=_;rw [Tx,Yv p [] (h p (by simp)),Sj l (fun q hq=>h q (by simp [hq]))];simp
theorem J0:∀(l:List (List UInt8)),l≠[]→∃m,flat l=m++[46]
 |[p],_=>⟨p,by simp [flat]⟩
 |p::q::r,_=>by obtain ⟨m,hm⟩:=J0 (q::r) (by simp);exact ⟨p++[46]++m,by simp only [flat,G2] at hm ⊢;rw [hm];simp⟩
theorem Ak7 {l:List (List UInt8)} (hl:l≠[]) (h:∀p∈l,(46:UInt8)∉p) {m:List UInt8} (hm:flat l=m++[46]):cut m=l:=by
 have h1:=Sj l h;rw [hm] at h1;have h2:cut (m++[46])=cut m++[[]]:=by show pcs [] (m++46::[])=_;rw [Tx];rfl
 rw [h2] at h1;exact Pd h1
theorem Hr {l:List (List UInt8)} (h:Fp true l=true) (hl:l≠[]):2≤(flat l).length:=by
 cases l with
 |nil=>exact absurd rfl hl
 |cons p r=>
  have h1:=Aj6 (Hm h (Gw ..));have:0<p.length:=Bw.2 h1;simp [flat];omega
theorem Hx4 {l:List (List UInt8)} (h:Fp true l=true) (hl:l≠[]) (hlen:(flat l).length≤254):nm (flat l)=some l:=by obtain ⟨m,hm⟩:=J0 l hl;have h1:=Ak7 hl (fun p hp=>Lp (Hm h hp)) hm;have h2:=Hr h hl;unfold nm;rw [if_neg (by intro e;rw [e] at h2;simp at h2),if_pos ⟨h2,hlen,by rw [hm];simp⟩,hm,S1];have:pcs [] m=l:=h1;rw [this,if_pos h]
theorem Hx3 {n:List UInt8} {l:List (List UInt8)} (h:nm n=some l):(n=[46]∧l=[])∨(l≠[]∧Fp true l=true∧n=flat l∧n.length≤254):=by
 unfold nm at h;split at h
 ·rename_i e;injection h with h;exact .inl ⟨e,h.symm⟩
 ·split at h
  ·rename_i h1;right;obtain ⟨h2,h3,h4⟩:=h1;obtain ⟨m,hm⟩:∃m,n=m++[46]:=by
    refine ⟨n.dropLast,?_⟩;have:n≠[]:=by intro e;simp [e] at h2
    have h5:=List.dropLast_concat_getLast this;rw [←h5];congr 1
    ·simp
    ·have h6:n[n.length - 1]? =some (n.getLast this):=by rw [I6];exact Ab _
     rw [h6] at h4;injection h4 with h4;simp [h4]
   rw [hm,S1] at h;split at h
   ·rename_i h5;injection h with h;subst h;refine ⟨Il1 _ _,h5,?_,by omega⟩;rw [R8,hm];simp
   ·cases h
  ·cases h
theorem Hj3 {n:List UInt8}:vld n=true↔nm n=some (lbl n):=by unfold vld lbl;cases nm n<;>simp
theorem vld_cases {n:List UInt8} (h:vld n=true):(n=[46]∧lbl n=[])∨(lbl n≠[]∧Fp true (lbl n)=true∧n=flat (lbl n)∧n.length≤254):=Hx3 (Hj3.1 h)
theorem Rr {n:List UInt8} (h:vld n=true):Fp true (lbl n)=true:=by
 rcases vld_cases h with ⟨_,h⟩|⟨_,h,_⟩
 ·rw [h];rfl
 ·exact h
theorem M3 {n:List UInt8} (h:vld n=true):n=jn (lbl n):=by
 unfold jn;rcases vld_cases h with ⟨h1,h2⟩|⟨h1,_,h2,_⟩
 ·rw [h2,if_pos rfl];exact h1
 ·rw [if_neg h1];exact h2
theorem Jb {n:List UInt8} (h:vld n=true):n.length≤254:=by
 rcases vld_cases h with ⟨h1,_⟩|⟨_,_,_,h⟩
 ·simp [h1]
 ·exact h
theorem Iv:lbl [46]=[]:=rfl
theorem jq {l:List (List UInt8)} (h:Fp true l=true) (hl:l≠[]):flat l≠[46]:=by intro e;have:=Hr h hl;rw [e] at this;simp at this
theorem Yn {n:List UInt8} (h:vld n=true):lbl n=[]↔n=[46]:=by
 rcases vld_cases h with ⟨h1,h2⟩|⟨h1,h2,h3,_⟩
 ·simp [h1,Iv]
 ·constructor
  ·intro e;exact absurd e h1
  ·intro e;rw [h3] at e;exact absurd e (jq h2 h1)
theorem Iw2 {l:List (List UInt8)} (h:Fp true l=true) (hlen:(flat l).length≤254):vld (jn l)=true∧lbl (jn l)=l:=by
 unfold jn;by_cases hl:l=[]
 ·subst hl;exact ⟨rfl,rfl⟩
 ·rw [if_neg hl];have:=Hx4 h hl hlen;exact ⟨by simp [vld,this],by simp [lbl,this]⟩
theorem Lm {a b:List UInt8} (ha:vld a=true) (hb:vld b=true) (h:lbl a=lbl b):a=b:=by rw [M3 ha,M3 hb,h]
theorem Y6 (l:List (List UInt8)) (k:Nat):(flat (l.drop k)).length≤(flat l).length:=by
 have:flat l=flat (l.take k)++flat (l.drop k):=by rw [←Mn,Br]
 rw [this,Az];omega
theorem Mq {n:List UInt8} (h:vld n=true) (k:Nat):vld (jn ((lbl n).drop k))=true∧lbl (jn ((lbl n).drop k))=(lbl n).drop k:=by
 refine Iw2 (Ar4 (Rr h) k) ?_;rcases vld_cases h with ⟨_,h1⟩|⟨_,_,h1,h2⟩
 ·rw [h1];simp [flat]
 ·have:=Y6 (lbl n) k;rw [←h1] at this;omega
theorem N0 {n:List UInt8} (h:vld n=true):0<n.length:=by
 rcases vld_cases h with ⟨h1,_⟩|⟨h1,h2,h3,_⟩
 ·simp [h1]
 ·have:=Hr h2 h1;rw [h3];omega
end Go.X.G
/- Names: what the program's functions give. -/
namespace Go.X.G
open Go Go.X
def ord (s:List UInt8):Bool:=decide (1≤s.length) && decide (s.length≤63) && s.all Vj
theorem Cx9 (s:List UInt8):M2 s=(decide (s=[42])||ord s):=rfl
theorem En3:ord [42]=false:=by decide
theorem nw (s:List UInt8) (N:Nat) (hN:s.length<N) (hs:s.length≤9223372036854775807):
  Fc1.ev S N [.s s]=some (if s.all Vj=true then .yld 0 [] else .ret [.b false]):=by
 refine Fc s (fun i=>[.i .i64 (i:Int)]) (fun i r=>if r.all Vj=true then .yld 0 [] else .ret [.b false]) rfl hN (fun i c r hd hi hc=> ?_) ?_
 ·have key:Dt2.ev S N ([.s s]++[.i .i64 (i:Int)])=some (if Vj c=true then .yld 1 [.i .i64 ((i:Int)+1)] else .ret [.b false]):=by
   simp (disch:=omega) only [Bv4,hc,xe,EVP,EV,simprocAttr];unfold Vj
   grind
  rw [key];rcases Aq (Vj c) with h|h<;>simp [h,Out.goes]
 ·simp (disch:=omega) [Bv4,xe,EVP,EV,simprocAttr,Out.goes]
theorem Kz (s:List UInt8) (hs:s.length≤9223372036854775807):S Bs2 1 [.s s]=some [.b (ord s)]:=by
 refine Jn4 (N:=s.length+1) rfl ?_;unfold ord;by_cases h1:s=[]
 ·subst h1;simp (disch:=omega) [Bv4,xe,EVP,EV,simprocAttr]
 ·have h2:1≤s.length:=Bw.2 h1;by_cases h3:s.length≤63
  ·simp (disch:=omega) only [Bv4,nw,h1,xe,EVP,EV,simprocAttr];cases s.all Vj<;>simp [h2,h3]
  ·simp (disch:=omega) only [Bv4,h1,xe,EVP,EV,simprocAttr];simp [h3]
def okP (i:Nat) (p:List UInt8):Bool:=ord p||(decide (i=0) && decide (p=[42]))
def Ep2:Nat→List (List UInt8)→Bool
 |_,[]=>true
 |i,p::r=>okP i p && Ep2 (i+1) r
theorem ez:∀(l:List (List UInt8)) (i:Nat),Ep2 i l=Fp (decide (i=0)) l
 |[],_=>rfl
 |p::r,i=>by
  have h1:=ez r (i+1);simp only [Ep2,Fp,h1,okP,Cx9];by_cases h2:p=[42]
  ·subst h2;by_cases h3:i=0<;>simp [En3,h3]
  ·simp [h2]
theorem Ek6 (p q:PV) (l:List (List UInt8)) (hl:l.length≤1000000) (hw:∀x∈l,x.length≤9223372036854775807) (N:Nat) (hN:l.length<N):
  Fd6.ev S N [p,q,Bh l]=some (if Ep2 0 l=true then .yld 0 [] else .ret [.b false]):=by
 refine Fc l (fun i=>[.i .i64 (i:Int)]) (fun i r=>if Ep2 i r=true then .yld 0 [] else .ret [.b false]) rfl hN (fun i c r hd hi hc=> ?_) ?_
 ·have hcw:=hw c (A6 hc);have key:Dt4.ev S N ([p,q,Bh l]++[.i .i64 (i:Int)])=some (if okP i c=true then .yld 1 [.i .i64 ((i:Int)+1)] else .ret [.b false]):=by
   rcases Aq (ord c) with h1|h1
   ·simp (disch:=omega) only [Xh,Kz,hc,h1,xe,EVP,EV,simprocAttr];simp [okP,h1]
   ·by_cases h2:i=0
    ·subst h2;by_cases h3:c=[42]
     ·subst h3;simp (disch:=omega) only [Xh,Kz,hc,h1,xe,EVP,EV,simprocAttr];simp [okP]
     ·simp (disch:=omega) only [Xh,Kz,hc,h1,h3,xe,EVP,EV,simprocAttr];simp [okP,h1,h3]
    ·simp (disch:=omega) only [Xh,Kz,hc,h1,xe,EVP,EV,simprocAttr];simp [okP,h1,h2]
  rw [key];rcases Aq (okP i c) with h|h<;>simp [h,Ep2,Out.goes]
 ·simp (disch:=omega) only [Xh,xe,EVP,EV,simprocAttr];simp [Out.goes,Ep2]
theorem Yw:∀(m cur:List UInt8) (x:List UInt8),x∈pcs cur m→x.length≤cur.length+m.length
 |[],cur,x,h=>by simp [pcs] at h;subst h;simp
 |c::r,cur,x,h=>by
  simp only [pcs] at h;split at h
  ·rcases An.1 h with rfl|h
   ·omega
   ·have:=Yw r [] x h;simp at this ⊢;omega
  ·have:=Yw r _ x h;simp at this ⊢;omega
theorem Fq3 (m x:List UInt8) (h:x∈cut m):x.length≤m.length:=by simpa using Yw m [] x h
theorem Jx8 (m:List UInt8):(cut m).length≤m.length+1:=by have:=Cc2 m;have:m.count 46≤m.length:=List.count_le_length;omega
theorem By5 (n:List UInt8):([46]:List UInt8).isSuffixOf n=true↔∃m,n=m++[46]:=by rw [E8];exact ⟨fun ⟨m,h⟩=>⟨m,h.symm⟩,fun ⟨m,h⟩=>⟨m,h.symm⟩⟩
theorem Ew7 (m:List UInt8) (hm:m≠[]) (hl:m.length≤253):vld (m++[46])=Ep2 0 (cut m):=by have h1:m++[46]≠[46]:=fun e=>hm (Pd (bs:=[46]) (by simpa using e));have h2:0<m.length:=Bw.2 hm;unfold vld nm;rw [if_neg h1,if_pos ⟨by simp;omega,by simp;omega,by simp⟩,S1,ez];have e:pcs [] m=cut m:=rfl;have e2:Fp (decide ((0:Nat)=0)) (cut m)=Fp true (cut m):=rfl;rw [e,e2];cases Fp true (cut m)<;>rfl
theorem Es2 (m:List UInt8) (h:vld (m++[46])=true) (hm:m≠[]):lbl (m++[46])=cut m:=by
 rcases vld_cases h with ⟨h1,_⟩|⟨h1,h2,h3,_⟩
 ·exact absurd (Pd (bs:=[46]) (by simpa using h1)) hm
 ·exact (Ak7 h1 (fun p hp=>Lp (Hm h2 hp)) h3.symm).symm
theorem B5 (n:List UInt8) (hn:n.length≤9223372036854775807):S Kc 1 [.s n]=some [.b (vld n)]:=by
 refine Js5 (N:=300) rfl ?_;by_cases h0:n=[46]
 ·subst h0;simp (disch:=omega) only [Xh,xe,EVP,EV,simprocAttr];rfl
 ·by_cases h1:255≤n.length
  ·have hv:vld n=false:=by rw [Bool.eq_false_iff];intro h;have:=Jb h;omega
   simp (disch:=omega) only [Xh,h0,hv,xe,EVP,EV,simprocAttr]
  ·rcases Aq (([46]:List UInt8).isSuffixOf n) with h2|h2
   ·obtain ⟨m,rfl⟩:=(By5 n).1 h2;have hm:m≠[]:=fun e=>h0 (by simp [e]);have hl:(m++[46]).length=m.length+1:=by simp
    have hml:m.length≤1000000:=by omega
    have e:List.drop 0 (List.take (((m++[46]).length:Int) - 1).toNat (m++[46]))=m:=by
     have:(((m++[46]).length:Int) - 1).toNat=m.length:=by omega
     rw [this];simp
    have hc:=Jx8 m;have hv:=Ew7 m hm (by omega);have hk:=Ek6 (.s (m++[46])) (.b true) (cut m) (by omega) (fun x hx=>by have:=Fq3 m x hx;omega) 300 (by omega);simp (disch:=omega) only [Xh,L8,kj,e,hk,h0,h2,xe,EVP,EV,simprocAttr];rw [hv];cases Ep2 0 (cut m)<;>simp
   ·have hv:vld n=false:=by
     rw [Bool.eq_false_iff];intro h;rcases vld_cases h with ⟨h3,_⟩|⟨h3,_,h5,_⟩
     ·exact h0 h3
     ·obtain ⟨m,hm⟩:=J0 _ h3;have:=(By5 n).2 ⟨m,h5.trans hm⟩;rw [h2] at this;cases this
    simp (disch:=omega) only [Xh,L8,h0,h2,hv,xe,EVP,EV,simprocAttr]
theorem Qz (n:List UInt8) (hn:n.length≤9223372036854775807):S Tf 1 [.s n]=some [Bh (lbl n)]:=by
 refine Ib9 (N:=1) rfl ?_;by_cases h0:n=[46]
 ·subst h0;simp (disch:=omega) only [Bw5,Iv,xe,EVP,EV,simprocAttr]
 ·rcases Aq (vld n) with h1|h1
  ·obtain ⟨m,hm,rfl⟩:∃m,m≠[]∧n=m++[46]:=by
    rcases vld_cases h1 with ⟨h3,_⟩|⟨h3,_,h5,_⟩
    ·exact absurd h3 h0
    ·obtain ⟨m,hm⟩:=J0 _ h3;exact ⟨m,fun e=>h0 (by rw [h5,hm,e];rfl),h5.trans hm⟩
   have hl:(m++[46]).length=m.length+1:=by simp
   have e:List.drop 0 (List.take (((m++[46]).length:Int) - 1).toNat (m++[46]))=m:=by
    have:(((m++[46]).length:Int) - 1).toNat=m.length:=by omega
    rw [this];simp
   have hl2:=Jb h1;have e2:=Es2 m h1 hm;simp (disch:=omega) only [Bw5,B5,kj,e,e2,h0,h1,xe,EVP,EV,simprocAttr]
  ·have e:lbl n=[]:=by
    unfold lbl;unfold vld at h1;cases h:nm n with
    |none=>rfl
    |some l=>rw [h] at h1;cases h1
   simp (disch:=omega) only [Bw5,B5,h0,h1,e,xe,EVP,EV,simprocAttr]
theorem O0 (p:List UInt8) (l:List (List UInt8)):flat (p::l)=p++46::flat l:=by simp [flat]
def Yz (n:List UInt8):List UInt8:=if vld n=true∧n≠[46] then jn ((lbl n).drop 1) else []
def Aj7 (n:List UInt8):Bool:=vld n && !decide (n=[46])
theorem Qy (n:List UInt8) (hn:n.length≤9223372036854775807):S ng 1 [.s n]=some [.s (Yz n), .b (Aj7 n)]:=by
 refine Jm1 (N:=1) rfl ?_;unfold Yz Aj7;by_cases h0:n=[46]
 ·subst h0;simp (disch:=omega) only [Ew2,xe,EVP,EV,simprocAttr];simp
 ·rcases Aq (vld n) with h1|h1
  ·rcases vld_cases h1 with ⟨h3,_⟩|⟨h3,h4,h5,h6⟩
   ·exact absurd h3 h0
   ·cases hl:lbl n with
    |nil=>exact absurd hl h3
    |cons p r=>
     rw [hl] at h4 h5;have hp:=Lp (Hm h4 (Gw ..));have hi:=ky n 46;have hc:(((46:UInt8).toNat:Nat):Int)=46:=rfl;have hx:Lib.indexByte n 46=(p.length:Int):=by rw [h5,O0];exact Jg 46 _ p hp
     rw [hc,hx] at hi;have hlen:n.length=p.length+1+(flat r).length:=by rw [h5,O0];simp;omega
     have e:List.drop ((p.length:Int)+1).toNat (List.take n.length n)=flat r:=by
      have:((p.length:Int)+1).toNat=p.length+1:=by omega
      rw [this,C8,h5,O0];simp
     by_cases h7:r=[]
     ·subst h7;have e2:flat []=[]:=rfl;simp (disch:=omega) only [Ew2,B5,hi,e,e2,h0,h1,xe,EVP,EV,simprocAttr];simp [jn]
     ·have e2:¬flat r=[]:=by obtain ⟨m,hm⟩:=J0 r h7;rw [hm];simp
      simp (disch:=omega) only [Ew2,B5,hi,e,e2,h0,h1,xe,EVP,EV,simprocAttr];simp [jn,h7]
  ·simp (disch:=omega) only [Ew2,B5,h0,h1,xe,EVP,EV,simprocAttr];simp
def Cb0 (n top:List UInt8):Bool:=(decide (top=[46])||decide (n=top))||(46::top).isSuffixOf n
theorem Cz9 (n top:List UInt8) (hn:n.length≤9223372036854775807) (ht:top.length≤1000000):S Ap0 2 [.s n, .s top]=some [.b (Cb0 n top)]:=by
 refine Js4 (N:=1) rfl ?_;unfold Cb0;have h0:([46]:List UInt8).length=1:=rfl;by_cases h1:top=[46]<;>by_cases h2:n=top<;>simp (disch:=omega) only [Jf4,L8,h1,h2,xe,EVP,EV,simprocAttr]
 all_goals simp
theorem o5 {a b:List (List UInt8)} (ha:Fp true a=true) (hb:Fp true b=true) (h:(46::flat b)<:+flat a):b<:+a:=by obtain ⟨p,hp⟩:=h;have h1:=Sj a (fun x hx=>Lp (Hm ha hx));have h2:=Sj b (fun x hx=>Lp (Hm hb hx));rw [←hp] at h1;have h3:cut (p++46::flat b)=cut p++cut (flat b):=Tx (flat b) p [];rw [h3,h2,←As] at h1;exact ⟨cut p,Pd h1⟩
theorem Fk3 {n top:List UInt8} (hn:vld n=true) (ht:vld top=true):Cb0 n top=true↔lbl top<:+lbl n:=by
 unfold Cb0;simp only [Am,decide_eq_true_eq,E8];constructor
 ·rintro ((rfl|rfl)|h)
  ·rw [Iv];exact List.nil_suffix
  ·exact List.suffix_refl _
  ·rcases vld_cases ht with ⟨h1,h2⟩|⟨h1,h2,h3,_⟩
   ·rw [h2];exact List.nil_suffix
   ·rcases vld_cases hn with ⟨h5,_⟩|⟨h5,h6,h7,_⟩
    ·rw [h5] at h;have h9:=h.length_le;have h8:=Hr h2 h1;rw [←h3] at h8;simp only [A0,By] at h9;omega
    ·rw [h3,h7] at h;exact o5 h6 h2 h
 ·intro h;obtain ⟨p,hp⟩:=h;rcases vld_cases ht with ⟨h1,h2⟩|⟨h1,h2,h3,_⟩
  ·exact .inl (.inl h1)
  ·by_cases hp0:p=[]
   ·left;right;subst hp0;exact Lm hn ht hp.symm
   ·right;rcases vld_cases hn with ⟨_,h5⟩|⟨h5,h6,h7,_⟩
    ·rw [h5] at hp;exact absurd (List.append_eq_nil_iff.1 hp).1 hp0
    ·obtain ⟨m,hm⟩:=J0 p hp0;rw [h7,←hp,Mn,hm];exact ⟨m,by rw [As,←h3];simp⟩
theorem Ub {α:Type} [DecidableEq α]:∀(a b:List α),pg a b=b.length↔b<+:a
 |[],[]=>by simp [pg]
 |[],y::ys=>by simp [pg]
 |x::xs,[]=>by simp [pg]
 |x::xs,y::ys=>by
  have:=Ub xs ys;simp only [pg];split
  ·rename_i h;subst h;simp [this,Mj]
  ·rename_i h;simp [Mj,Ne.symm h]
theorem dx (a b:List (List UInt8)):ms a b=b.length↔b<:+a:=by unfold ms;have:=Ub a.reverse b.reverse;rw [List.length_reverse] at this;rw [this,List.reverse_prefix]
theorem B0 {n top:List UInt8}:under n top=true↔vld n=true∧vld top=true∧lbl top<:+lbl n:=by unfold under;simp [dx,and_assoc]
theorem Vn {n top:List UInt8} (hn:vld n=true) (ht:vld top=true):Cb0 n top=under n top:=by rw [Cn,Fk3 hn ht,B0];simp [hn,ht]
theorem D5 (n top:List UInt8) (hn:n.length≤9223372036854775807) (ht:top.length≤9223372036854775807):S K9 2 [.s n, .s top]=some [.b (under n top)]:=by
 refine Jt6 (N:=1) rfl ?_;rcases Aq (vld n) with h1|h1
 ·rcases Aq (vld top) with h2|h2
  ·have h3:=Jb h2;simp (disch:=omega) only [Gt8,B5,Cz9,h1,h2,xe,EVP,EV,simprocAttr];rw [Vn h1 h2]
  ·have h3:under n top=false:=by simp [under,h2]
   simp (disch:=omega) only [Gt8,B5,h1,h2,h3,xe,EVP,EV,simprocAttr]
 ·have h3:under n top=false:=by simp [under,h1]
  simp (disch:=omega) only [Gt8,B5,h1,h3,xe,EVP,EV,simprocAttr]
end Go.X.G
/- Names: order, common ancestors, wildcards. -/
namespace Go.X.G
open Go Go.X
theorem Q5:∀(a:List UInt8),Op.bytesLess a a=false
 |[]=>rfl
 |a::x=>by simp [Op.bytesLess,Q5 x]
theorem L2:∀(a b:List UInt8),Lib.compareBytes a b=cmpS a b
 |[],[]=>rfl
 |[],_::_=>rfl
 |_::_,[]=>rfl
 |a::x,b::y=>by
  have ih:=L2 x y;unfold cmpS at ih ⊢;simp only [Lib.compareBytes,Op.bytesLess,ih];by_cases h1:a<b
  ·simp [h1]
  ·by_cases h2:b<a
   ·have h3:a≠b:=fun e=>by subst e;exact h1 h2
    simp [h1,h2,h3]
   ·have h3:a=b:=UInt8.le_antisymm (UInt8.not_lt.1 h2) (UInt8.not_lt.1 h1);subst h3;simp [h1]
theorem I1 {a b:List UInt8}:cmpS a b=0↔a=b:=by
 unfold cmpS;by_cases h:a=b
 ·subst h;simp [Q5]
 ·cases h2:Op.bytesLess a b<;>simp [h]
theorem Kr (x y:List UInt8):S Qp 2 [.s x, .s y]=some [.i .i64 (cmpS x y)]:=by rw [td,L2]
def Us:List (List UInt8)→List (List UInt8)→Option Int
 |x::xs,y::ys=>if x=y then Us xs ys else some (cmpS x y)
 |_,_=>none
theorem Cc5:∀(a b:List (List UInt8)),Us a b=if pg a b<a.length∧pg a b<b.length then some (cmpS (a.getD (pg a b) []) (b.getD (pg a b) [])) else none
 |[],b=>by simp [Us,pg]
 |x::xs,[]=>by simp [Us,pg]
 |x::xs,y::ys=>by
  have ih:=Cc5 xs ys;simp only [Us,pg];by_cases h:x=y
  ·simp only [if_pos h,ih];simp
  ·simp [h]
def At4 (a b:List (List UInt8)):Int:=match Us a.reverse b.reverse with
 |some c=>c
 |none=>if a.length<b.length then -1 else if b.length<a.length then 1 else 0
theorem Aj9 (a:List (List UInt8)) (k:Nat) (h:k<a.length):a.reverse.getD k []=a.getD (a.length - 1 - k) []:=by simp [Bp,List.getElem?_reverse h]
theorem Zh {a b:List UInt8} (ha:vld a=true) (hb:vld b=true):Jm a b=At4 (lbl a) (lbl b):=by
 unfold Jm At4;rw [Cc5];have e:pg (lbl a).reverse (lbl b).reverse=ms (lbl a) (lbl b):=rfl;rw [e,ha,hb];simp only [List.length_reverse,Bool.and_self,if_true];by_cases h:ms (lbl a) (lbl b)<(lbl a).length∧ms (lbl a) (lbl b)<(lbl b).length
 ·rw [if_pos h,if_pos h,Aj9 _ _ h.1,Aj9 _ _ h.2]
 ·rw [if_neg h,if_neg h]
theorem tn (a b:List (List UInt8)) (p1 p2 p3 p4:PV) (ha:a.length≤1000) (hb:b.length≤1000) (N:Nat) (hN:1001<N):
  oz.ev S N [p1,p2,p3,p4,Bh a,Bh b]=some (match Us a.reverse b.reverse with|some c=> .ret [.i .i64 c]|none=> .yld 0 []):=by
 have key:=Ir (fn:=S) (N:=N) (η:=[p1,p2,p3,p4,Bh a,Bh b]) (id:=1) (init:=[(.c (.i .i64 (1)))]) (body:=s8) (α:=Nat) (fun k=>[.i .i64 ((k:Int)+1)])
  (fun k=>match Us (a.reverse.drop k) (b.reverse.drop k) with|some c=> .ret [.i .i64 c]|none=> .yld 0 []) (fun k=>k≤a.length∧k≤b.length) (fun k=>a.length - k) 0 rfl ⟨Cc _,Cc _⟩ (by omega) ?_
 ·simpa [oz] using key
 ·rintro k ⟨h1,h2⟩;by_cases h3:k<a.length
  ·by_cases h4:k<b.length
   ·have e1:((a.length:Int) - ((k:Int)+1)).toNat=a.length - 1 - k:=by omega
    have e2:((b.length:Int) - ((k:Int)+1)).toNat=b.length - 1 - k:=by omega
    have g1:a[a.length - 1 - k]? =some (a[a.length - 1 - k]'(by omega)):=Ab (by omega);have g2:b[b.length - 1 - k]? =some (b[b.length - 1 - k]'(by omega)):=Ab (by omega);have d1:a.reverse.drop k=(a[a.length - 1 - k]'(by omega))::a.reverse.drop (k+1):=by rw [Cp (by simpa using h3)];simp
    have d2:b.reverse.drop k=(b[b.length - 1 - k]'(by omega))::b.reverse.drop (k+1):=by rw [Cp (by simpa using h4)];simp
    rw [d1,d2];generalize (a[a.length - 1 - k]'(by omega))=x at g1;generalize (b[b.length - 1 - k]'(by omega))=y at g2;simp only [Us];by_cases h:x=y
    ·left;have h5:cmpS x y=0:=I1.2 h;refine ⟨k+1,?_,⟨by omega,by omega⟩,by omega,by rw [if_pos h]⟩;simp (disch:=omega) only [Sd,Kr,e1,e2,g1,g2,h5,xe,EVP,EV,simprocAttr]
    ·right;have h5:¬cmpS x y=0:=fun e=>h (I1.1 e);rw [if_neg h];simp (disch:=omega) only [Sd,Kr,e1,e2,g1,g2,h5,xe,EVP,EV,simprocAttr];simp [Out.goes]
   ·right;have d2:b.reverse.drop k=[]:=Xv (by simp;omega);have z:Us (a.reverse.drop k) []=none:=by cases a.reverse.drop k<;>rfl
    rw [d2,z];simp (disch:=omega) [Sd,xe,EVP,EV,simprocAttr,Out.goes]
  ·right;have d1:a.reverse.drop k=[]:=Xv (by simp;omega);have z:Us [] (b.reverse.drop k)=none:=rfl;rw [d1,z];simp (disch:=omega) [Sd,xe,EVP,EV,simprocAttr,Out.goes]
theorem Un (a b:List UInt8) (hn:a.length≤9223372036854775807) (ht:b.length≤9223372036854775807):S Js 2 [.s a, .s b]=some [.i .i64 (Jm a b)]:=by
 refine If0 (N:=1002) rfl ?_;have h1:=Ll a;have h2:=Ll b;rcases Aq (vld a) with h3|h3<;>rcases Aq (vld b) with h4|h4
 ·rw [Zh h3 h4];unfold At4;have hk:=tn (lbl a) (lbl b) (.s a) (.s b) (.b true) (.b true) (by omega) (by omega) 1002 (by omega);cases h5:Us (lbl a).reverse (lbl b).reverse with
  |some c=>
   rw [h5] at hk;simp (disch:=omega) only [Sd,B5,Qz,hk,h3,h4,xe,EVP,EV,simprocAttr]
  |none=>
   rw [h5] at hk;simp (disch:=omega) only [Sd,B5,Qz,hk,h3,h4,xe,EVP,EV,simprocAttr]
   grind
 all_goals unfold Jm
 all_goals simp (disch:=omega) only [Sd,B5,Kr,h3,h4,xe,EVP,EV,simprocAttr]
 all_goals simp
theorem Aj3 {n:List UInt8} (h:vld n=true) (k:Nat):(jn ((lbl n).drop k)).length≤254:=Jb (Mq h k).1
def U1 (n:List UInt8):List UInt8:=if n=[46] then [42,46] else [42,46]++n
def N6 (n:List UInt8):Bool:=vld n && !decide ((lbl n)[0]? =some [42]) && vld (U1 n)
def starN (n:List UInt8):List UInt8:=if N6 n=true then U1 n else []
theorem P2 {n:List UInt8} (h:vld n=true):(n[0]? =some 42↔(lbl n)[0]? =some [42]):=by
 rcases vld_cases h with ⟨h1,h2⟩|⟨h1,h2,h3,_⟩
 ·subst h1;simp [Iv]
 ·cases hl:lbl n with
  |nil=>exact absurd hl h1
  |cons p r=>
   rw [hl] at h2 h3;have hp:=Hm h2 (Gw ..);have hne:=Aj6 hp;cases p with
   |nil=>exact absurd rfl hne
   |cons c q=>
    rw [h3,O0];simp only [B9,Cv,Ak];constructor
    ·rintro rfl;unfold M2 at hp;simp at hp;rcases hp with h|h
     ·rw [h]
     ·exfalso;have:Vj 42=false:=by decide
      rw [this] at h;simp at h
    ·intro h;injection h
theorem Fw2 (n:List UInt8) (hn:n.length≤1000000):S g7 1 [.s n]=some [.s (starN n), .b (N6 n)]:=by
 refine Ig3 (N:=1) rfl ?_;have h0:([42,46]:List UInt8).length=2:=rfl;have hl:(U1 n).length≤9223372036854775807:=by
  unfold U1;split
  ·simp
  ·rw [Az,h0];omega
 unfold starN N6;have tail:T.ev S 1 qc [.s n, .s (U1 n)]=some (.ret [.s (starN n), .b (N6 n)]):=by
  unfold starN N6;rcases Aq (vld n) with h3|h3
  ·have h4:=P2 h3;have h5:=Ab (N0 h3);have h6:=Jh2 (n[0]'(N0 h3)) 42 (by omega);by_cases h7:(lbl n)[0]? =some [42]
   ·have h8:=h4.2 h7;rw [h5] at h8;injection h8 with h8;have h9:((n[0]'(N0 h3)).toNat:Int)=42:=h6.2 h8;simp (disch:=omega) only [uh,B5,h3,h5,xe,EVP,EV,simprocAttr];simp [h7]
   ·have h8:¬n[0]? =some 42:=fun e=>h7 (h4.1 e);rw [h5] at h8;have h9:¬((n[0]'(N0 h3)).toNat:Int)=42:=fun e=>h8 (by rw [h6.1 e];rfl);rcases Aq (vld (U1 n)) with ha|ha<;>simp (disch:=omega) only [uh,B5,h3,h5,ha,xe,EVP,EV,simprocAttr]<;>simp [h7]
  ·simp (disch:=omega) only [uh,B5,h3,xe,EVP,EV,simprocAttr];simp
 unfold starN N6 at tail;obtain ⟨y0,y1,y2,y3,y4,y5,y6,y7,yt⟩:=uh;by_cases h4:n=[46]
 ·have e:U1 n=[42,46]:=by simp [U1,h4]
  rw [e] at tail ⊢;subst h4;simp (disch:=omega) only [y0,y1,y2,yt,xe,EVP,EV,simprocAttr];rw [tail];simp
 ·have e:U1 n=42::46::n:=by simp [U1,h4]
  rw [e] at tail ⊢;simp (disch:=omega) only [y0,y1,y2,yt,h4,xe,EVP,EV,simprocAttr];rw [tail];simp
end Go.X.G
