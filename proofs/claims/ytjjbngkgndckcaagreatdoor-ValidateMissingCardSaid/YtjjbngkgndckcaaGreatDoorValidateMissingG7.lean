/- Names: what the reference's functions give. -/
import Derived.Test.YtjjbngkgndckcaaGreatDoorValidateMissingG5
import Derived.Test.YtjjbngkgndckcaaGreatDoorValidateMissingG6
open Option renaming map_eq_some_iff->Br
set_option maxHeartbeats 1000000
set_option linter.defProp false
set_option linter.unusedVariables false
set_option linter.unusedSimpArgs false
namespace Go.X.G
open Go Go.X
def Td (c:UInt8):Bool:=decide (97<=(c.toNat:Int)) && decide ((c.toNat:Int)<=122)||decide (48<=(c.toNat:Int)) && decide ((c.toNat:Int)<=57)||decide ((c.toNat:Int)=45)||decide ((c.toNat:Int)=95)
def Jh (s:List UInt8):Bool:=decide (s=[42])||(decide (1<=s.length) && decide (s.length<=63) && s.all Td)
def spl (first:Bool) (cur:List UInt8):List UInt8->Option (List (List UInt8))
 |[]=>some []
 |c::r=>if c=46 then(if Jh cur=true∧(cur=[42]->first=true) then(spl false [] r).map (cur::·) else none) else spl first (cur++[c]) r
def nm (n:List UInt8):Option (List (List UInt8)):=
 if n=[46] then some [] else if 2<=n.length∧n.length<=254∧n[n.length - 1]? =some 46 then spl true [] n else none
def lbl (n:List UInt8):List (List UInt8):=(nm n).getD []
def vld (n:List UInt8):Bool:=(nm n).isSome
def f8:∀(r:List UInt8) (f:Bool) (cur:List UInt8) (l:List (List UInt8)),spl f cur r=some l->l.length<=r.length
 |[],f,cur,l,h=>by simp[spl] at h;simp[<-h]
 |c::r,f,cur,l,h=>by
  simp only[spl] at h;split at h
  .split at h
   .obtain⟨m,hm,rfl⟩:=Br.1 h;have:=f8 r _ _ _ hm;simp;omega
   .cases h
  .have:=f8 r _ _ _ h;simp;omega
def Fk6 {n:List UInt8} {l:List (List UInt8)} (h:nm n=some l):l.length<=254:=by
 unfold nm at h;split at h
 .injection h with h;subst h;simp
 .split at h
  .rename_i h2;have:=f8 _ _ _ _ h;omega
  .cases h
def Jy (n:List UInt8):(lbl n).length<=254:=by
 unfold lbl;cases h:nm n with
 |none=>simp
 |some l=>exact Fk6 h
def Sn {D:Type} [DecidableEq D]:List D->List D->Nat
 |x::xs,y::ys=>if x=y then Sn xs ys+1 else 0
 |_,_=>0
def K4 (a b:List (List UInt8)):Nat:=Sn a.reverse b.reverse
def Bf0 {D:Type} [DecidableEq D]:∀(a b:List D),Sn a b<=a.length∧Sn a b<=b.length
 |[],b=>by simp[Sn]
 |x::xs,[]=>by simp[Sn]
 |x::xs,y::ys=>by have:=Bf0 xs ys;simp only[Sn];split<;>simp<;>omega
def Cj5 (a b:List (List UInt8)):K4 a b<=a.length∧K4 a b<=b.length:=by have:=Bf0 a.reverse b.reverse;simpa [K4] using this
def under (n top:List UInt8):Bool:=vld n && vld top && decide (K4 (lbl n) (lbl top)=(lbl top).length)
def cmpS (a b:List UInt8):Int:=if Op.bytesLess a b then -1 else if a=b then 0 else 1
def Pj (a b:List UInt8):Int:=
 if vld a && vld b then
  let k:=K4 (lbl a) (lbl b)
  if k<(lbl a).length∧k<(lbl b).length then cmpS ((lbl a).getD ((lbl a).length - 1 - k) []) ((lbl b).getD ((lbl b).length - 1 - k) [])
  else if(lbl a).length<(lbl b).length then -1 else if(lbl b).length<(lbl a).length then 1 else 0
 else if vld a then -1 else if vld b then 1 else cmpS a b
end Go.X.G
