/- Data of records in the program: which are valid, the Md. -/
import Derived.Test.YtfnmphjdknjkmaaGreatDoorNsecOrderG11
open Bool renaming eq_false_or_eq_true→Aq,and_eq_true→Aw,false_eq_true→Ad
open Int renaming le_refl→Jk0
open List renaming getElem?_eq_some_iff→Av,getElem?_eq_getElem→Az,length_append→Ac,mem_cons→Am,length_take→Ar,append_assoc→As,pairwise_cons→A0,getElem?_append_right→A3,mem_of_getElem?→A4,length_cons→A6,getElem?_drop→A9,getElem?_append_left→Bj,eq_nil_of_length_eq_zero→Bb,length_pos_iff→Bc,length_nil→Bd,mem_append_right→Bm,mem_filter→Bn,mem_append→Bt,take_append_drop→B0,length_drop→B3,cons_append→B5,nil_append→Cf,take_add_one→Ct,drop_drop→C2,getElem?_set→C4,getElem?_of_mem→C9,drop_eq_getElem_cons→Dz,take_length→Df,take_of_length_le→Dh,append_nil→Ds,getElem?_cons_succ→D1,drop_zero→D2,filter_cons_of_pos→Em,pairwise_append→Er,length_set→F0,filter_append→Gj,mem_of_mem_take→Gx,filter_eq_nil_iff→Gr,pairwise_iff_getElem→G9,mem_of_mem_drop→Iz,flatMap_cons→I5,filter_cons→Kh,getElem?_set_ne→M2,set_append_right→gv,take_take→Ar6,mem_nil_iff→Dc8
open Nat renaming le_refl→Af,mul_le_mul_right→By,add_mul→B8,sub_self→V0,add_sub_cancel→V1,min_eq_left→Y0,add_comm→Dc7
set_option maxHeartbeats 1000000
set_option linter.unusedVariables false
set_option linter.unusedSimpArgs false
namespace Go.X.G
open Go Go.X
set_option maxHeartbeats 2000000 in
theorem Bw5 (d:Dat) (h:d.wf):S Gp 2 [.i .i64 1,d.pv]=some [.b (D9 1 d)]:=by
 refine Il (N:=1) rfl ?_;have g1:d.host.length≤9223372036854775807:=h.host;have g2:d.mail.length≤9223372036854775807:=h.mail;have g3:d.text.length≤9223372036854775807:=h.text;have kb:=D5 d.bits h.bits.1 h.bits.2;by_cases hu:d=(⟨d.v6,d.hi,d.lo,[],[],[],0,0,0,0,0,0,0⟩:Dat)
 ·have hu2:decide (usd 1 d=d)=true:=decide_eq_true hu.symm;have hv:D9 1 d=Dk 1 d:=by simp [D9,hu2,knw]
  replace hu:(d=(⟨d.v6,d.hi,d.lo,[],[],[],0,0,0,0,0,0,0⟩:Dat))=True:=eq_true hu;rw [hv];rcases Aq (D6 d) with e0|e0
  all_goals simp (disch:=omega) only [Ec,C6,Cr,Dl,Ch,Cs,Cd,Bs,Dn,Cw,kb,EVC,xe,EVP,EV,simprocAttr, *]
  all_goals (unfold Dk;rcases Aq d.v6 with h6|h6<;>first|(simp [h6,e0];done)|(simp [D6,h6] at e0))
 ·have hu2:decide (usd 1 d=d)=false:=decide_eq_false fun q=>hu q.symm;have hv:D9 1 d=false:=by simp [D9,hu2]
  rw [hv];simp (disch:=omega) only [Ec,C6,Cr,Dl,Ch,Cs,Cd,Bs,Dn,Cw,kb,hu,EVC,xe,EVP,EV,simprocAttr]
set_option maxHeartbeats 2000000 in
theorem Bw4 (d:Dat) (h:d.wf):S Gp 2 [.i .i64 2,d.pv]=some [.b (D9 2 d)]:=by
 refine Il (N:=1) rfl ?_;have g1:d.host.length≤9223372036854775807:=h.host;have g2:d.mail.length≤9223372036854775807:=h.mail;have g3:d.text.length≤9223372036854775807:=h.text;have kb:=D5 d.bits h.bits.1 h.bits.2;by_cases hu:d=(⟨false,0,0,d.host,[],[],0,0,0,0,0,0,0⟩:Dat)
 ·have hu2:decide (usd 2 d=d)=true:=decide_eq_true hu.symm;have hv:D9 2 d=Dk 2 d:=by simp [D9,hu2,knw]
  replace hu:(d=(⟨false,0,0,d.host,[],[],0,0,0,0,0,0,0⟩:Dat))=True:=eq_true hu;rw [hv];rcases Aq (Hd d.host) with e0|e0
  all_goals simp (disch:=omega) only [Ec,C6,Cr,Dl,Ch,Cs,Cd,Bs,Dn,Cw,kb,EVC,xe,EVP,EV,simprocAttr, *]
  all_goals (unfold Dk;simp [*])
 ·have hu2:decide (usd 2 d=d)=false:=decide_eq_false fun q=>hu q.symm;have hv:D9 2 d=false:=by simp [D9,hu2]
  rw [hv];simp (disch:=omega) only [Ec,C6,Cr,Dl,Ch,Cs,Cd,Bs,Dn,Cw,kb,hu,EVC,xe,EVP,EV,simprocAttr]
set_option maxHeartbeats 2000000 in
theorem Bw3 (d:Dat) (h:d.wf):S Gp 2 [.i .i64 5,d.pv]=some [.b (D9 5 d)]:=by
 refine Il (N:=1) rfl ?_;have g1:d.host.length≤9223372036854775807:=h.host;have g2:d.mail.length≤9223372036854775807:=h.mail;have g3:d.text.length≤9223372036854775807:=h.text;have kb:=D5 d.bits h.bits.1 h.bits.2;by_cases hu:d=(⟨false,0,0,d.host,[],[],0,0,0,0,0,0,0⟩:Dat)
 ·have hu2:decide (usd 5 d=d)=true:=decide_eq_true hu.symm;have hv:D9 5 d=Dk 5 d:=by simp [D9,hu2,knw]
  replace hu:(d=(⟨false,0,0,d.host,[],[],0,0,0,0,0,0,0⟩:Dat))=True:=eq_true hu;rw [hv];rcases Aq (Hd d.host) with e0|e0
  all_goals simp (disch:=omega) only [Ec,C6,Cr,Dl,Ch,Cs,Cd,Bs,Dn,Cw,kb,EVC,xe,EVP,EV,simprocAttr, *]
  all_goals (unfold Dk;simp [*])
 ·have hu2:decide (usd 5 d=d)=false:=decide_eq_false fun q=>hu q.symm;have hv:D9 5 d=false:=by simp [D9,hu2]
  rw [hv];simp (disch:=omega) only [Ec,C6,Cr,Dl,Ch,Cs,Cd,Bs,Dn,Cw,kb,hu,EVC,xe,EVP,EV,simprocAttr]
set_option maxHeartbeats 2000000 in
theorem Bw2 (d:Dat) (h:d.wf):S Gp 2 [.i .i64 6,d.pv]=some [.b (D9 6 d)]:=by
 refine Il (N:=1) rfl ?_;have g1:d.host.length≤9223372036854775807:=h.host;have g2:d.mail.length≤9223372036854775807:=h.mail;have g3:d.text.length≤9223372036854775807:=h.text;have kb:=D5 d.bits h.bits.1 h.bits.2;by_cases hu:d=(⟨false,0,0,d.host,d.mail,[],d.a,d.b,d.c,d.d,d.e,0,0⟩:Dat)
 ·have hu2:decide (usd 6 d=d)=true:=decide_eq_true hu.symm;have hv:D9 6 d=Dk 6 d:=by simp [D9,hu2,knw]
  replace hu:(d=(⟨false,0,0,d.host,d.mail,[],d.a,d.b,d.c,d.d,d.e,0,0⟩:Dat))=True:=eq_true hu;rw [hv];rcases ch7 (Hd d.host) (Hd d.mail) (inB d.a 4294967295) (inB d.b 2147483647) (inB d.c 2147483647) (inB d.d 2147483647) (inB d.e 2147483647) with e0|⟨e0,e1⟩|⟨e0,e1,e2⟩|⟨e0,e1,e2,e3⟩|⟨e0,e1,e2,e3,e4⟩|⟨e0,e1,e2,e3,e4,e5⟩|⟨e0,e1,e2,e3,e4,e5,e6⟩|⟨e0,e1,e2,e3,e4,e5,e6⟩
  all_goals simp (disch:=omega) only [Ec,C6,Cr,Dl,Ch,Cs,Cd,Bs,Dn,Cw,kb,EVC,xe,EVP,EV,simprocAttr, *]
  all_goals (unfold Dk;simp [*])
 ·have hu2:decide (usd 6 d=d)=false:=decide_eq_false fun q=>hu q.symm;have hv:D9 6 d=false:=by simp [D9,hu2]
  rw [hv];simp (disch:=omega) only [Ec,C6,Cr,Dl,Ch,Cs,Cd,Bs,Dn,Cw,kb,hu,EVC,xe,EVP,EV,simprocAttr]
set_option maxHeartbeats 2000000 in
theorem Ac1 (d:Dat) (h:d.wf):S Gp 2 [.i .i64 12,d.pv]=some [.b (D9 12 d)]:=by
 refine Il (N:=1) rfl ?_;have g1:d.host.length≤9223372036854775807:=h.host;have g2:d.mail.length≤9223372036854775807:=h.mail;have g3:d.text.length≤9223372036854775807:=h.text;have kb:=D5 d.bits h.bits.1 h.bits.2;by_cases hu:d=(⟨false,0,0,d.host,[],[],0,0,0,0,0,0,0⟩:Dat)
 ·have hu2:decide (usd 12 d=d)=true:=decide_eq_true hu.symm;have hv:D9 12 d=Dk 12 d:=by simp [D9,hu2,knw]
  replace hu:(d=(⟨false,0,0,d.host,[],[],0,0,0,0,0,0,0⟩:Dat))=True:=eq_true hu;rw [hv];rcases Aq (Hd d.host) with e0|e0
  all_goals simp (disch:=omega) only [Ec,C6,Cr,Dl,Ch,Cs,Cd,Bs,Dn,Cw,kb,EVC,xe,EVP,EV,simprocAttr, *]
  all_goals (unfold Dk;simp [*])
 ·have hu2:decide (usd 12 d=d)=false:=decide_eq_false fun q=>hu q.symm;have hv:D9 12 d=false:=by simp [D9,hu2]
  rw [hv];simp (disch:=omega) only [Ec,C6,Cr,Dl,Ch,Cs,Cd,Bs,Dn,Cw,kb,hu,EVC,xe,EVP,EV,simprocAttr]
set_option maxHeartbeats 2000000 in
theorem Ac0 (d:Dat) (h:d.wf):S Gp 2 [.i .i64 15,d.pv]=some [.b (D9 15 d)]:=by
 refine Il (N:=1) rfl ?_;have g1:d.host.length≤9223372036854775807:=h.host;have g2:d.mail.length≤9223372036854775807:=h.mail;have g3:d.text.length≤9223372036854775807:=h.text;have kb:=D5 d.bits h.bits.1 h.bits.2;by_cases hu:d=(⟨false,0,0,d.host,[],[],d.a,0,0,0,0,0,0⟩:Dat)
 ·have hu2:decide (usd 15 d=d)=true:=decide_eq_true hu.symm;have hv:D9 15 d=Dk 15 d:=by simp [D9,hu2,knw]
  replace hu:(d=(⟨false,0,0,d.host,[],[],d.a,0,0,0,0,0,0⟩:Dat))=True:=eq_true hu;rw [hv];rcases ch2 (Hd d.host) (inB d.a 65535) with e0|⟨e0,e1⟩|⟨e0,e1⟩
  all_goals simp (disch:=omega) only [Ec,C6,Cr,Dl,Ch,Cs,Cd,Bs,Dn,Cw,kb,EVC,xe,EVP,EV,simprocAttr, *]
  all_goals (unfold Dk;simp [*])
 ·have hu2:decide (usd 15 d=d)=false:=decide_eq_false fun q=>hu q.symm;have hv:D9 15 d=false:=by simp [D9,hu2]
  rw [hv];simp (disch:=omega) only [Ec,C6,Cr,Dl,Ch,Cs,Cd,Bs,Dn,Cw,kb,hu,EVC,xe,EVP,EV,simprocAttr]
set_option maxHeartbeats 2000000 in
theorem Ab9 (d:Dat) (h:d.wf):S Gp 2 [.i .i64 16,d.pv]=some [.b (D9 16 d)]:=by
 refine Il (N:=1) rfl ?_;have g1:d.host.length≤9223372036854775807:=h.host;have g2:d.mail.length≤9223372036854775807:=h.mail;have g3:d.text.length≤9223372036854775807:=h.text;have kb:=D5 d.bits h.bits.1 h.bits.2;by_cases hu:d=(⟨false,0,0,[],[],d.text,0,0,0,0,0,0,0⟩:Dat)
 ·have hu2:decide (usd 16 d=d)=true:=decide_eq_true hu.symm;have hv:D9 16 d=Dk 16 d:=by simp [D9,hu2,knw]
  replace hu:(d=(⟨false,0,0,[],[],d.text,0,0,0,0,0,0,0⟩:Dat))=True:=eq_true hu;rw [hv];simp (disch:=omega) only [Ec,C6,Cr,Dl,Ch,Cs,Cd,Bs,Dn,Cw,kb,EVC,xe,EVP,EV,simprocAttr, *];unfold Dk;simp;omega
 ·have hu2:decide (usd 16 d=d)=false:=decide_eq_false fun q=>hu q.symm;have hv:D9 16 d=false:=by simp [D9,hu2]
  rw [hv];simp (disch:=omega) only [Ec,C6,Cr,Dl,Ch,Cs,Cd,Bs,Dn,Cw,kb,hu,EVC,xe,EVP,EV,simprocAttr]
set_option maxHeartbeats 2000000 in
theorem Ab8 (d:Dat) (h:d.wf):S Gp 2 [.i .i64 28,d.pv]=some [.b (D9 28 d)]:=by
 refine Il (N:=1) rfl ?_;have g1:d.host.length≤9223372036854775807:=h.host;have g2:d.mail.length≤9223372036854775807:=h.mail;have g3:d.text.length≤9223372036854775807:=h.text;have kb:=D5 d.bits h.bits.1 h.bits.2;by_cases hu:d=(⟨d.v6,d.hi,d.lo,[],[],[],0,0,0,0,0,0,0⟩:Dat)
 ·have hu2:decide (usd 28 d=d)=true:=decide_eq_true hu.symm;have hv:D9 28 d=Dk 28 d:=by simp [D9,hu2,knw]
  replace hu:(d=(⟨d.v6,d.hi,d.lo,[],[],[],0,0,0,0,0,0,0⟩:Dat))=True:=eq_true hu;rw [hv];rcases Aq (D6 d) with e0|e0
  all_goals simp (disch:=omega) only [Ec,C6,Cr,Dl,Ch,Cs,Cd,Bs,Dn,Cw,kb,EVC,xe,EVP,EV,simprocAttr, *]
  all_goals (unfold Dk;rcases Aq d.v6 with h6|h6<;>first|(simp [h6,e0];done)|(simp [D6,h6] at e0))
 ·have hu2:decide (usd 28 d=d)=false:=decide_eq_false fun q=>hu q.symm;have hv:D9 28 d=false:=by simp [D9,hu2]
  rw [hv];simp (disch:=omega) only [Ec,C6,Cr,Dl,Ch,Cs,Cd,Bs,Dn,Cw,kb,hu,EVC,xe,EVP,EV,simprocAttr]
set_option maxHeartbeats 2000000 in
theorem Ab7 (d:Dat) (h:d.wf):S Gp 2 [.i .i64 33,d.pv]=some [.b (D9 33 d)]:=by
 refine Il (N:=1) rfl ?_;have g1:d.host.length≤9223372036854775807:=h.host;have g2:d.mail.length≤9223372036854775807:=h.mail;have g3:d.text.length≤9223372036854775807:=h.text;have kb:=D5 d.bits h.bits.1 h.bits.2;by_cases hu:d=(⟨false,0,0,d.host,[],[],d.a,d.b,d.c,0,0,0,0⟩:Dat)
 ·have hu2:decide (usd 33 d=d)=true:=decide_eq_true hu.symm;have hv:D9 33 d=Dk 33 d:=by simp [D9,hu2,knw]
  replace hu:(d=(⟨false,0,0,d.host,[],[],d.a,d.b,d.c,0,0,0,0⟩:Dat))=True:=eq_true hu;rw [hv];rcases ch4 (Hd d.host) (inB d.a 65535) (inB d.b 65535) (inB d.c 65535) with e0|⟨e0,e1⟩|⟨e0,e1,e2⟩|⟨e0,e1,e2,e3⟩|⟨e0,e1,e2,e3⟩
  all_goals simp (disch:=omega) only [Ec,C6,Cr,Dl,Ch,Cs,Cd,Bs,Dn,Cw,kb,EVC,xe,EVP,EV,simprocAttr, *]
  all_goals (unfold Dk;simp [*])
 ·have hu2:decide (usd 33 d=d)=false:=decide_eq_false fun q=>hu q.symm;have hv:D9 33 d=false:=by simp [D9,hu2]
  rw [hv];simp (disch:=omega) only [Ec,C6,Cr,Dl,Ch,Cs,Cd,Bs,Dn,Cw,kb,hu,EVC,xe,EVP,EV,simprocAttr]
set_option maxHeartbeats 2000000 in
theorem Ab6 (d:Dat) (h:d.wf):S Gp 2 [.i .i64 39,d.pv]=some [.b (D9 39 d)]:=by
 refine Il (N:=1) rfl ?_;have g1:d.host.length≤9223372036854775807:=h.host;have g2:d.mail.length≤9223372036854775807:=h.mail;have g3:d.text.length≤9223372036854775807:=h.text;have kb:=D5 d.bits h.bits.1 h.bits.2;by_cases hu:d=(⟨false,0,0,d.host,[],[],0,0,0,0,0,0,0⟩:Dat)
 ·have hu2:decide (usd 39 d=d)=true:=decide_eq_true hu.symm;have hv:D9 39 d=Dk 39 d:=by simp [D9,hu2,knw]
  replace hu:(d=(⟨false,0,0,d.host,[],[],0,0,0,0,0,0,0⟩:Dat))=True:=eq_true hu;rw [hv];rcases Aq (Hd d.host) with e0|e0
  all_goals simp (disch:=omega) only [Ec,C6,Cr,Dl,Ch,Cs,Cd,Bs,Dn,Cw,kb,EVC,xe,EVP,EV,simprocAttr, *]
  all_goals (unfold Dk;simp [*])
 ·have hu2:decide (usd 39 d=d)=false:=decide_eq_false fun q=>hu q.symm;have hv:D9 39 d=false:=by simp [D9,hu2]
  rw [hv];simp (disch:=omega) only [Ec,C6,Cr,Dl,Ch,Cs,Cd,Bs,Dn,Cw,kb,hu,EVC,xe,EVP,EV,simprocAttr]
set_option maxHeartbeats 2000000 in
theorem Ab5 (d:Dat) (h:d.wf):S Gp 2 [.i .i64 43,d.pv]=some [.b (D9 43 d)]:=by
 refine Il (N:=1) rfl ?_;have g1:d.host.length≤9223372036854775807:=h.host;have g2:d.mail.length≤9223372036854775807:=h.mail;have g3:d.text.length≤9223372036854775807:=h.text;have kb:=D5 d.bits h.bits.1 h.bits.2;by_cases hu:d=(⟨false,0,0,[],[],d.text,d.a,d.b,d.c,0,0,0,0⟩:Dat)
 ·have hu2:decide (usd 43 d=d)=true:=decide_eq_true hu.symm;have hv:D9 43 d=Dk 43 d:=by simp [D9,hu2,knw]
  replace hu:(d=(⟨false,0,0,[],[],d.text,d.a,d.b,d.c,0,0,0,0⟩:Dat))=True:=eq_true hu;rw [hv];rcases ch4 (It d.text) (inB d.a 65535) (inB d.b 255) (inB d.c 255) with e0|⟨e0,e1⟩|⟨e0,e1,e2⟩|⟨e0,e1,e2,e3⟩|⟨e0,e1,e2,e3⟩
  all_goals simp (disch:=omega) only [Ec,C6,Cr,Dl,Ch,Cs,Cd,Bs,Dn,Cw,kb,EVC,xe,EVP,EV,simprocAttr, *]
  all_goals (unfold Dk;simp [*])
 ·have hu2:decide (usd 43 d=d)=false:=decide_eq_false fun q=>hu q.symm;have hv:D9 43 d=false:=by simp [D9,hu2]
  rw [hv];simp (disch:=omega) only [Ec,C6,Cr,Dl,Ch,Cs,Cd,Bs,Dn,Cw,kb,hu,EVC,xe,EVP,EV,simprocAttr]
set_option maxHeartbeats 2000000 in
theorem Ab4 (d:Dat) (h:d.wf):S Gp 2 [.i .i64 46,d.pv]=some [.b (D9 46 d)]:=by
 refine Il (N:=1) rfl ?_;have g1:d.host.length≤9223372036854775807:=h.host;have g2:d.mail.length≤9223372036854775807:=h.mail;have g3:d.text.length≤9223372036854775807:=h.text;have kb:=D5 d.bits h.bits.1 h.bits.2;by_cases hu:d=(⟨false,0,0,d.host,[],d.text,d.a,d.b,d.c,d.d,d.e,d.f,0⟩:Dat)
 ·have hu2:decide (usd 46 d=d)=true:=decide_eq_true hu.symm;have hv:D9 46 d=Dk 46 d:=by simp [D9,hu2,knw]
  replace hu:(d=(⟨false,0,0,d.host,[],d.text,d.a,d.b,d.c,d.d,d.e,d.f,0⟩:Dat))=True:=eq_true hu;rw [hv];rcases ch9 (It d.text) (Hd d.host) (knw d.a) (decide (d.a≠46)) (inB d.b 127) (inB d.c 2147483647) (inB d.d 4294967295) (inB d.e 4294967295) (inB d.f 65535) with e0|⟨e0,e1⟩|⟨e0,e1,e2⟩|⟨e0,e1,e2,e3⟩|⟨e0,e1,e2,e3,e4⟩|⟨e0,e1,e2,e3,e4,e5⟩|⟨e0,e1,e2,e3,e4,e5,e6⟩|⟨e0,e1,e2,e3,e4,e5,e6,e7⟩|⟨e0,e1,e2,e3,e4,e5,e6,e7,e8⟩|⟨e0,e1,e2,e3,e4,e5,e6,e7,e8⟩
  all_goals simp (disch:=omega) only [Ec,C6,Cr,Dl,Ch,Cs,Cd,Bs,Dn,Cw,kb,EVC,xe,EVP,EV,simprocAttr, *]
  all_goals (unfold Dk;simp [*])
 ·have hu2:decide (usd 46 d=d)=false:=decide_eq_false fun q=>hu q.symm;have hv:D9 46 d=false:=by simp [D9,hu2]
  rw [hv];simp (disch:=omega) only [Ec,C6,Cr,Dl,Ch,Cs,Cd,Bs,Dn,Cw,kb,hu,EVC,xe,EVP,EV,simprocAttr]
set_option maxHeartbeats 2000000 in
theorem Ab3 (d:Dat) (h:d.wf):S Gp 2 [.i .i64 47,d.pv]=some [.b (D9 47 d)]:=by
 refine Il (N:=1) rfl ?_;have g1:d.host.length≤9223372036854775807:=h.host;have g2:d.mail.length≤9223372036854775807:=h.mail;have g3:d.text.length≤9223372036854775807:=h.text;have kb:=D5 d.bits h.bits.1 h.bits.2;by_cases hu:d=(⟨false,0,0,d.host,[],[],0,0,0,0,0,0,d.bits⟩:Dat)
 ·have hu2:decide (usd 47 d=d)=true:=decide_eq_true hu.symm;have hv:D9 47 d=Dk 47 d:=by simp [D9,hu2,knw]
  replace hu:(d=(⟨false,0,0,d.host,[],[],0,0,0,0,0,0,d.bits⟩:Dat))=True:=eq_true hu;rw [hv];rcases ch3 (vld d.host) (decide (d.bits≠0)) (Gf3 d.bits 0 64) with e0|⟨e0,e1⟩|⟨e0,e1,e2⟩|⟨e0,e1,e2⟩
  all_goals simp (disch:=omega) only [Ec,C6,Cr,Dl,Ch,Cs,Cd,Bs,Dn,Cw,kb,EVC,xe,EVP,EV,simprocAttr, *]
  all_goals (unfold Dk;simp [*])
 ·have hu2:decide (usd 47 d=d)=false:=decide_eq_false fun q=>hu q.symm;have hv:D9 47 d=false:=by simp [D9,hu2]
  rw [hv];simp (disch:=omega) only [Ec,C6,Cr,Dl,Ch,Cs,Cd,Bs,Dn,Cw,kb,hu,EVC,xe,EVP,EV,simprocAttr]
set_option maxHeartbeats 2000000 in
theorem Ab2 (d:Dat) (h:d.wf):S Gp 2 [.i .i64 48,d.pv]=some [.b (D9 48 d)]:=by
 refine Il (N:=1) rfl ?_;have g1:d.host.length≤9223372036854775807:=h.host;have g2:d.mail.length≤9223372036854775807:=h.mail;have g3:d.text.length≤9223372036854775807:=h.text;have kb:=D5 d.bits h.bits.1 h.bits.2;by_cases hu:d=(⟨false,0,0,[],[],d.text,d.a,d.b,d.c,0,0,0,0⟩:Dat)
 ·have hu2:decide (usd 48 d=d)=true:=decide_eq_true hu.symm;have hv:D9 48 d=Dk 48 d:=by simp [D9,hu2,knw]
  replace hu:(d=(⟨false,0,0,[],[],d.text,d.a,d.b,d.c,0,0,0,0⟩:Dat))=True:=eq_true hu;rw [hv];rcases ch4 (It d.text) ((decide (d.a=256)||decide (d.a=257))) (decide (d.b=3)) (inB d.c 255) with e0|⟨e0,e1⟩|⟨e0,e1,e2⟩|⟨e0,e1,e2,e3⟩|⟨e0,e1,e2,e3⟩
  all_goals simp (disch:=omega) only [Ec,C6,Cr,Dl,Ch,Cs,Cd,Bs,Dn,Cw,kb,EVC,xe,EVP,EV,simprocAttr, *]
  all_goals (unfold Dk;simp [*])
 ·have hu2:decide (usd 48 d=d)=false:=decide_eq_false fun q=>hu q.symm;have hv:D9 48 d=false:=by simp [D9,hu2]
  rw [hv];simp (disch:=omega) only [Ec,C6,Cr,Dl,Ch,Cs,Cd,Bs,Dn,Cw,kb,hu,EVC,xe,EVP,EV,simprocAttr]
theorem T5 (t:Int) (d:Dat) (h:d.wf):S Gp 2 [.i .i64 t,d.pv]=some [.b (D9 t d)]:=by
 rcases t15 t with rfl|rfl|rfl|rfl|rfl|rfl|rfl|rfl|rfl|rfl|rfl|rfl|rfl|rfl|⟨h0,h1,h2,h3,h4,h5,h6,h7,h8,h9,h10,h11,h12,h13⟩
 ·exact Bw5 d h
 ·exact Bw4 d h
 ·exact Bw3 d h
 ·exact Bw2 d h
 ·exact Ac1 d h
 ·exact Ac0 d h
 ·exact Ab9 d h
 ·exact Ab8 d h
 ·exact Ab7 d h
 ·exact Ab6 d h
 ·exact Ab5 d h
 ·exact Ab4 d h
 ·exact Ab3 d h
 ·exact Ab2 d h
 ·refine Il (N:=1) rfl ?_;have hv:D9 t d=false:=by simp [D9,knw, *]
  rw [hv];simp (disch:=omega) only [Ec,EVC,xe,EVP,EV,simprocAttr, *]
end Go.X.G
/- Data of records in the program: their bytes. -/
namespace Go.X.G
open Go Go.X
def Ov (d:Dat):Nat→Int
 |0=>d.a
 |1=>d.b
 |2=>d.c
 |3=>d.d
 |4=>d.e
 |_=>d.f
theorem Dt1 (d:Dat):S Gb 2 [.pt d.cells, .i .u8 65]=some [.pt (d.cells.drop 6), .i .i64 2]:=Hb (N:=1) rfl (by kernel_rfl)
theorem Dt0 (d:Dat):S Gb 2 [.pt d.cells, .i .u8 66]=some [.pt (d.cells.drop 7), .i .i64 2]:=Hb (N:=1) rfl (by kernel_rfl)
theorem Ds9 (d:Dat):S Gb 2 [.pt d.cells, .i .u8 67]=some [.pt (d.cells.drop 8), .i .i64 2]:=Hb (N:=1) rfl (by kernel_rfl)
theorem Ds8 (d:Dat):S Gb 2 [.pt d.cells, .i .u8 68]=some [.pt (d.cells.drop 9), .i .i64 2]:=Hb (N:=1) rfl (by kernel_rfl)
theorem Ds7 (d:Dat):S Gb 2 [.pt d.cells, .i .u8 69]=some [.pt (d.cells.drop 10), .i .i64 2]:=Hb (N:=1) rfl (by kernel_rfl)
theorem Ds6 (d:Dat):S Gb 2 [.pt d.cells, .i .u8 70]=some [.pt (d.cells.drop 11), .i .i64 2]:=Hb (N:=1) rfl (by kernel_rfl)
theorem Ds5 (d:Dat):S Gb 2 [.pt d.cells, .i .u8 97]=some [.pt (d.cells.drop 6), .i .i64 1]:=Hb (N:=1) rfl (by kernel_rfl)
theorem Ds4 (d:Dat):S Gb 2 [.pt d.cells, .i .u8 98]=some [.pt (d.cells.drop 7), .i .i64 1]:=Hb (N:=1) rfl (by kernel_rfl)
theorem Ds3 (d:Dat):S Gb 2 [.pt d.cells, .i .u8 99]=some [.pt (d.cells.drop 8), .i .i64 1]:=Hb (N:=1) rfl (by kernel_rfl)
theorem Bf8 (d:Dat):S Gb 2 [.pt d.cells, .i .u8 100]=some [.pt (d.cells.drop 9), .i .i64 1]:=Hb (N:=1) rfl (by kernel_rfl)
theorem Bf7 (d:Dat):S Gb 2 [.pt d.cells, .i .u8 101]=some [.pt (d.cells.drop 10), .i .i64 1]:=Hb (N:=1) rfl (by kernel_rfl)
theorem Bf6 (d:Dat):S Gb 2 [.pt d.cells, .i .u8 102]=some [.pt (d.cells.drop 11), .i .i64 1]:=Hb (N:=1) rfl (by kernel_rfl)
theorem Bf5 (d:Dat):S Gb 2 [.pt d.cells, .i .u8 118]=some [.pt (d.cells.drop 6), .i .i64 4]:=Hb (N:=1) rfl (by kernel_rfl)
theorem Bf4 (d:Dat):S Gb 2 [.pt d.cells, .i .u8 119]=some [.pt (d.cells.drop 7), .i .i64 4]:=Hb (N:=1) rfl (by kernel_rfl)
theorem Bf3 (d:Dat):S Gb 2 [.pt d.cells, .i .u8 120]=some [.pt (d.cells.drop 8), .i .i64 4]:=Hb (N:=1) rfl (by kernel_rfl)
theorem Bf2 (d:Dat):S Gb 2 [.pt d.cells, .i .u8 121]=some [.pt (d.cells.drop 9), .i .i64 4]:=Hb (N:=1) rfl (by kernel_rfl)
theorem Bf1 (d:Dat):S Gb 2 [.pt d.cells, .i .u8 122]=some [.pt (d.cells.drop 10), .i .i64 4]:=Hb (N:=1) rfl (by kernel_rfl)
def E9 (d:Dat) (c:UInt8):List UInt8:=
 if c=104 then If d.host else if c=109 then If d.mail else if c=52∨c=54 then (if D6 d=true then P3 d else [])
 else if c=116 then be (d.text.length:Int) 1++d.text else if c=114 then d.text else if c=115 then [253]
 else if c=110 then [0]++be ((bmap d.bits).length:Int) 1++bmap d.bits
 else if 65≤c∧c≤70 then be (Ov d (c.toNat - 65)) 2 else if 97≤c∧c≤102 then be (Ov d (c.toNat - 97)) 1 else be (Ov d (c.toNat - 118)) 4
structure NumsOk (x:Dat):Prop where
 a:0≤x.a
 b:0≤x.b
 c:0≤x.c
 d:0≤x.d
 e:0≤x.e
 f:0≤x.f
 text:x.text.length≤255
theorem Fl (v:Bool) (h l:Int) (s1 s2 s3:List UInt8) (a b c d e f g:Int):Ah9 0 (.a [.b v, .i .u64 h, .i .u64 l, .s s1, .s s2, .s s3, .i .i64 a, .i .i64 b, .i .i64 c, .i .i64 d, .i .i64 e, .i .i64 f, .i .u64 g])=some (.pt (Dat.cells ⟨v,h,l,s1,s2,s3,a,b,c,d,e,f,g⟩)):=rfl
theorem Ed (x:Dat):Ah9 0 x.pv=some (.pt x.cells):=rfl
theorem scal_pt (cs:List PV):Ih (.pt cs)=some (.pt cs):=rfl
theorem der_pt (cs:List PV):Am5 (.pt cs)=some (.a cs):=rfl
theorem Ih3 (d:Dat):(d.cells.drop 6)[0]? =some (.i .i64 d.a):=rfl
theorem Ih2 (d:Dat):(d.cells.drop 7)[0]? =some (.i .i64 d.b):=rfl
theorem Ih1 (d:Dat):(d.cells.drop 8)[0]? =some (.i .i64 d.c):=rfl
theorem Ih0 (d:Dat):(d.cells.drop 9)[0]? =some (.i .i64 d.d):=rfl
theorem Fp2 (d:Dat):(d.cells.drop 10)[0]? =some (.i .i64 d.e):=rfl
theorem Hy3 (d:Dat):(d.cells.drop 11)[0]? =some (.i .i64 d.f):=rfl
theorem Dq (d:Dat) (hd:NumsOk d) (c:UInt8):(E9 d c).length≤20300:=by
 have g1:=Zj d.host;have g2:=Zj d.mail;have g3:=Aw7 d.bits;have g4:=hd.text;have g5:(P3 d).length≤16:=by unfold P3;split<;>simp [Ez]
 unfold E9
 repeat' split
 all_goals (try simp only [Ac,Ez,A6,Bd])
 all_goals omega
theorem Gn7 (t:Int) (d:Dat) (hw:d.wf) (hd:NumsOk d) (k:Kd) (out:List UInt8) (i:Nat) (hk:k.fls[i]? =some 104) (hl:k.fls.length≤20) (ho:out.length≤21000*i) (p4:PV) (N:Nat):
  Dm.ev S N [.i .i64 t,d.pv,k.pv, .b true,p4, .s out, .i .i64 (i:Int)]=some (.yld 1 [.s (out++E9 d 104), .i .i64 ((i:Int)+1)]):=by
 have g1:d.host.length≤9223372036854775807:=hw.host;have g2:d.mail.length≤9223372036854775807:=hw.mail;have g4:=hd.text;have hi:=(Av.1 hk).1;have hlt:(i:Int)<(k.fls.length:Int):=by omega
 have ei:(i:Int).toNat=i:=by omega
 have hn:(((104:UInt8).toNat:Nat):Int)=104:=rfl;have hlen:=Dq d hd 104;have i20:i≤20:=by omega
 have e:E9 d 104=If d.host:=rfl;rw [e] at hlen ⊢;have h:=uy d.host g1;simp (disch:=omega) only [Ek,Cm,hlt,ei,hk,hn,h,EVC,xe,EVP,EV,simprocAttr]
theorem Gn6 (t:Int) (d:Dat) (hw:d.wf) (hd:NumsOk d) (k:Kd) (out:List UInt8) (i:Nat) (hk:k.fls[i]? =some 109) (hl:k.fls.length≤20) (ho:out.length≤21000*i) (p4:PV) (N:Nat):
  Dm.ev S N [.i .i64 t,d.pv,k.pv, .b true,p4, .s out, .i .i64 (i:Int)]=some (.yld 1 [.s (out++E9 d 109), .i .i64 ((i:Int)+1)]):=by
 have g1:d.host.length≤9223372036854775807:=hw.host;have g2:d.mail.length≤9223372036854775807:=hw.mail;have g4:=hd.text;have hi:=(Av.1 hk).1;have hlt:(i:Int)<(k.fls.length:Int):=by omega
 have ei:(i:Int).toNat=i:=by omega
 have hn:(((109:UInt8).toNat:Nat):Int)=109:=rfl;have hlen:=Dq d hd 109;have i20:i≤20:=by omega
 have e:E9 d 109=If d.mail:=rfl;rw [e] at hlen ⊢;have h:=uy d.mail g2;simp (disch:=omega) only [Ek,Cm,hlt,ei,hk,hn,h,EVC,xe,EVP,EV,simprocAttr]
theorem Iy5 (t:Int) (d:Dat) (hw:d.wf) (hd:NumsOk d) (k:Kd) (out:List UInt8) (i:Nat) (hk:k.fls[i]? =some 52) (hl:k.fls.length≤20) (ho:out.length≤21000*i) (p4:PV) (N:Nat):
  Dm.ev S N [.i .i64 t,d.pv,k.pv, .b true,p4, .s out, .i .i64 (i:Int)]=some (.yld 1 [.s (out++E9 d 52), .i .i64 ((i:Int)+1)]):=by
 have g1:d.host.length≤9223372036854775807:=hw.host;have g2:d.mail.length≤9223372036854775807:=hw.mail;have g4:=hd.text;have hi:=(Av.1 hk).1;have hlt:(i:Int)<(k.fls.length:Int):=by omega
 have ei:(i:Int).toNat=i:=by omega
 have hn:(((52:UInt8).toNat:Nat):Int)=52:=rfl;have hlen:=Dq d hd 52;have i20:i≤20:=by omega
 have e:E9 d 52=if D6 d=true then P3 d else []:=rfl
 rw [e] at hlen ⊢;have h:=Ax8 d hw;rcases Aq (D6 d) with h4|h4
 ·rw [h4,if_pos rfl] at h hlen ⊢;simp (disch:=omega) only [Ek,Cm,hlt,ei,hk,hn,h,EVC,xe,EVP,EV,simprocAttr]
 ·rw [h4,if_neg (by simp)] at h hlen ⊢;simp (disch:=omega) only [Ek,Cm,hlt,ei,hk,hn,h,EVC,xe,EVP,EV,simprocAttr]
theorem Iy4 (t:Int) (d:Dat) (hw:d.wf) (hd:NumsOk d) (k:Kd) (out:List UInt8) (i:Nat) (hk:k.fls[i]? =some 54) (hl:k.fls.length≤20) (ho:out.length≤21000*i) (p4:PV) (N:Nat):
  Dm.ev S N [.i .i64 t,d.pv,k.pv, .b true,p4, .s out, .i .i64 (i:Int)]=some (.yld 1 [.s (out++E9 d 54), .i .i64 ((i:Int)+1)]):=by
 have g1:d.host.length≤9223372036854775807:=hw.host;have g2:d.mail.length≤9223372036854775807:=hw.mail;have g4:=hd.text;have hi:=(Av.1 hk).1;have hlt:(i:Int)<(k.fls.length:Int):=by omega
 have ei:(i:Int).toNat=i:=by omega
 have hn:(((54:UInt8).toNat:Nat):Int)=54:=rfl;have hlen:=Dq d hd 54;have i20:i≤20:=by omega
 have e:E9 d 54=if D6 d=true then P3 d else []:=rfl
 rw [e] at hlen ⊢;have h:=Ax8 d hw;rcases Aq (D6 d) with h4|h4
 ·rw [h4,if_pos rfl] at h hlen ⊢;simp (disch:=omega) only [Ek,Cm,hlt,ei,hk,hn,h,EVC,xe,EVP,EV,simprocAttr]
 ·rw [h4,if_neg (by simp)] at h hlen ⊢;simp (disch:=omega) only [Ek,Cm,hlt,ei,hk,hn,h,EVC,xe,EVP,EV,simprocAttr]
theorem Gn2 (t:Int) (d:Dat) (hw:d.wf) (hd:NumsOk d) (k:Kd) (out:List UInt8) (i:Nat) (hk:k.fls[i]? =some 116) (hl:k.fls.length≤20) (ho:out.length≤21000*i) (p4:PV) (N:Nat):
  Dm.ev S N [.i .i64 t,d.pv,k.pv, .b true,p4, .s out, .i .i64 (i:Int)]=some (.yld 1 [.s (out++E9 d 116), .i .i64 ((i:Int)+1)]):=by
 have g1:d.host.length≤9223372036854775807:=hw.host;have g2:d.mail.length≤9223372036854775807:=hw.mail;have g4:=hd.text;have hi:=(Av.1 hk).1;have hlt:(i:Int)<(k.fls.length:Int):=by omega
 have ei:(i:Int).toNat=i:=by omega
 have hn:(((116:UInt8).toNat:Nat):Int)=116:=rfl;have hlen:=Dq d hd 116;have i20:i≤20:=by omega
 have e0:((d.text.length:Int) / 256 ^ 0 % 256).toNat=d.text.length:=by rw [Int.pow_zero,Int.ediv_one];omega
 have e1:be (d.text.length:Int) 1=[UInt8.ofNat d.text.length]:=by show [UInt8.ofNat ((d.text.length:Int) / 256 ^ 0 % 256).toNat]=_;rw [e0]
 have e:E9 d 116=[UInt8.ofNat d.text.length]++d.text:=by rw [←e1];rfl
 rw [e] at hlen ⊢;have e3:Cy [UInt8.ofNat d.text.length]=[.i .u8 (d.text.length:Int)]:=by simp [Cy];omega
 have e4:=Lz [UInt8.ofNat d.text.length];rw [e3] at e4;have e5:(d.text.length:Int) % 256=(d.text.length:Int):=by omega
 have hl3:([UInt8.ofNat d.text.length]:List UInt8).length=1:=rfl;rw [Ac,hl3] at hlen;generalize ([UInt8.ofNat d.text.length]:List UInt8)=b at*;have hab:(b++d.text).length≤20300:=by rw [Ac];omega
 simp (disch:=omega) only [Ek,Cm,hlt,ei,hk,hn,Oz,e5,e4,EVC,xe,EVP,EV,simprocAttr]
theorem Gn4 (t:Int) (d:Dat) (hw:d.wf) (hd:NumsOk d) (k:Kd) (out:List UInt8) (i:Nat) (hk:k.fls[i]? =some 114) (hl:k.fls.length≤20) (ho:out.length≤21000*i) (p4:PV) (N:Nat):
  Dm.ev S N [.i .i64 t,d.pv,k.pv, .b true,p4, .s out, .i .i64 (i:Int)]=some (.yld 1 [.s (out++E9 d 114), .i .i64 ((i:Int)+1)]):=by
 have g1:d.host.length≤9223372036854775807:=hw.host;have g2:d.mail.length≤9223372036854775807:=hw.mail;have g4:=hd.text;have hi:=(Av.1 hk).1;have hlt:(i:Int)<(k.fls.length:Int):=by omega
 have ei:(i:Int).toNat=i:=by omega
 have hn:(((114:UInt8).toNat:Nat):Int)=114:=rfl;have hlen:=Dq d hd 114;have i20:i≤20:=by omega
 have e:E9 d 114=d.text:=rfl;rw [e] at hlen ⊢;simp (disch:=omega) only [Ek,Cm,hlt,ei,hk,hn,EVC,xe,EVP,EV,simprocAttr]
theorem Gn3 (t:Int) (d:Dat) (hw:d.wf) (hd:NumsOk d) (k:Kd) (out:List UInt8) (i:Nat) (hk:k.fls[i]? =some 115) (hl:k.fls.length≤20) (ho:out.length≤21000*i) (p4:PV) (N:Nat):
  Dm.ev S N [.i .i64 t,d.pv,k.pv, .b true,p4, .s out, .i .i64 (i:Int)]=some (.yld 1 [.s (out++E9 d 115), .i .i64 ((i:Int)+1)]):=by
 have g1:d.host.length≤9223372036854775807:=hw.host;have g2:d.mail.length≤9223372036854775807:=hw.mail;have g4:=hd.text;have hi:=(Av.1 hk).1;have hlt:(i:Int)<(k.fls.length:Int):=by omega
 have ei:(i:Int).toNat=i:=by omega
 have hn:(((115:UInt8).toNat:Nat):Int)=115:=rfl;have hlen:=Dq d hd 115;have i20:i≤20:=by omega
 have e:E9 d 115=[253]:=rfl;rw [e] at hlen ⊢;simp (disch:=first|omega|(simp only [A6,Bd];omega)) only [Ek,Cm,hlt,ei,hk,hn,EVC,xe,EVP,EV,simprocAttr]
theorem Gn5 (t:Int) (d:Dat) (hw:d.wf) (hd:NumsOk d) (k:Kd) (out:List UInt8) (i:Nat) (hk:k.fls[i]? =some 110) (hl:k.fls.length≤20) (ho:out.length≤21000*i) (p4:PV) (N:Nat):
  Dm.ev S N [.i .i64 t,d.pv,k.pv, .b true,p4, .s out, .i .i64 (i:Int)]=some (.yld 1 [.s (out++E9 d 110), .i .i64 ((i:Int)+1)]):=by
 have g1:d.host.length≤9223372036854775807:=hw.host;have g2:d.mail.length≤9223372036854775807:=hw.mail;have g4:=hd.text;have hi:=(Av.1 hk).1;have hlt:(i:Int)<(k.fls.length:Int):=by omega
 have ei:(i:Int).toNat=i:=by omega
 have hn:(((110:UInt8).toNat:Nat):Int)=110:=rfl;have hlen:=Dq d hd 110;have i20:i≤20:=by omega
 have gb:=Aw7 d.bits;have e0:(((bmap d.bits).length:Int) / 256 ^ 0 % 256).toNat=(bmap d.bits).length:=by rw [Int.pow_zero,Int.ediv_one];omega
 have e1:be ((bmap d.bits).length:Int) 1=[UInt8.ofNat (bmap d.bits).length]:=by show [UInt8.ofNat (((bmap d.bits).length:Int) / 256 ^ 0 % 256).toNat]=_;rw [e0]
 have e:E9 d 110=[0]++[UInt8.ofNat (bmap d.bits).length]++bmap d.bits:=by rw [←e1];rfl
 rw [e] at hlen ⊢;have e3:Cy [UInt8.ofNat (bmap d.bits).length]=[.i .u8 ((bmap d.bits).length:Int)]:=by simp [Cy];omega
 have e4:=Lz [UInt8.ofNat (bmap d.bits).length];rw [e3] at e4;have e5:((bmap d.bits).length:Int) % 256=((bmap d.bits).length:Int):=by omega
 have hl3:([UInt8.ofNat (bmap d.bits).length]:List UInt8).length=1:=rfl;have h:=An4 d.bits;generalize ([UInt8.ofNat (bmap d.bits).length]:List UInt8)=b at*;generalize bmap d.bits=bm at*;simp (disch:=first|omega|(simp only [A6,Bd,Ac];omega)) only [Ek,Cm,hlt,ei,hk,hn,h,Oz,e5,e4,EVC,xe,EVP,EV,simprocAttr]
theorem Iy3 (t:Int) (d:Dat) (hw:d.wf) (hd:NumsOk d) (k:Kd) (out:List UInt8) (i:Nat) (hk:k.fls[i]? =some 65) (hl:k.fls.length≤20) (ho:out.length≤21000*i) (p4:PV) (N:Nat):
  Dm.ev S N [.i .i64 t,d.pv,k.pv, .b true,p4, .s out, .i .i64 (i:Int)]=some (.yld 1 [.s (out++E9 d 65), .i .i64 ((i:Int)+1)]):=by
 have g1:d.host.length≤9223372036854775807:=hw.host;have g2:d.mail.length≤9223372036854775807:=hw.mail;have g4:=hd.text;have hi:=(Av.1 hk).1;have hlt:(i:Int)<(k.fls.length:Int):=by omega
 have ei:(i:Int).toNat=i:=by omega
 have hn:(((65:UInt8).toNat:Nat):Int)=65:=rfl;have hlen:=Dq d hd 65;have i20:i≤20:=by omega
 have e:E9 d 65=be d.a 2:=by simp [E9,Ov]
 rw [e] at hlen ⊢;have h:=Dt1 d;have h2:S F6 2 [.i .i64 d.a, .i .i64 2]=some [.s (be d.a 2)]:=D4 d.a 2 (by omega) hd.a hw.a.2;have hb:=Ez d.a 2;simp (disch:=omega) only [Ek,Cm,hlt,ei,hk,hn,Hl,Hm,Fl,Ed,E3,scal_pt,der_pt,Ih3,h,h2,EVC,xe,EVP,EV,simprocAttr]
theorem Iy2 (t:Int) (d:Dat) (hw:d.wf) (hd:NumsOk d) (k:Kd) (out:List UInt8) (i:Nat) (hk:k.fls[i]? =some 66) (hl:k.fls.length≤20) (ho:out.length≤21000*i) (p4:PV) (N:Nat):
  Dm.ev S N [.i .i64 t,d.pv,k.pv, .b true,p4, .s out, .i .i64 (i:Int)]=some (.yld 1 [.s (out++E9 d 66), .i .i64 ((i:Int)+1)]):=by
 have g1:d.host.length≤9223372036854775807:=hw.host;have g2:d.mail.length≤9223372036854775807:=hw.mail;have g4:=hd.text;have hi:=(Av.1 hk).1;have hlt:(i:Int)<(k.fls.length:Int):=by omega
 have ei:(i:Int).toNat=i:=by omega
 have hn:(((66:UInt8).toNat:Nat):Int)=66:=rfl;have hlen:=Dq d hd 66;have i20:i≤20:=by omega
 have e:E9 d 66=be d.b 2:=by simp [E9,Ov]
 rw [e] at hlen ⊢;have h:=Dt0 d;have h2:S F6 2 [.i .i64 d.b, .i .i64 2]=some [.s (be d.b 2)]:=D4 d.b 2 (by omega) hd.b hw.b.2;have hb:=Ez d.b 2;simp (disch:=omega) only [Ek,Cm,hlt,ei,hk,hn,Hl,Hm,Fl,Ed,E3,scal_pt,der_pt,Ih2,h,h2,EVC,xe,EVP,EV,simprocAttr]
theorem Iy1 (t:Int) (d:Dat) (hw:d.wf) (hd:NumsOk d) (k:Kd) (out:List UInt8) (i:Nat) (hk:k.fls[i]? =some 67) (hl:k.fls.length≤20) (ho:out.length≤21000*i) (p4:PV) (N:Nat):
  Dm.ev S N [.i .i64 t,d.pv,k.pv, .b true,p4, .s out, .i .i64 (i:Int)]=some (.yld 1 [.s (out++E9 d 67), .i .i64 ((i:Int)+1)]):=by
 have g1:d.host.length≤9223372036854775807:=hw.host;have g2:d.mail.length≤9223372036854775807:=hw.mail;have g4:=hd.text;have hi:=(Av.1 hk).1;have hlt:(i:Int)<(k.fls.length:Int):=by omega
 have ei:(i:Int).toNat=i:=by omega
 have hn:(((67:UInt8).toNat:Nat):Int)=67:=rfl;have hlen:=Dq d hd 67;have i20:i≤20:=by omega
 have e:E9 d 67=be d.c 2:=by simp [E9,Ov]
 rw [e] at hlen ⊢;have h:=Ds9 d;have h2:S F6 2 [.i .i64 d.c, .i .i64 2]=some [.s (be d.c 2)]:=D4 d.c 2 (by omega) hd.c hw.c.2;have hb:=Ez d.c 2;simp (disch:=omega) only [Ek,Cm,hlt,ei,hk,hn,Hl,Hm,Fl,Ed,E3,scal_pt,der_pt,Ih1,h,h2,EVC,xe,EVP,EV,simprocAttr]
theorem Iy0 (t:Int) (d:Dat) (hw:d.wf) (hd:NumsOk d) (k:Kd) (out:List UInt8) (i:Nat) (hk:k.fls[i]? =some 68) (hl:k.fls.length≤20) (ho:out.length≤21000*i) (p4:PV) (N:Nat):
  Dm.ev S N [.i .i64 t,d.pv,k.pv, .b true,p4, .s out, .i .i64 (i:Int)]=some (.yld 1 [.s (out++E9 d 68), .i .i64 ((i:Int)+1)]):=by
 have g1:d.host.length≤9223372036854775807:=hw.host;have g2:d.mail.length≤9223372036854775807:=hw.mail;have g4:=hd.text;have hi:=(Av.1 hk).1;have hlt:(i:Int)<(k.fls.length:Int):=by omega
 have ei:(i:Int).toNat=i:=by omega
 have hn:(((68:UInt8).toNat:Nat):Int)=68:=rfl;have hlen:=Dq d hd 68;have i20:i≤20:=by omega
 have e:E9 d 68=be d.d 2:=by simp [E9,Ov]
 rw [e] at hlen ⊢;have h:=Ds8 d;have h2:S F6 2 [.i .i64 d.d, .i .i64 2]=some [.s (be d.d 2)]:=D4 d.d 2 (by omega) hd.d hw.d.2;have hb:=Ez d.d 2;simp (disch:=omega) only [Ek,Cm,hlt,ei,hk,hn,Hl,Hm,Fl,Ed,E3,scal_pt,der_pt,Ih0,h,h2,EVC,xe,EVP,EV,simprocAttr]
theorem Ix9 (t:Int) (d:Dat) (hw:d.wf) (hd:NumsOk d) (k:Kd) (out:List UInt8) (i:Nat) (hk:k.fls[i]? =some 69) (hl:k.fls.length≤20) (ho:out.length≤21000*i) (p4:PV) (N:Nat):
  Dm.ev S N [.i .i64 t,d.pv,k.pv, .b true,p4, .s out, .i .i64 (i:Int)]=some (.yld 1 [.s (out++E9 d 69), .i .i64 ((i:Int)+1)]):=by
 have g1:d.host.length≤9223372036854775807:=hw.host;have g2:d.mail.length≤9223372036854775807:=hw.mail;have g4:=hd.text;have hi:=(Av.1 hk).1;have hlt:(i:Int)<(k.fls.length:Int):=by omega
 have ei:(i:Int).toNat=i:=by omega
 have hn:(((69:UInt8).toNat:Nat):Int)=69:=rfl;have hlen:=Dq d hd 69;have i20:i≤20:=by omega
 have e:E9 d 69=be d.e 2:=by simp [E9,Ov]
 rw [e] at hlen ⊢;have h:=Ds7 d;have h2:S F6 2 [.i .i64 d.e, .i .i64 2]=some [.s (be d.e 2)]:=D4 d.e 2 (by omega) hd.e hw.e.2;have hb:=Ez d.e 2;simp (disch:=omega) only [Ek,Cm,hlt,ei,hk,hn,Hl,Hm,Fl,Ed,E3,scal_pt,der_pt,Fp2,h,h2,EVC,xe,EVP,EV,simprocAttr]
theorem Ix8 (t:Int) (d:Dat) (hw:d.wf) (hd:NumsOk d) (k:Kd) (out:List UInt8) (i:Nat) (hk:k.fls[i]? =some 70) (hl:k.fls.length≤20) (ho:out.length≤21000*i) (p4:PV) (N:Nat):
  Dm.ev S N [.i .i64 t,d.pv,k.pv, .b true,p4, .s out, .i .i64 (i:Int)]=some (.yld 1 [.s (out++E9 d 70), .i .i64 ((i:Int)+1)]):=by
 have g1:d.host.length≤9223372036854775807:=hw.host;have g2:d.mail.length≤9223372036854775807:=hw.mail;have g4:=hd.text;have hi:=(Av.1 hk).1;have hlt:(i:Int)<(k.fls.length:Int):=by omega
 have ei:(i:Int).toNat=i:=by omega
 have hn:(((70:UInt8).toNat:Nat):Int)=70:=rfl;have hlen:=Dq d hd 70;have i20:i≤20:=by omega
 have e:E9 d 70=be d.f 2:=by simp [E9,Ov]
 rw [e] at hlen ⊢;have h:=Ds6 d;have h2:S F6 2 [.i .i64 d.f, .i .i64 2]=some [.s (be d.f 2)]:=D4 d.f 2 (by omega) hd.f hw.f.2;have hb:=Ez d.f 2;simp (disch:=omega) only [Ek,Cm,hlt,ei,hk,hn,Hl,Hm,Fl,Ed,E3,scal_pt,der_pt,Hy3,h,h2,EVC,xe,EVP,EV,simprocAttr]
theorem Ix7 (t:Int) (d:Dat) (hw:d.wf) (hd:NumsOk d) (k:Kd) (out:List UInt8) (i:Nat) (hk:k.fls[i]? =some 97) (hl:k.fls.length≤20) (ho:out.length≤21000*i) (p4:PV) (N:Nat):
  Dm.ev S N [.i .i64 t,d.pv,k.pv, .b true,p4, .s out, .i .i64 (i:Int)]=some (.yld 1 [.s (out++E9 d 97), .i .i64 ((i:Int)+1)]):=by
 have g1:d.host.length≤9223372036854775807:=hw.host;have g2:d.mail.length≤9223372036854775807:=hw.mail;have g4:=hd.text;have hi:=(Av.1 hk).1;have hlt:(i:Int)<(k.fls.length:Int):=by omega
 have ei:(i:Int).toNat=i:=by omega
 have hn:(((97:UInt8).toNat:Nat):Int)=97:=rfl;have hlen:=Dq d hd 97;have i20:i≤20:=by omega
 have e:E9 d 97=be d.a 1:=by simp [E9,Ov]
 rw [e] at hlen ⊢;have h:=Ds5 d;have h2:S F6 2 [.i .i64 d.a, .i .i64 1]=some [.s (be d.a 1)]:=D4 d.a 1 (by omega) hd.a hw.a.2;have hb:=Ez d.a 1;simp (disch:=omega) only [Ek,Cm,hlt,ei,hk,hn,Hl,Hm,Fl,Ed,E3,scal_pt,der_pt,Ih3,h,h2,EVC,xe,EVP,EV,simprocAttr]
theorem Ix6 (t:Int) (d:Dat) (hw:d.wf) (hd:NumsOk d) (k:Kd) (out:List UInt8) (i:Nat) (hk:k.fls[i]? =some 98) (hl:k.fls.length≤20) (ho:out.length≤21000*i) (p4:PV) (N:Nat):
  Dm.ev S N [.i .i64 t,d.pv,k.pv, .b true,p4, .s out, .i .i64 (i:Int)]=some (.yld 1 [.s (out++E9 d 98), .i .i64 ((i:Int)+1)]):=by
 have g1:d.host.length≤9223372036854775807:=hw.host;have g2:d.mail.length≤9223372036854775807:=hw.mail;have g4:=hd.text;have hi:=(Av.1 hk).1;have hlt:(i:Int)<(k.fls.length:Int):=by omega
 have ei:(i:Int).toNat=i:=by omega
 have hn:(((98:UInt8).toNat:Nat):Int)=98:=rfl;have hlen:=Dq d hd 98;have i20:i≤20:=by omega
 have e:E9 d 98=be d.b 1:=by simp [E9,Ov]
 rw [e] at hlen ⊢;have h:=Ds4 d;have h2:S F6 2 [.i .i64 d.b, .i .i64 1]=some [.s (be d.b 1)]:=D4 d.b 1 (by omega) hd.b hw.b.2;have hb:=Ez d.b 1;simp (disch:=omega) only [Ek,Cm,hlt,ei,hk,hn,Hl,Hm,Fl,Ed,E3,scal_pt,der_pt,Ih2,h,h2,EVC,xe,EVP,EV,simprocAttr]
theorem Ix5 (t:Int) (d:Dat) (hw:d.wf) (hd:NumsOk d) (k:Kd) (out:List UInt8) (i:Nat) (hk:k.fls[i]? =some 99) (hl:k.fls.length≤20) (ho:out.length≤21000*i) (p4:PV) (N:Nat):
  Dm.ev S N [.i .i64 t,d.pv,k.pv, .b true,p4, .s out, .i .i64 (i:Int)]=some (.yld 1 [.s (out++E9 d 99), .i .i64 ((i:Int)+1)]):=by
 have g1:d.host.length≤9223372036854775807:=hw.host;have g2:d.mail.length≤9223372036854775807:=hw.mail;have g4:=hd.text;have hi:=(Av.1 hk).1;have hlt:(i:Int)<(k.fls.length:Int):=by omega
 have ei:(i:Int).toNat=i:=by omega
 have hn:(((99:UInt8).toNat:Nat):Int)=99:=rfl;have hlen:=Dq d hd 99;have i20:i≤20:=by omega
 have e:E9 d 99=be d.c 1:=by simp [E9,Ov]
 rw [e] at hlen ⊢;have h:=Ds3 d;have h2:S F6 2 [.i .i64 d.c, .i .i64 1]=some [.s (be d.c 1)]:=D4 d.c 1 (by omega) hd.c hw.c.2;have hb:=Ez d.c 1;simp (disch:=omega) only [Ek,Cm,hlt,ei,hk,hn,Hl,Hm,Fl,Ed,E3,scal_pt,der_pt,Ih1,h,h2,EVC,xe,EVP,EV,simprocAttr]
theorem Gp0 (t:Int) (d:Dat) (hw:d.wf) (hd:NumsOk d) (k:Kd) (out:List UInt8) (i:Nat) (hk:k.fls[i]? =some 100) (hl:k.fls.length≤20) (ho:out.length≤21000*i) (p4:PV) (N:Nat):
  Dm.ev S N [.i .i64 t,d.pv,k.pv, .b true,p4, .s out, .i .i64 (i:Int)]=some (.yld 1 [.s (out++E9 d 100), .i .i64 ((i:Int)+1)]):=by
 have g1:d.host.length≤9223372036854775807:=hw.host;have g2:d.mail.length≤9223372036854775807:=hw.mail;have g4:=hd.text;have hi:=(Av.1 hk).1;have hlt:(i:Int)<(k.fls.length:Int):=by omega
 have ei:(i:Int).toNat=i:=by omega
 have hn:(((100:UInt8).toNat:Nat):Int)=100:=rfl;have hlen:=Dq d hd 100;have i20:i≤20:=by omega
 have e:E9 d 100=be d.d 1:=by simp [E9,Ov]
 rw [e] at hlen ⊢;have h:=Bf8 d;have h2:S F6 2 [.i .i64 d.d, .i .i64 1]=some [.s (be d.d 1)]:=D4 d.d 1 (by omega) hd.d hw.d.2;have hb:=Ez d.d 1;simp (disch:=omega) only [Ek,Cm,hlt,ei,hk,hn,Hl,Hm,Fl,Ed,E3,scal_pt,der_pt,Ih0,h,h2,EVC,xe,EVP,EV,simprocAttr]
theorem Gn9 (t:Int) (d:Dat) (hw:d.wf) (hd:NumsOk d) (k:Kd) (out:List UInt8) (i:Nat) (hk:k.fls[i]? =some 101) (hl:k.fls.length≤20) (ho:out.length≤21000*i) (p4:PV) (N:Nat):
  Dm.ev S N [.i .i64 t,d.pv,k.pv, .b true,p4, .s out, .i .i64 (i:Int)]=some (.yld 1 [.s (out++E9 d 101), .i .i64 ((i:Int)+1)]):=by
 have g1:d.host.length≤9223372036854775807:=hw.host;have g2:d.mail.length≤9223372036854775807:=hw.mail;have g4:=hd.text;have hi:=(Av.1 hk).1;have hlt:(i:Int)<(k.fls.length:Int):=by omega
 have ei:(i:Int).toNat=i:=by omega
 have hn:(((101:UInt8).toNat:Nat):Int)=101:=rfl;have hlen:=Dq d hd 101;have i20:i≤20:=by omega
 have e:E9 d 101=be d.e 1:=by simp [E9,Ov]
 rw [e] at hlen ⊢;have h:=Bf7 d;have h2:S F6 2 [.i .i64 d.e, .i .i64 1]=some [.s (be d.e 1)]:=D4 d.e 1 (by omega) hd.e hw.e.2;have hb:=Ez d.e 1;simp (disch:=omega) only [Ek,Cm,hlt,ei,hk,hn,Hl,Hm,Fl,Ed,E3,scal_pt,der_pt,Fp2,h,h2,EVC,xe,EVP,EV,simprocAttr]
theorem Gn8 (t:Int) (d:Dat) (hw:d.wf) (hd:NumsOk d) (k:Kd) (out:List UInt8) (i:Nat) (hk:k.fls[i]? =some 102) (hl:k.fls.length≤20) (ho:out.length≤21000*i) (p4:PV) (N:Nat):
  Dm.ev S N [.i .i64 t,d.pv,k.pv, .b true,p4, .s out, .i .i64 (i:Int)]=some (.yld 1 [.s (out++E9 d 102), .i .i64 ((i:Int)+1)]):=by
 have g1:d.host.length≤9223372036854775807:=hw.host;have g2:d.mail.length≤9223372036854775807:=hw.mail;have g4:=hd.text;have hi:=(Av.1 hk).1;have hlt:(i:Int)<(k.fls.length:Int):=by omega
 have ei:(i:Int).toNat=i:=by omega
 have hn:(((102:UInt8).toNat:Nat):Int)=102:=rfl;have hlen:=Dq d hd 102;have i20:i≤20:=by omega
 have e:E9 d 102=be d.f 1:=by simp [E9,Ov]
 rw [e] at hlen ⊢;have h:=Bf6 d;have h2:S F6 2 [.i .i64 d.f, .i .i64 1]=some [.s (be d.f 1)]:=D4 d.f 1 (by omega) hd.f hw.f.2;have hb:=Ez d.f 1;simp (disch:=omega) only [Ek,Cm,hlt,ei,hk,hn,Hl,Hm,Fl,Ed,E3,scal_pt,der_pt,Hy3,h,h2,EVC,xe,EVP,EV,simprocAttr]
theorem Gn1 (t:Int) (d:Dat) (hw:d.wf) (hd:NumsOk d) (k:Kd) (out:List UInt8) (i:Nat) (hk:k.fls[i]? =some 118) (hl:k.fls.length≤20) (ho:out.length≤21000*i) (p4:PV) (N:Nat):
  Dm.ev S N [.i .i64 t,d.pv,k.pv, .b true,p4, .s out, .i .i64 (i:Int)]=some (.yld 1 [.s (out++E9 d 118), .i .i64 ((i:Int)+1)]):=by
 have g1:d.host.length≤9223372036854775807:=hw.host;have g2:d.mail.length≤9223372036854775807:=hw.mail;have g4:=hd.text;have hi:=(Av.1 hk).1;have hlt:(i:Int)<(k.fls.length:Int):=by omega
 have ei:(i:Int).toNat=i:=by omega
 have hn:(((118:UInt8).toNat:Nat):Int)=118:=rfl;have hlen:=Dq d hd 118;have i20:i≤20:=by omega
 have e:E9 d 118=be d.a 4:=by simp [E9,Ov]
 rw [e] at hlen ⊢;have h:=Bf5 d;have h2:S F6 2 [.i .i64 d.a, .i .i64 4]=some [.s (be d.a 4)]:=D4 d.a 4 (by omega) hd.a hw.a.2;have hb:=Ez d.a 4;simp (disch:=omega) only [Ek,Cm,hlt,ei,hk,hn,Hl,Hm,Fl,Ed,E3,scal_pt,der_pt,Ih3,h,h2,EVC,xe,EVP,EV,simprocAttr]
theorem Gn0 (t:Int) (d:Dat) (hw:d.wf) (hd:NumsOk d) (k:Kd) (out:List UInt8) (i:Nat) (hk:k.fls[i]? =some 119) (hl:k.fls.length≤20) (ho:out.length≤21000*i) (p4:PV) (N:Nat):
  Dm.ev S N [.i .i64 t,d.pv,k.pv, .b true,p4, .s out, .i .i64 (i:Int)]=some (.yld 1 [.s (out++E9 d 119), .i .i64 ((i:Int)+1)]):=by
 have g1:d.host.length≤9223372036854775807:=hw.host;have g2:d.mail.length≤9223372036854775807:=hw.mail;have g4:=hd.text;have hi:=(Av.1 hk).1;have hlt:(i:Int)<(k.fls.length:Int):=by omega
 have ei:(i:Int).toNat=i:=by omega
 have hn:(((119:UInt8).toNat:Nat):Int)=119:=rfl;have hlen:=Dq d hd 119;have i20:i≤20:=by omega
 have e:E9 d 119=be d.b 4:=by simp [E9,Ov]
 rw [e] at hlen ⊢;have h:=Bf4 d;have h2:S F6 2 [.i .i64 d.b, .i .i64 4]=some [.s (be d.b 4)]:=D4 d.b 4 (by omega) hd.b hw.b.2;have hb:=Ez d.b 4;simp (disch:=omega) only [Ek,Cm,hlt,ei,hk,hn,Hl,Hm,Fl,Ed,E3,scal_pt,der_pt,Ih2,h,h2,EVC,xe,EVP,EV,simprocAttr]
theorem Gm9 (t:Int) (d:Dat) (hw:d.wf) (hd:NumsOk d) (k:Kd) (out:List UInt8) (i:Nat) (hk:k.fls[i]? =some 120) (hl:k.fls.length≤20) (ho:out.length≤21000*i) (p4:PV) (N:Nat):
  Dm.ev S N [.i .i64 t,d.pv,k.pv, .b true,p4, .s out, .i .i64 (i:Int)]=some (.yld 1 [.s (out++E9 d 120), .i .i64 ((i:Int)+1)]):=by
 have g1:d.host.length≤9223372036854775807:=hw.host;have g2:d.mail.length≤9223372036854775807:=hw.mail;have g4:=hd.text;have hi:=(Av.1 hk).1;have hlt:(i:Int)<(k.fls.length:Int):=by omega
 have ei:(i:Int).toNat=i:=by omega
 have hn:(((120:UInt8).toNat:Nat):Int)=120:=rfl;have hlen:=Dq d hd 120;have i20:i≤20:=by omega
 have e:E9 d 120=be d.c 4:=by simp [E9,Ov]
 rw [e] at hlen ⊢;have h:=Bf3 d;have h2:S F6 2 [.i .i64 d.c, .i .i64 4]=some [.s (be d.c 4)]:=D4 d.c 4 (by omega) hd.c hw.c.2;have hb:=Ez d.c 4;simp (disch:=omega) only [Ek,Cm,hlt,ei,hk,hn,Hl,Hm,Fl,Ed,E3,scal_pt,der_pt,Ih1,h,h2,EVC,xe,EVP,EV,simprocAttr]
theorem Gm8 (t:Int) (d:Dat) (hw:d.wf) (hd:NumsOk d) (k:Kd) (out:List UInt8) (i:Nat) (hk:k.fls[i]? =some 121) (hl:k.fls.length≤20) (ho:out.length≤21000*i) (p4:PV) (N:Nat):
  Dm.ev S N [.i .i64 t,d.pv,k.pv, .b true,p4, .s out, .i .i64 (i:Int)]=some (.yld 1 [.s (out++E9 d 121), .i .i64 ((i:Int)+1)]):=by
 have g1:d.host.length≤9223372036854775807:=hw.host;have g2:d.mail.length≤9223372036854775807:=hw.mail;have g4:=hd.text;have hi:=(Av.1 hk).1;have hlt:(i:Int)<(k.fls.length:Int):=by omega
 have ei:(i:Int).toNat=i:=by omega
 have hn:(((121:UInt8).toNat:Nat):Int)=121:=rfl;have hlen:=Dq d hd 121;have i20:i≤20:=by omega
 have e:E9 d 121=be d.d 4:=by simp [E9,Ov]
 rw [e] at hlen ⊢;have h:=Bf2 d;have h2:S F6 2 [.i .i64 d.d, .i .i64 4]=some [.s (be d.d 4)]:=D4 d.d 4 (by omega) hd.d hw.d.2;have hb:=Ez d.d 4;simp (disch:=omega) only [Ek,Cm,hlt,ei,hk,hn,Hl,Hm,Fl,Ed,E3,scal_pt,der_pt,Ih0,h,h2,EVC,xe,EVP,EV,simprocAttr]
theorem Gm7 (t:Int) (d:Dat) (hw:d.wf) (hd:NumsOk d) (k:Kd) (out:List UInt8) (i:Nat) (hk:k.fls[i]? =some 122) (hl:k.fls.length≤20) (ho:out.length≤21000*i) (p4:PV) (N:Nat):
  Dm.ev S N [.i .i64 t,d.pv,k.pv, .b true,p4, .s out, .i .i64 (i:Int)]=some (.yld 1 [.s (out++E9 d 122), .i .i64 ((i:Int)+1)]):=by
 have g1:d.host.length≤9223372036854775807:=hw.host;have g2:d.mail.length≤9223372036854775807:=hw.mail;have g4:=hd.text;have hi:=(Av.1 hk).1;have hlt:(i:Int)<(k.fls.length:Int):=by omega
 have ei:(i:Int).toNat=i:=by omega
 have hn:(((122:UInt8).toNat:Nat):Int)=122:=rfl;have hlen:=Dq d hd 122;have i20:i≤20:=by omega
 have e:E9 d 122=be d.e 4:=by simp [E9,Ov]
 rw [e] at hlen ⊢;have h:=Bf1 d;have h2:S F6 2 [.i .i64 d.e, .i .i64 4]=some [.s (be d.e 4)]:=D4 d.e 4 (by omega) hd.e hw.e.2;have hb:=Ez d.e 4;simp (disch:=omega) only [Ek,Cm,hlt,ei,hk,hn,Hl,Hm,Fl,Ed,E3,scal_pt,der_pt,Fp2,h,h2,EVC,xe,EVP,EV,simprocAttr]
def flc:List UInt8:=[104,109,52,54,116,114,115,110,65,66,67,68,69,70,97,98,99,100,101,102,118,119,120,121,122]
theorem Fh4 (t:Int) (d:Dat) (hw:d.wf) (hd:NumsOk d) (k:Kd) (out:List UInt8) (i:Nat) (c:UInt8) (hc:c∈flc) (hk:k.fls[i]? =some c) (hl:k.fls.length≤20) (ho:out.length≤21000*i) (p4:PV) (N:Nat):
  Dm.ev S N [.i .i64 t,d.pv,k.pv, .b true,p4, .s out, .i .i64 (i:Int)]=some (.yld 1 [.s (out++E9 d c), .i .i64 ((i:Int)+1)]):=by
 simp only [flc,Am,Dc8,or_false] at hc;rcases hc with rfl|rfl|rfl|rfl|rfl|rfl|rfl|rfl|rfl|rfl|rfl|rfl|rfl|rfl|rfl|rfl|rfl|rfl|rfl|rfl|rfl|rfl|rfl|rfl|rfl
 ·exact Gn7 t d hw hd k out i hk hl ho p4 N
 ·exact Gn6 t d hw hd k out i hk hl ho p4 N
 ·exact Iy5 t d hw hd k out i hk hl ho p4 N
 ·exact Iy4 t d hw hd k out i hk hl ho p4 N
 ·exact Gn2 t d hw hd k out i hk hl ho p4 N
 ·exact Gn4 t d hw hd k out i hk hl ho p4 N
 ·exact Gn3 t d hw hd k out i hk hl ho p4 N
 ·exact Gn5 t d hw hd k out i hk hl ho p4 N
 ·exact Iy3 t d hw hd k out i hk hl ho p4 N
 ·exact Iy2 t d hw hd k out i hk hl ho p4 N
 ·exact Iy1 t d hw hd k out i hk hl ho p4 N
 ·exact Iy0 t d hw hd k out i hk hl ho p4 N
 ·exact Ix9 t d hw hd k out i hk hl ho p4 N
 ·exact Ix8 t d hw hd k out i hk hl ho p4 N
 ·exact Ix7 t d hw hd k out i hk hl ho p4 N
 ·exact Ix6 t d hw hd k out i hk hl ho p4 N
 ·exact Ix5 t d hw hd k out i hk hl ho p4 N
 ·exact Gp0 t d hw hd k out i hk hl ho p4 N
 ·exact Gn9 t d hw hd k out i hk hl ho p4 N
 ·exact Gn8 t d hw hd k out i hk hl ho p4 N
 ·exact Gn1 t d hw hd k out i hk hl ho p4 N
 ·exact Gn0 t d hw hd k out i hk hl ho p4 N
 ·exact Gm9 t d hw hd k out i hk hl ho p4 N
 ·exact Gm8 t d hw hd k out i hk hl ho p4 N
 ·exact Gm7 t d hw hd k out i hk hl ho p4 N
end Go.X.G
/- Data of records in the program: Wire and Compare, the Md. -/
namespace Go.X.G
open Go Go.X
theorem Sj {t:Int} {d:Dat} (h:D9 t d=true):knw t=true:=by unfold D9 at h;simp only [Aw] at h;exact h.1.1
theorem g7 {t:Int} {d:Dat} (h:D9 t d=true):usd t d=d:=by unfold D9 at h;simp only [Aw,decide_eq_true_eq] at h;exact h.1.2
theorem Pl {t:Int} {d:Dat} (h:D9 t d=true):Dk t d=true:=by unfold D9 at h;simp only [Aw] at h;exact h.2
set_option maxHeartbeats 1000000 in
theorem Fr2 {t:Int} {d:Dat} (h:D9 t d=true):NumsOk d:=by
 have hk:=Sj h;have hu:=g7 h;have ho:=Pl h;have ua:=congrArg Dat.a hu;have ub:=congrArg Dat.b hu;have uc:=congrArg Dat.c hu;have ud:=congrArg Dat.d hu;have ue:=congrArg Dat.e hu;have uf:=congrArg Dat.f hu;have ut:=congrArg (fun x=>x.text.length) hu;clear hu;rcases knw_cases hk with rfl|rfl|rfl|rfl|rfl|rfl|rfl|rfl|rfl|rfl|rfl|rfl|rfl|rfl
 ·simp [Dk,inB,It,D6] at ho;simp only [usd,Int.reduceEq,or_false,or_true,or_self,if_true,if_false,↓reduceIte,Bd] at ua ub uc ud ue uf ut;refine ⟨?_,?_,?_,?_,?_,?_,?_⟩<;>omega
 ·simp [Dk,inB,It,D6] at ho;simp only [usd,Int.reduceEq,or_false,or_true,or_self,if_true,if_false,↓reduceIte,Bd] at ua ub uc ud ue uf ut;refine ⟨?_,?_,?_,?_,?_,?_,?_⟩<;>omega
 ·simp [Dk,inB,It,D6] at ho;simp only [usd,Int.reduceEq,or_false,or_true,or_self,if_true,if_false,↓reduceIte,Bd] at ua ub uc ud ue uf ut;refine ⟨?_,?_,?_,?_,?_,?_,?_⟩<;>omega
 ·simp [Dk,inB,It,D6] at ho;simp only [usd,Int.reduceEq,or_false,or_true,or_self,if_true,if_false,↓reduceIte,Bd] at ua ub uc ud ue uf ut;refine ⟨?_,?_,?_,?_,?_,?_,?_⟩<;>omega
 ·simp [Dk,inB,It,D6] at ho;simp only [usd,Int.reduceEq,or_false,or_true,or_self,if_true,if_false,↓reduceIte,Bd] at ua ub uc ud ue uf ut;refine ⟨?_,?_,?_,?_,?_,?_,?_⟩<;>omega
 ·simp [Dk,inB,It,D6] at ho;simp only [usd,Int.reduceEq,or_false,or_true,or_self,if_true,if_false,↓reduceIte,Bd] at ua ub uc ud ue uf ut;refine ⟨?_,?_,?_,?_,?_,?_,?_⟩<;>omega
 ·simp [Dk,inB,It,D6] at ho;simp only [usd,Int.reduceEq,or_false,or_true,or_self,if_true,if_false,↓reduceIte,Bd] at ua ub uc ud ue uf ut;refine ⟨?_,?_,?_,?_,?_,?_,?_⟩<;>omega
 ·simp [Dk,inB,It,D6] at ho;simp only [usd,Int.reduceEq,or_false,or_true,or_self,if_true,if_false,↓reduceIte,Bd] at ua ub uc ud ue uf ut;refine ⟨?_,?_,?_,?_,?_,?_,?_⟩<;>omega
 ·simp [Dk,inB,It,D6] at ho;simp only [usd,Int.reduceEq,or_false,or_true,or_self,if_true,if_false,↓reduceIte,Bd] at ua ub uc ud ue uf ut;refine ⟨?_,?_,?_,?_,?_,?_,?_⟩<;>omega
 ·simp [Dk,inB,It,D6] at ho;simp only [usd,Int.reduceEq,or_false,or_true,or_self,if_true,if_false,↓reduceIte,Bd] at ua ub uc ud ue uf ut;refine ⟨?_,?_,?_,?_,?_,?_,?_⟩<;>omega
 ·simp [Dk,inB,It,D6] at ho;simp only [usd,Int.reduceEq,or_false,or_true,or_self,if_true,if_false,↓reduceIte,Bd] at ua ub uc ud ue uf ut;refine ⟨?_,?_,?_,?_,?_,?_,?_⟩<;>omega
 ·simp [Dk,inB,It,D6] at ho;simp only [usd,Int.reduceEq,or_false,or_true,or_self,if_true,if_false,↓reduceIte,Bd] at ua ub uc ud ue uf ut;have:=knw_cases ho.1.1.1.1.1.1.1.1;refine ⟨?_,?_,?_,?_,?_,?_,?_⟩<;>omega
 ·simp [Dk,inB,It,D6] at ho;simp only [usd,Int.reduceEq,or_false,or_true,or_self,if_true,if_false,↓reduceIte,Bd] at ua ub uc ud ue uf ut;refine ⟨?_,?_,?_,?_,?_,?_,?_⟩<;>omega
 ·simp [Dk,inB,It,D6] at ho;simp only [usd,Int.reduceEq,or_false,or_true,or_self,if_true,if_false,↓reduceIte,Bd] at ua ub uc ud ue uf ut;refine ⟨?_,?_,?_,?_,?_,?_,?_⟩<;>omega
def Kj (d:Dat) (l:List UInt8):List UInt8:=l.flatMap (E9 d)
theorem d4 (d:Dat) (hd:NumsOk d):∀l:List UInt8,(Kj d l).length≤21000*l.length
 |[]=>by simp [Kj]
 |c::l=>by have h1:=Dq d hd c;have h2:=d4 d hd l;simp only [Kj,I5,Ac,A6] at h2 ⊢;omega
theorem Ix4 (t:Int) (d:Dat) (hw:d.wf) (hd:NumsOk d) (k:Kd) (hf:∀c∈k.fls,c∈flc) (hl:k.fls.length≤20) (p4:PV) (N:Nat) (hN:21<N):
  Bs4.ev S N [.i .i64 t,d.pv,k.pv, .b true,p4]=some (.yld 0 [.s (Kj d k.fls)]):=by
 refine E2 k.fls (fun i=>[.s (Kj d (k.fls.take i)), .i .i64 (i:Int)]) (fun i r=> .yld 0 [.s (Kj d k.fls)]) rfl (by omega) (fun i c r hdd hi hc=> ?_) ?_
 ·left;refine ⟨?_,rfl⟩;have h1:=d4 d hd (k.fls.take i);rw [Ar] at h1;have h2:=Fh4 t d hw hd k (Kj d (k.fls.take i)) i c (hf c (A4 hc)) hc hl (by omega) p4 N;have e:Kj d (k.fls.take (i+1))=Kj d (k.fls.take i)++E9 d c:=by rw [Ct,hc];simp [Kj]
  rw [e];exact h2
 ·have e:k.fls.take k.fls.length=k.fls:=Df;have hlt:¬(k.fls.length:Int)<(k.fls.length:Int):=by omega
  refine ⟨?_,rfl⟩;simp (disch:=omega) only [Ek,Cm,e,hlt,EVC,xe,EVP,EV,simprocAttr]
theorem Ax7 (t:Int) (d:Dat) (h:d.wf):S Ux 2 [.i .i64 t,d.pv]=some (if D9 t d=true then [.s (Js t d), .i .i64 0] else if knw t=true then [.s [], .i .i64 5] else [.s [], .i .i64 4]):=by
 obtain ⟨N,hN⟩:∃N:Nat,N=30:=⟨_,rfl⟩;refine Hj1 (N:=N) rfl ?_;have hfind:=vz t;have hv:=T5 t d h;have hfk:=v8 t;rcases Aq (D9 t d) with h1|h1
 ·rw [h1] at hv;rw [if_pos h1];have hk:=Sj h1;have hd:=Fr2 h1;have ho:=Pl h1;have go:∀k:Kd,kds.find? (fun k=>decide (k.num=t))=some k→(∀c∈k.fls,c∈flc)→k.fls.length≤20→Kj d k.fls=Js t d→Zx.ev S N [.i .i64 t,d.pv]=some (.ret [.s (Js t d), .i .i64 0]):=by intro k e1 e2 e3 e4;rw [e1] at hfind;simp only at hfind;have key:=Ix4 t d h hd k e2 e3 (.b true) N (by omega);rw [e4] at key;simp (disch:=omega) only [Ek,hfind,hv,key,Pp,Sy,Cm,EVC,xe,EVP,EV,simprocAttr]
  rcases knw_cases hk with rfl|rfl|rfl|rfl|rfl|rfl|rfl|rfl|rfl|rfl|rfl|rfl|rfl|rfl
  ·refine go _ rfl (by decide) (by decide) ?_;have ho':(D6 d && !d.v6)=true:=ho;have ha:D6 d=true:=by rw [Aw] at ho';exact ho'.1
   show (if D6 d=true then P3 d else [])++[]=P3 d;rw [if_pos ha,Ds]
  ·refine go _ rfl (by decide) (by decide) ?_;show If d.host++[]=If d.host;exact Ds _
  ·refine go _ rfl (by decide) (by decide) ?_;show If d.host++[]=If d.host;exact Ds _
  ·refine go _ rfl (by decide) (by decide) ?_;simp [Kj,E9,Js,Ov,be]
  ·refine go _ rfl (by decide) (by decide) ?_;show If d.host++[]=If d.host;exact Ds _
  ·refine go _ rfl (by decide) (by decide) ?_;simp [Kj,E9,Js,Ov,be]
  ·refine go _ rfl (by decide) (by decide) ?_;simp [Kj,E9,Js,Ov,be]
  ·refine go _ rfl (by decide) (by decide) ?_;have ho':d.v6=true:=ho;have ha:D6 d=true:=by simp [D6,ho']
   show (if D6 d=true then P3 d else [])++[]=P3 d;rw [if_pos ha,Ds]
  ·refine go _ rfl (by decide) (by decide) ?_;simp [Kj,E9,Js,Ov,be]
  ·refine go _ rfl (by decide) (by decide) ?_;show If d.host++[]=If d.host;exact Ds _
  ·refine go _ rfl (by decide) (by decide) ?_;simp [Kj,E9,Js,Ov,be]
  ·refine go _ rfl (by decide) (by decide) ?_;simp [Kj,E9,Js,Ov,be]
  ·refine go _ rfl (by decide) (by decide) ?_;simp [Kj,E9,Js,Ov,be]
  ·refine go _ rfl (by decide) (by decide) ?_;simp [Kj,E9,Js,Ov,be]
 ·rw [h1] at hv;rw [if_neg (by simp [h1])];rcases Aq (knw t) with h2|h2
  ·rw [if_pos h2];rw [h2] at hfk;cases hk:kds.find? (fun k=>decide (k.num=t)) with
   |none=>rw [hk] at hfk;cases hfk
   |some k=>
    rw [hk] at hfind;simp only at hfind;simp (disch:=omega) only [Ek,hfind,hv,Pp,Sy,Cm,EVC,xe,EVP,EV,simprocAttr]
  ·rw [if_neg (by simp [h2])];rw [h2] at hfk;cases hk:kds.find? (fun k=>decide (k.num=t)) with
   |some k=>rw [hk] at hfk;cases hfk
   |none=>
    rw [hk] at hfind;simp only at hfind;simp (disch:=omega) only [Ek,hfind,Pp,Sy,Cm,EVC,xe,EVP,EV,simprocAttr]
theorem oy (t:Int) (a b:Dat) (ha:a.wf) (hb:b.wf):S bn 3 [.i .i64 t,a.pv,b.pv]=some [.i .i64 (Ey0 t a b)]:=by
 refine Hk3 (N:=1) rfl ?_;have w1:=Ax7 t a ha;have w2:=Ax7 t b hb;have wc:=Kv (Js t a) (Js t b);unfold Ey0;rcases Aq (D9 t a) with h1|h1<;>rcases Aq (D9 t b) with h2|h2
 ·rw [h1,if_pos rfl] at w1;rw [h2,if_pos rfl] at w2;simp (disch:=omega) only [Ec0,w1,w2,wc,h1,h2,EVC,xe,EVP,EV,simprocAttr];simp
 all_goals rcases Aq (knw t) with h3|h3
 all_goals simp only [h1,h2,h3,if_true,Ad,if_false,↓reduceIte] at w1 w2
 all_goals simp (disch:=omega) only [Ec0,w1,w2,h1,h2,EVC,xe,EVP,EV,simprocAttr]
 all_goals simp
end Go.X.G
/- Stable sorting, in plain words: what is sorted and keeps the order of what is alike is one list alone. -/
namespace Go.X.G
open Go Go.X
structure TP {α:Type} (le:α→α→Bool):Prop where
 tr:∀a b c,le a b=true→le b c=true→le a c=true
 tot:∀a b,le a b=true∨le b a=true
theorem TP.refl {α:Type} {le:α→α→Bool} (h:TP le) (a:α):le a a=true:=by rcases h.tot a a with q|q<;>exact q
def eqv {α:Type} (le:α→α→Bool) (a b:α):Bool:=le a b && le b a
structure Stab {α:Type} (le:α→α→Bool) (r l:List α):Prop where
 sorted:r.Pairwise fun a b=>le a b=true
 cls:∀x,r.filter (eqv le x)=l.filter (eqv le x)
theorem Stab.mem {α:Type} {le:α→α→Bool} (ht:TP le) {r l:List α} (h:Stab le r l) (x:α):x∈r↔x∈l:=by
 have e:eqv le x x=true:=by unfold eqv;rw [ht.refl];rfl
 have h1:x∈r↔x∈r.filter (eqv le x):=by rw [Bn];simp [e]
 have h2:x∈l↔x∈l.filter (eqv le x):=by rw [Bn];simp [e]
 rw [h1,h.cls,←h2]
theorem tg {α:Type} {le:α→α→Bool} (ht:TP le):∀(r s:List α),(r.Pairwise fun a b=>le a b=true)→(s.Pairwise fun a b=>le a b=true)→(∀x,r.filter (eqv le x)=s.filter (eqv le x))→r=s
 |[],s,_,_,h=>by
  cases s with
  |nil=>rfl
  |cons y t=>
   have:=h y;rw [List.filter_nil,Em (by unfold eqv;rw [ht.refl];rfl)] at this;cases this
 |x::r,[],_,_,h=>by have:=h x;rw [List.filter_nil,Em (by unfold eqv;rw [ht.refl];rfl)] at this;cases this
 |x::r,y::s,hr,hs,h=>by
  obtain ⟨r1,r2⟩:=A0.1 hr;obtain ⟨s1,s2⟩:=A0.1 hs;have hmem:∀z,z∈x::r↔z∈y::s:=fun z=>by
   have e:eqv le z z=true:=by unfold eqv;rw [ht.refl];rfl
   have a1:z∈x::r↔z∈(x::r).filter (eqv le z):=by rw [Bn];simp [e]
   have a2:z∈y::s↔z∈(y::s).filter (eqv le z):=by rw [Bn];simp [e]
   rw [a1,h,←a2]
  have hxy:le x y=true:=by
   rcases Am.1 ((hmem y).2 (.head _)) with q|q
   ·rw [q];exact ht.refl x
   ·exact r1 y q
  have hyx:le y x=true:=by
   rcases Am.1 ((hmem x).1 (.head _)) with q|q
   ·rw [q];exact ht.refl y
   ·exact s1 x q
  have e:x=y:=by have:=h x;rw [Em (by unfold eqv;rw [ht.refl];rfl),Em (by unfold eqv;rw [hxy,hyx];rfl)] at this;injection this
  subst e;have:r=s:=tg ht r s r2 s2 fun z=>by
   have:=h z;simp only [Kh] at this;split at this
   ·injection this
   ·exact this
  rw [this]
theorem Stab.one {α:Type} {le:α→α→Bool} (ht:TP le) {r s l:List α} (h1:Stab le r l) (h2:Stab le s l):r=s:=
 tg ht r s h1.sorted h2.sorted fun x=>by rw [h1.cls,h2.cls]
def mrg {α:Type} (le:α→α→Bool):List α→List α→List α
 |[],b=>b
 |x::a,[]=>x::a
 |x::a,y::b=>if le x y=true then x::mrg le a (y::b) else y::mrg le (x::a) b
termination_by a b=>a.length+b.length
theorem K5 {α:Type} (le:α→α→Bool) (a:List α):mrg le a []=a:=by cases a<;>simp [mrg]
theorem mrg_mem {α:Type} (le:α→α→Bool) (z:α):∀(a b:List α),z∈mrg le a b↔z∈a∨z∈b
 |[],b=>by simp [mrg]
 |x::a,[]=>by simp [mrg]
 |x::a,y::b=>by
  unfold mrg;split
  ·rw [Am,mrg_mem le z a (y::b)];simp only [Am];grind
  ·rw [Am,mrg_mem le z (x::a) b];simp only [Am];grind
termination_by a b=>a.length+b.length
theorem O5 {α:Type} {le:α→α→Bool} (ht:TP le):∀(a b:List α),(a.Pairwise fun x y=>le x y=true)→(b.Pairwise fun x y=>le x y=true)→(mrg le a b).Pairwise fun x y=>le x y=true
 |[],b,_,hb=>by simpa [mrg] using hb
 |x::a,[],ha,_=>by simpa [mrg] using ha
 |x::a,y::b,ha,hb=>by
  obtain ⟨a1,a2⟩:=A0.1 ha;obtain ⟨b1,b2⟩:=A0.1 hb;unfold mrg;split
  ·rename_i h;refine A0.2 ⟨fun z hz=> ?_,O5 ht a (y::b) a2 hb⟩;rcases (mrg_mem le z a (y::b)).1 hz with hz|hz
   ·exact a1 z hz
   ·rcases Am.1 hz with rfl|hz
    ·exact h
    ·exact ht.tr _ _ _ h (b1 z hz)
  ·rename_i h;have h':le y x=true:=(ht.tot x y).resolve_left h;refine A0.2 ⟨fun z hz=> ?_,O5 ht (x::a) b ha b2⟩;rcases (mrg_mem le z (x::a) b).1 hz with hz|hz
   ·rcases Am.1 hz with rfl|hz
    ·exact h'
    ·exact ht.tr _ _ _ h' (a1 z hz)
   ·exact b1 z hz
termination_by a b=>a.length+b.length
theorem jc {α:Type} {le:α→α→Bool} (ht:TP le) (z:α):∀(a b:List α),(a.Pairwise fun x y=>le x y=true)→(mrg le a b).filter (eqv le z)=a.filter (eqv le z)++b.filter (eqv le z)
 |[],b,_=>by simp [mrg]
 |x::a,[],_=>by simp [mrg]
 |x::a,y::b,ha=>by
  obtain ⟨a1,a2⟩:=A0.1 ha;unfold mrg;split
  ·simp only [Kh];rw [jc ht z a (y::b) a2];simp only [Kh];split<;>simp
  ·rename_i h;rw [Kh,jc ht z (x::a) b ha];by_cases hy:eqv le z y=true
   ·-- then nothing of the first list is like z
    have hno:(x::a).filter (eqv le z)=[]:=by
     rw [Gr];intro w hw hzw;unfold eqv at hy hzw;simp only [Aw] at hy hzw;have hxw:le x w=true:=by
      rcases Am.1 hw with rfl|hw
      ·exact ht.refl _
      ·exact a1 w hw
     exact h (ht.tr _ _ _ hxw (ht.tr _ _ _ hzw.2 hy.1))
    rw [hno,Em hy,if_pos hy];rfl
   ·rw [if_neg hy,List.filter_cons_of_neg hy]
termination_by a b=>a.length+b.length
theorem Stab.mrg {α:Type} {le:α→α→Bool} (ht:TP le) {r s l m:List α} (h1:Stab le r l) (h2:Stab le s m):Stab le (mrg le r s) (l++m):=
 ⟨O5 ht r s h1.sorted h2.sorted,fun x=>by rw [jc ht x r s h1.sorted,h1.cls,h2.cls,Gj]⟩
theorem K4 {α:Type} (le:α→α→Bool) (a2 b2:List α):∀(a1 b1:List α),(∀x∈a1,∀y∈b2,le x y=true)→(∀x∈a2,∀y∈b1,le x y=false)→mrg le (a1++a2) (b1++b2)=mrg le a1 b1++mrg le a2 b2
 |[],[],_,_=>by simp [mrg]
 |x::a1,[],h1,h2=>by
  rw [K5,Cf];have ih:=K4 le a2 b2 a1 [] (fun w hw=>h1 w (.tail _ hw)) h2;rw [K5,Cf] at ih;cases b2 with
  |nil=>rw [K5,K5]
  |cons y b=>
   rw [B5];have e:mrg le (x::(a1++a2)) (y::b)=x::mrg le (a1++a2) (y::b):=by
    conv=>lhs;unfold mrg
    rw [if_pos (h1 x (.head _) y (.head _))]
   rw [e,ih,B5]
 |[],y::b1,h1,h2=>by
  have ih:=K4 le a2 b2 [] b1 h1 (fun x hx w hw=>h2 x hx w (.tail _ hw));cases a2 with
  |nil=>simp [mrg]
  |cons x a=>
   rw [Cf] at ih ⊢;rw [B5];have e:mrg le (x::a) (y::(b1++b2))=y::mrg le (x::a) (b1++b2):=by
    conv=>lhs;unfold mrg
    rw [if_neg (by rw [h2 x (.head _) y (.head _)];simp)]
   rw [e,ih];simp [mrg]
 |x::a1,y::b1,h1,h2=>by
  rw [B5,B5];by_cases h:le x y=true
  ·have ih:=K4 le a2 b2 a1 (y::b1) (fun w hw=>h1 w (.tail _ hw)) h2;have e1:mrg le (x::(a1++a2)) (y::(b1++b2))=x::mrg le (a1++a2) (y::(b1++b2)):=by
    conv=>lhs;unfold mrg
    rw [if_pos h]
   have e2:mrg le (x::a1) (y::b1)=x::mrg le a1 (y::b1):=by
    conv=>lhs;unfold mrg
    rw [if_pos h]
   rw [e1,e2,B5,←ih];rfl
  ·have ih:=K4 le a2 b2 (x::a1) b1 h1 (fun w hw v hv=>h2 w hw v (.tail _ hv));have e1:mrg le (x::(a1++a2)) (y::(b1++b2))=y::mrg le (x::(a1++a2)) (b1++b2):=by
    conv=>lhs;unfold mrg
    rw [if_neg h]
   have e2:mrg le (x::a1) (y::b1)=y::mrg le (x::a1) b1:=by
    conv=>lhs;unfold mrg
    rw [if_neg h]
   rw [e1,e2,B5,←ih];rfl
termination_by a1 b1=>a1.length+b1.length
end Go.X.G
/- The order of any records; what is sorted stably and made compact is what the reference Ty. -/
namespace Go.X.G
open Go Go.X
def Gv5 (t:Int) (d:Dat):Int×List UInt8:=if D9 t d=true then (0,Js t d) else (1,[])
abbrev ltD:Int×List UInt8→Int×List UInt8→Prop:=fun p q=>p.1<q.1∨(p.1=q.1∧ltB p.2 q.2)
theorem Jk7:TO ltD:=Gp6.prod Dc0
theorem Ex9 (t:Int) (a b:Dat):Ey0 t a b<0↔ltD (Gv5 t a) (Gv5 t b):=by unfold Ey0 Gv5 ltD;rcases Aq (D9 t a) with h1|h1<;>rcases Aq (D9 t b) with h2|h2<;>simp [h1,h2,Qp,Dc0.irr]
theorem Cv8 (t:Int) (a b:Dat):Ey0 t a b=0↔Gv5 t a=Gv5 t b:=by unfold Ey0 Gv5;rcases Aq (D9 t a) with h1|h1<;>rcases Aq (D9 t b) with h2|h2<;>simp [h1,h2,Hp]
abbrev Ik2:=List UInt8×Int×Int×List UInt8
abbrev ltF:Ik2→Ik2→Prop:=fun p q=>ltN p.1 q.1∨(p.1=q.1∧(p.2.1<q.2.1∨(p.2.1=q.2.1∧ltD p.2.2 q.2.2)))
theorem to_F:TO ltF:=to_N.prod (Gp6.prod Jk7)
def Fb (r:Rec):Ik2:=(r.name,r.typ,Gv5 r.typ r.data)
theorem X3 (a b:Rec):Tw a b<0↔ltF (Fb a) (Fb b):=by
 unfold Tw ltF Fb;simp only;by_cases h1:H1 a.name b.name=0
 ·rw [if_neg (by simp [h1])];have e1:=Hr.1 h1;have n1:¬ltN a.name b.name:=by rw [e1];exact to_N.irr _
  by_cases h2:wn a.typ b.typ=0
  ·rw [if_neg (by simp [h2])];have e2:=(Hs _ _).1 h2;rw [e2,Ex9];constructor
   ·intro h;exact .inr ⟨e1, .inr ⟨rfl,h⟩⟩
   ·rintro (h|⟨_,h|⟨_,h⟩⟩)
    ·exact absurd h n1
    ·omega
    ·exact h
  ·rw [if_pos h2,X2];have e2:a.typ≠b.typ:=fun e=>h2 ((Hs _ _).2 e);constructor
   ·intro h;exact .inr ⟨e1, .inl h⟩
   ·rintro (h|⟨_,h|⟨h,_⟩⟩)
    ·exact absurd h n1
    ·exact h
    ·exact absurd h e2
 ·rw [if_pos h1,Ev];have e1:a.name≠b.name:=fun e=>h1 (Hr.2 e);constructor
  ·intro h;exact .inl h
  ·rintro (h|⟨h,_⟩)
   ·exact h
   ·exact absurd h e1
theorem L2 (a b:Rec):Tw a b=0↔Fb a=Fb b:=by
 unfold Tw Fb;by_cases h1:H1 a.name b.name=0
 ·rw [if_neg (by simp [h1])];have e1:=Hr.1 h1;by_cases h2:wn a.typ b.typ=0
  ·rw [if_neg (by simp [h2])];have e2:=(Hs _ _).1 h2;rw [e2,Cv8];simp [e1]
  ·rw [if_pos h2];have e2:a.typ≠b.typ:=fun e=>h2 ((Hs _ _).2 e);constructor
   ·intro h;exact absurd h h2
   ·intro h;injection h with _ h;injection h with h _;exact absurd h e2
 ·rw [if_pos h1];have e1:a.name≠b.name:=fun e=>h1 (Hr.2 e);constructor
  ·intro h;exact absurd h h1
  ·intro h;injection h with h _;exact absurd h e1
def Gw1 (a b:Rec):Int:=if Tw a b≠0 then Tw a b else wn a.ttl b.ttl
abbrev ltT:Ik2×Int→Ik2×Int→Prop:=fun p q=>ltF p.1 q.1∨(p.1=q.1∧p.2<q.2)
theorem to_T:TO ltT:=to_F.prod Gp6
theorem Ex8 (a b:Rec):Gw1 a b<0↔ltT (Fb a,a.ttl) (Fb b,b.ttl):=by
 unfold Gw1;by_cases h:Tw a b=0
 ·have e:=(L2 a b).1 h;rw [if_neg (by simp [h]),X2];simp only [ltT,e,true_and];exact ⟨.inr,fun q=>q.resolve_left (to_F.irr _)⟩
 ·rw [if_pos h,X3];have e:Fb a≠Fb b:=fun e=>h ((L2 a b).2 e);simp only [ltT,e,false_and,or_false]
def leR (a b:Rec):Bool:= !decide (Gw1 b a<0)
theorem Mm (a b:Rec):leR a b=true↔¬ltT (Fb b,b.ttl) (Fb a,a.ttl):=by unfold leR;simp [←Ex8]
theorem Ik4:TP leR where
 tr:=fun a b c h1 h2=>by rw [Mm] at*;exact to_T.ntr h2 h1
 tot:=fun a b=>by
  simp only [Mm];rcases to_T.tri (Fb a,a.ttl) (Fb b,b.ttl) with h|h|h
  ·exact .inl (to_T.asym h)
  ·rw [h];exact .inl (to_T.irr _)
  ·exact .inr (to_T.asym h)
theorem Cq1 (a b:Rec):eqv leR a b=true↔Fb a=Fb b∧a.ttl=b.ttl:=by
 unfold eqv;rw [Aw,Mm,Mm];constructor
 ·rintro ⟨h1,h2⟩;rcases to_T.tri (Fb a,a.ttl) (Fb b,b.ttl) with h|h|h
  ·exact absurd h h2
  ·injection h with h3 h4;exact ⟨h3,h4⟩
  ·exact absurd h h1
 ·rintro ⟨h1,h2⟩;rw [h1,h2];exact ⟨to_T.irr _,to_T.irr _⟩
theorem Wz {α:Type} {P:List α→Prop} (h0:P []) (h1:∀l x,P l→P (l++[x])):∀(n:Nat) (l:List α),l.length=n→P l
 |0,l,h=>by rw [Bb h];exact h0
 |n+1,l,h=>by
  have hne:l≠[]:=fun e=>by rw [e] at h;simp at h
  rw [←List.dropLast_concat_getLast hne];exact h1 _ _ (Wz h0 h1 n _ (by rw [List.length_dropLast];omega))
def Fg3 (l:List Rec) (z:Rec):Prop:=∃l1 l2,l=l1++z::l2∧(∀y∈l1,Fb y=Fb z→z.ttl<y.ttl)∧∀y∈l2,Fb y=Fb z→z.ttl≤y.ttl
theorem Fg3.mem {l:List Rec} {z:Rec} (h:Fg3 l z):z∈l:=by obtain ⟨l1,l2,rfl,_⟩:=h;simp
theorem Is (l:List Rec) (x z:Rec):Fg3 (l++[x]) z↔(z=x∧∀y∈l,Fb y=Fb x→x.ttl<y.ttl)∨(Fg3 l z∧(Fb z=Fb x→z.ttl≤x.ttl)):=by
 constructor
 ·rintro ⟨l1,l2,h,h1,h2⟩;rcases List.eq_nil_or_concat l2 with rfl|⟨l3,w,rfl⟩
  ·obtain ⟨q1,q2⟩:=List.append_inj' h rfl;injection q2 with q2 _;subst q1;subst q2;exact .inl ⟨rfl,h1⟩
  ·rw [List.concat_eq_append,←B5,←As] at h;obtain ⟨q1,q2⟩:=List.append_inj' h rfl;injection q2 with q2 _;subst q1;subst q2;refine .inr ⟨⟨l1,l3,rfl,h1,fun y hy=>h2 y (by simp [hy])⟩,fun e=>h2 x (by simp) e.symm⟩
 ·rintro (⟨rfl,h⟩|⟨⟨l1,l2,rfl,h1,h2⟩,h⟩)
  ·exact ⟨l,[],rfl,h,fun y hy=>by simp at hy⟩
  ·refine ⟨l1,l2++[x],by simp,h1,fun y hy e=> ?_⟩;rcases Bt.1 hy with hy|hy
   ·exact h2 y hy e
   ·have:y=x:=by simpa using hy
    subst this;exact h e.symm
theorem Gd6 (l:List Rec):∀y∈l,∃z,Fg3 l z∧Fb z=Fb y∧z.ttl≤y.ttl:=by
 refine Wz (P:=fun l=>∀y∈l,∃z,Fg3 l z∧Fb z=Fb y∧z.ttl≤y.ttl) ?_ ?_ _ l rfl
 ·intro y h;simp at h
 ·intro l x ih y hy;by_cases hx:∀w∈l,Fb w=Fb x→x.ttl<w.ttl
  ·rcases Bt.1 hy with hy|hy
   ·obtain ⟨z,h1,h2,h3⟩:=ih y hy;by_cases e:Fb z=Fb x∧x.ttl<z.ttl
    ·exact ⟨x,(Is l x x).2 (.inl ⟨rfl,hx⟩),by rw [←e.1,h2],by have:=e.2;omega⟩
    ·exact ⟨z,(Is l x z).2 (.inr ⟨h1,fun q=>Int.le_of_not_gt fun r=>e ⟨q,r⟩⟩),h2,h3⟩
   ·have:y=x:=by simpa using hy
    subst this;exact ⟨y,(Is l y y).2 (.inl ⟨rfl,hx⟩),rfl,Jk0 _⟩
  ·have:∃w∈l,Fb w=Fb x∧w.ttl≤x.ttl:=by apply Classical.byContradiction;intro h;exact hx fun w hw e=>Int.lt_of_not_ge fun q=>h ⟨w,hw,e,q⟩
   obtain ⟨w,hw,hw1,hw2⟩:=this;obtain ⟨z,h1,h2,h3⟩:=ih w hw;rcases Bt.1 hy with hy|hy
   ·obtain ⟨z',g1,g2,g3⟩:=ih y hy;by_cases e:Fb z'=Fb x∧x.ttl<z'.ttl
    ·exact ⟨z,(Is l x z).2 (.inr ⟨h1,fun _=>by omega⟩),by rw [h2,hw1,←e.1,g2],by have:=e.2;omega⟩
    ·exact ⟨z',(Is l x z').2 (.inr ⟨g1,fun q=>Int.le_of_not_gt fun r=>e ⟨q,r⟩⟩),g2,g3⟩
   ·have:y=x:=by simpa using hy
    subst this;exact ⟨z,(Is l y z).2 (.inr ⟨h1,fun _=>by omega⟩),by rw [h2,hw1],by omega⟩
abbrev Ef4 (l:List Rec):Prop:=l.Pairwise fun a b=>ltF (Fb a) (Fb b)
theorem Cj9 (x:Rec):∀(l:List Rec),Ef4 l→(Ef4 (f7 x l)∧∀z,z∈f7 x l↔(z=x∧∀y∈l,Fb y=Fb x→x.ttl<y.ttl)∨(z∈l∧(Fb z=Fb x→z.ttl≤x.ttl)))
 |[],_=>by simp [f7]
 |y::r,h=>by
  obtain ⟨h1,h2⟩:=A0.1 h;obtain ⟨i1,i2⟩:=Cj9 x r h2;simp only [f7];by_cases c:Tw y x<0
  ·rw [if_pos c];have c':=(X3 y x).1 c;have ne:Fb y≠Fb x:=fun e=>to_F.irr _ (by rw [e] at c';exact c');refine ⟨A0.2 ⟨fun w hw=> ?_,i1⟩,fun z=> ?_⟩
   ·rcases (i2 w).1 hw with ⟨rfl,_⟩|⟨hw,_⟩
    ·exact c'
    ·exact h1 w hw
   ·rw [Am,i2];simp only [Am,forall_eq_or_imp,ne,false_implies,true_and];constructor
    ·rintro (rfl|h|⟨h,h'⟩)
     ·exact .inr ⟨.inl rfl,fun e=>absurd e ne⟩
     ·exact .inl h
     ·exact .inr ⟨.inr h,h'⟩
    ·rintro (h|⟨rfl|h,h'⟩)
     ·exact .inr (.inl h)
     ·exact .inl rfl
     ·exact .inr (.inr ⟨h,h'⟩)
  ·rw [if_neg c];by_cases e:Tw y x=0
   ·have ke:=(L2 y x).1 e;have hr:∀w∈r,Fb w≠Fb x:=fun w hw q=>to_F.irr (Fb y) (by have:=h1 w hw;rw [q,←ke] at this;exact this);rw [if_pos e];by_cases t:x.ttl<y.ttl
    ·rw [if_pos t];refine ⟨A0.2 ⟨fun w hw=>by rw [←ke];exact h1 w hw,h2⟩,fun z=> ?_⟩;simp only [Am,forall_eq_or_imp,ke,t,true_implies,true_and];constructor
     ·rintro (rfl|h)
      ·exact .inl ⟨rfl,fun w hw q=>absurd q (hr w hw)⟩
      ·exact .inr ⟨.inr h,fun q=>absurd q (hr z h)⟩
     ·rintro (⟨h,_⟩|⟨rfl|h,h'⟩)
      ·exact .inl h
      ·have:=h' ke;omega
      ·exact .inr h
    ·rw [if_neg t];refine ⟨h,fun z=> ?_⟩;simp only [Am,forall_eq_or_imp,ke,t,false_and,and_false,false_or,forall_const,true_implies];constructor
     ·rintro (rfl|h)
      ·exact ⟨.inl rfl,fun _=>by omega⟩
      ·exact ⟨.inr h,fun q=>absurd q (hr z h)⟩
     ·exact fun h=>h.1
   ·rw [if_neg e];have hxy:ltF (Fb x) (Fb y):=by
     rcases to_F.tri (Fb x) (Fb y) with q|q|q
     ·exact q
     ·exact absurd ((L2 y x).2 q.symm) e
     ·exact absurd ((X3 y x).2 q) c
    have hall:∀w∈y::r,ltF (Fb x) (Fb w):=fun w hw=>by
     rcases Am.1 hw with rfl|hw
     ·exact hxy
     ·exact to_F.tr _ _ _ hxy (h1 w hw)
    have hne:∀w∈y::r,Fb w≠Fb x:=fun w hw q=>to_F.irr _ (by have:=hall w hw;rw [q] at this;exact this);refine ⟨A0.2 ⟨hall,h⟩,fun z=> ?_⟩;rw [Am];constructor
    ·rintro (rfl|h)
     ·exact .inl ⟨rfl,fun w hw q=>absurd q (hne w hw)⟩
     ·exact .inr ⟨h,fun q=>absurd q (hne z h)⟩
    ·rintro (⟨h,_⟩|⟨h,_⟩)
     ·exact .inl h
     ·exact .inr h
theorem Az7 (l:List Rec):Ef4 (sortR l)∧∀z,z∈sortR l↔Fg3 l z:=by
 refine Wz (P:=fun l=>Ef4 (sortR l)∧∀z,z∈sortR l↔Fg3 l z) ?_ ?_ _ l rfl
 ·refine ⟨List.Pairwise.nil,fun z=>⟨fun h=>by simp [sortR] at h,fun h=>by have:=h.mem;simp at this⟩⟩
 ·intro l x ih;have e:sortR (l++[x])=f7 x (sortR l):=by simp [sortR]
  obtain ⟨i1,i2⟩:=Cj9 x (sortR l) ih.1;rw [e];refine ⟨i1,fun z=> ?_⟩;rw [i2,Is,ih.2];have:(∀y∈sortR l,Fb y=Fb x→x.ttl<y.ttl)↔∀y∈l,Fb y=Fb x→x.ttl<y.ttl:=by
   constructor
   ·intro h y hy q;obtain ⟨w,w1,w2,w3⟩:=Gd6 l y hy;have:=h w ((ih.2 w).2 w1) (by rw [w2,q]);omega
   ·intro h y hy q;exact h y ((ih.2 y).1 hy).mem q
  rw [this]
theorem Bv7:∀(a b:List Rec),Ef4 a→Ef4 b→(∀x,x∈a↔x∈b)→a=b
 |[],[],_,_,_=>rfl
 |[],y::b,_,_,h=>absurd ((h y).2 (.head _)) (by simp)
 |x::a,[],_,_,h=>absurd ((h x).1 (.head _)) (by simp)
 |x::a,y::b,ha,hb,h=>by
  have ha':=A0.1 ha;have hb':=A0.1 hb;have hxy:x=y:=by
   rcases Am.1 ((h x).1 (.head _)) with h1|h1
   ·exact h1
   ·rcases Am.1 ((h y).2 (.head _)) with h2|h2
    ·exact h2.symm
    ·exact absurd (hb'.1 x h1) (to_F.asym (ha'.1 y h2))
  subst hxy;rw [Bv7 a b ha'.2 hb'.2 fun z=> ?_];constructor
  ·intro hz;rcases Am.1 ((h z).1 (.tail _ hz)) with rfl|h1
   ·exact absurd (ha'.1 z hz) (to_F.irr _)
   ·exact h1
  ·intro hz;rcases Am.1 ((h z).2 (.tail _ hz)) with rfl|h1
   ·exact absurd (hb'.1 z hz) (to_F.irr _)
   ·exact h1
abbrev eqF:Rec→Rec→Bool:=fun a b=>decide (Tw a b=0)
theorem Em0:∀(r:List Rec) (p:Rec),(p::r).Pairwise (fun a b=>leR a b=true)→(Ef4 (p::Qj eqF p r)∧∀z,z∈Qj eqF p r↔∃s1 s2,r=s1++z::s2∧∀y∈p::s1,Fb y≠Fb z)
 |[],p,_=>by simp [Qj]
 |c::r,p,h=>by
  obtain ⟨h1,h2⟩:=A0.1 h;obtain ⟨i1,i2⟩:=Em0 r c h2;have hpc:=(Mm p c).1 (h1 c (.head _));simp only [Qj];by_cases e:Tw c p=0
  ·rw [if_pos (by simp [e])];have ke:=(L2 c p).1 e;refine ⟨?_,fun z=> ?_⟩
   ·obtain ⟨j1,j2⟩:=A0.1 i1;exact A0.2 ⟨fun w hw=>by rw [←ke];exact j1 w hw,j2⟩
   ·rw [i2];constructor
    ·rintro ⟨s1,s2,rfl,q⟩;refine ⟨c::s1,s2,rfl,fun y hy=> ?_⟩;rcases Am.1 hy with rfl|hy
     ·rw [←ke];exact q c (.head _)
     ·exact q y hy
    ·rintro ⟨s1,s2,h,q⟩;cases s1 with
     |nil=>
      injection h with h _;subst h;exact absurd ke.symm (q p (.head _))
     |cons w s1=>
      injection h with h h';subst h;exact ⟨s1,s2,h',fun y hy=>q y (.tail _ hy)⟩
  ·rw [if_neg (by simp [e])];have ne:Fb c≠Fb p:=fun q=>e ((L2 c p).2 q);have hlt:ltF (Fb p) (Fb c):=by
    rcases to_F.tri (Fb p) (Fb c) with q|q|q
    ·exact q
    ·exact absurd q.symm ne
    ·exact absurd (.inl q) hpc
   obtain ⟨j1,j2⟩:=A0.1 i1;refine ⟨A0.2 ⟨fun w hw=> ?_,i1⟩,fun z=> ?_⟩
   ·rcases Am.1 hw with rfl|hw
    ·exact hlt
    ·exact to_F.tr _ _ _ hlt (j1 w hw)
   ·rw [Am];constructor
    ·rintro (rfl|hz)
     ·exact ⟨[],r,rfl,fun y hy=>by have:y=p:=by simpa using hy
                                   subst this;exact ne.symm⟩
     ·obtain ⟨s1,s2,rfl,q⟩:=(i2 z).1 hz;refine ⟨c::s1,s2,rfl,fun y hy=> ?_⟩;rcases Am.1 hy with rfl|hy
      ·intro q2;exact to_F.irr _ (by have:=to_F.tr _ _ _ hlt (j1 z hz);rw [q2] at this;exact this)
      ·exact q y hy
    ·rintro ⟨s1,s2,h,q⟩;cases s1 with
     |nil=>injection h with h _;exact .inl h.symm
     |cons w s1=>
      injection h with h h';subst h;exact .inr ((i2 z).2 ⟨s1,s2,h',fun y hy=>q y (.tail _ hy)⟩)
theorem Jj2 (s:List Rec) (h:s.Pairwise fun a b=>leR a b=true):Ef4 (cpt eqF s)∧∀z,z∈cpt eqF s↔∃s1 s2,s=s1++z::s2∧∀y∈s1,Fb y≠Fb z:=by
 cases s with
 |nil=>simp [cpt]
 |cons p r=>
  obtain ⟨i1,i2⟩:=Em0 r p h;refine ⟨i1,fun z=> ?_⟩;show z∈p::Qj eqF p r↔_;rw [Am,i2];constructor
  ·rintro (rfl|⟨s1,s2,rfl,q⟩)
   ·exact ⟨[],r,rfl,by simp⟩
   ·exact ⟨p::s1,s2,rfl,q⟩
  ·rintro ⟨s1,s2,h,q⟩;cases s1 with
   |nil=>injection h with h _;exact .inl h.symm
   |cons w s1=>
    injection h with h h';subst h;exact .inr ⟨s1,s2,h',q⟩
theorem tn {s l:List Rec} (h:Stab leR s l):cpt eqF s=sortR l:=by
 obtain ⟨i1,i2⟩:=Jj2 s h.sorted;obtain ⟨j1,j2⟩:=Az7 l;refine Bv7 _ _ i1 j1 fun z=> ?_;rw [i2,j2];have hz:eqv leR z z=true:=(Cq1 z z).2 ⟨rfl,rfl⟩;have hm:=h.mem Ik4;constructor
 ·rintro ⟨s1,s2,rfl,q⟩;have hs1:s1.filter (eqv leR z)=[]:=by rw [Gr];intro y hy hyz;exact q y hy ((Cq1 z y).1 hyz).1.symm
  have hc:=h.cls z;rw [Gj,hs1,Cf,Em hz] at hc;obtain ⟨l1,l2,rfl,g1,_,_⟩:=List.filter_eq_cons_iff.1 hc.symm;have key:∀y,y∈l1++z::l2→Fb y=Fb z→z.ttl≤y.ttl:=fun y hy e=>by
   rcases Bt.1 ((hm y).2 hy) with w|w
   ·exact absurd e (q y w)
   ·rcases Am.1 w with rfl|w
    ·exact Jk0 _
    ·have:=(Mm z y).1 ((A0.1 (Er.1 h.sorted).2.1).1 y w);exact Int.le_of_not_gt fun t=>this (.inr ⟨e,t⟩)
  refine ⟨l1,l2,rfl,fun y hy e=> ?_,fun y hy e=>key y (by simp [hy]) e⟩;have k1:=key y (by simp [hy]) e;have k2:=g1 y hy;rw [Cq1] at k2;have:z.ttl≠y.ttl:=fun t=>k2 ⟨e.symm,t⟩;omega
 ·rintro ⟨l1,l2,rfl,q1,q2⟩;have hl1:l1.filter (eqv leR z)=[]:=by rw [Gr];intro y hy hyz;obtain ⟨a,b⟩:=(Cq1 z y).1 hyz;have:=q1 y hy a.symm;omega
  have hc:=h.cls z;rw [Gj,hl1,Cf,Em hz] at hc;obtain ⟨s1,s2,rfl,g1,_,_⟩:=List.filter_eq_cons_iff.1 hc;refine ⟨s1,s2,rfl,fun y hy e=> ?_⟩;have k1:=(Mm y z).1 ((Er.1 h.sorted).2.2 y hy z (by simp));have k2:¬z.ttl<y.ttl:=fun t=>k1 (.inr ⟨e.symm,t⟩);have k3:z.ttl≤y.ttl:=by
   rcases Bt.1 ((hm y).1 (by simp [hy])) with w|w
   ·have:=q1 y w e;omega
   ·rcases Am.1 w with rfl|w
    ·exact Jk0 _
    ·exact q2 y w e
  exact g1 y hy ((Cq1 z y).2 ⟨e.symm,by omega⟩)
end Go.X.G
/- Merging in place, in plain words: where two sorted lists may be cut. -/
namespace Go.X.G
open Go Go.X
theorem Lg {α:Type} {le:α→α→Bool} (ht:TP le) {l:List α} (h:l.Pairwise fun x y=>le x y=true) {i j:Nat} {x y:α} (hij:i≤j) (hi:l[i]? =some x) (hj:l[j]? =some y):le x y=true:=by
 rcases Nat.lt_or_eq_of_le hij with h1|h1
 ·obtain ⟨a1,a2⟩:=Av.1 hi;obtain ⟨b1,b2⟩:=Av.1 hj;have:=G9.1 h i j a1 b1 h1;rw [a2,b2] at this;exact this
 ·subst h1;rw [hi] at hj;injection hj with hj;subst hj;exact ht.refl x
theorem R4 {α:Type} {le:α→α→Bool} (ht:TP le) {A B:List α} (hA:A.Pairwise fun x y=>le x y=true) (hB:B.Pairwise fun x y=>le x y=true) (i j:Nat)
  (h1:∀x y,i≠0→A[i - 1]? =some x→B[j]? =some y→le x y=true) (h2:∀x y,j≠0→A[i]? =some x→B[j - 1]? =some y→le x y=false) (hi:i≤A.length) (hj:j≤B.length):
  mrg le A B=mrg le (A.take i) (B.take j)++mrg le (A.drop i) (B.drop j):=by
 conv=>lhs;rw [←B0 i A,←B0 j B]
 refine K4 le _ _ _ _ (fun x hx y hy=> ?_) (fun x hx y hy=> ?_)
 ·obtain ⟨p,hp⟩:=C9 hx;obtain ⟨q,hq⟩:=C9 hy;have hpl:p<i:=by have:=(Av.1 hp).1;rw [Ar] at this;omega
  rw [List.getElem?_take_of_lt hpl] at hp;rw [A9] at hq;have hql:=(Av.1 hq).1;have a1:A[i - 1]? =some A[i - 1]:=Az (by omega);have b1:B[j]? =some B[j]:=Az (by omega);have s1:=Lg ht hA (i:=p) (j:=i - 1) (by omega) hp a1;have s2:=Lg ht hB (i:=j) (j:=j+q) (by omega) b1 hq;exact ht.tr _ _ _ s1 (ht.tr _ _ _ (h1 _ _ (by omega) a1 b1) s2)
 ·obtain ⟨p,hp⟩:=C9 hx;obtain ⟨q,hq⟩:=C9 hy;rw [A9] at hp;have hpl:=(Av.1 hp).1;have hql:q<j:=by have:=(Av.1 hq).1;rw [Ar] at this;omega
  rw [List.getElem?_take_of_lt hql] at hq;have a1:A[i]? =some A[i]:=Az (by omega);have b1:B[j - 1]? =some B[j - 1]:=Az (by omega);have s1:=Lg ht hA (i:=i) (j:=i+p) (by omega) a1 hp;have s2:=Lg ht hB (i:=q) (j:=j - 1) (by omega) hq b1;rcases Aq (le x y) with q1|q1
  ·have:=h2 _ _ (by omega) a1 b1;rw [ht.tr _ _ _ s1 (ht.tr _ _ _ q1 s2)] at this;cases this
  ·exact q1
end Go.X.G
/- Rows of records that are turned in place: swaps and rotations. -/
namespace Go.X.G
open Go Go.X
def sl {α:Type} (s:List α) (i j:Nat):List α:=(s.take j).drop i
def swapR {α:Type} (s:List α) (a b:Nat):Nat→List α
 |0=>s
 |k+1=>match s[a+k]?,s[b+k]? with
  |some x,some y=>(swapR s a b k|>.set (a+k) y).set (b+k) x
  |_,_=>swapR s a b k
theorem Nk {α:Type} (s:List α) (a b:Nat):∀k,(swapR s a b k).length=s.length
 |0=>rfl
 |k+1=>by
  unfold swapR;split
  ·simp [Nk s a b k]
  ·exact Nk s a b k
theorem Nq {α:Type} (s:List α) (a b:Nat):∀(k i:Nat),a+k≤b→b+k≤s.length→
  (swapR s a b k)[i]? =if a≤i∧i<a+k then s[i - a+b]? else if b≤i∧i<b+k then s[i - b+a]? else s[i]?
 |0,i,_,_=>by unfold swapR;rw [if_neg (by omega),if_neg (by omega)]
 |k+1,i,h1,h2=>by
  have ih:=Nq s a b k i (by omega) (by omega);have hl:=Nk s a b k;unfold swapR;have ha:s[a+k]? =some s[a+k]:=Az (by omega);have hb:s[b+k]? =some s[b+k]:=Az (by omega);rw [ha,hb];simp only;rw [C4,C4];by_cases e1:b+k=i
  ·subst e1;rw [if_pos rfl,if_pos (by rw [F0,hl];omega),if_neg (by omega),if_pos (by omega),show b+k - b+a=a+k by omega,ha]
  ·rw [if_neg e1];by_cases e2:a+k=i
   ·subst e2;rw [if_pos rfl,if_pos (by rw [hl];omega),if_pos (by omega),show a+k - a+b=b+k by omega,hb]
   ·rw [if_neg e2,ih];by_cases c1:a≤i∧i<a+k
    ·rw [if_pos c1,if_pos (by omega)]
    ·by_cases c2:b≤i∧i<b+k
     ·rw [if_neg c1,if_pos c2,if_neg (show¬(a≤i∧i<a+(k+1)) by omega),if_pos (show b≤i∧i<b+(k+1) by omega)]
     ·rw [if_neg c1,if_neg c2,if_neg (show¬(a≤i∧i<a+(k+1)) by omega),if_neg (show¬(b≤i∧i<b+(k+1)) by omega)]
end Go.X.G
/- Rotations, in plain words. -/
namespace Go.X.G
open Go Go.X
theorem Bk3 {α:Type} (X A M B Y:List α) (h:A.length=B.length):swapR (X++A++M++B++Y) X.length (X.length+A.length+M.length) A.length=X++B++M++A++Y:=by
 apply List.ext_getElem?;intro i;rw [Nq _ _ _ _ _ (by omega) (by simp;omega)];simp only [List.getElem?_append,Ac]
 repeat' split
 all_goals first
  |(exfalso;omega)
  |rfl
  |(congr 1;omega)
end Go.X.G
/- Rows of records that are turned in place: the library's functions. -/
namespace Go.X.G
open Go Go.X
theorem Zy (s:List Rec) (a b n:Nat) (g:Nat) (caps:List PV) (h1:a+n≤b) (h2:b+n≤s.length) (hs:s.length≤1000000):S Pf 1048581 [Al s, .i .i64 (a:Int), .i .i64 (b:Int), .i .i64 (n:Int), .f g caps]=some [Al (swapR s a b n)]:=by
 refine Gt0 (N:=n+1) rfl ?_;have key:Br8.ev S (n+1) [Al s, .i .i64 (a:Int), .i .i64 (b:Int), .i .i64 (n:Int), .f g caps]=some (.yld 0 [Al (swapR s a b n)]):=by
  refine Gt n (fun i=>[.i .i64 (i:Int),Al (swapR s a b i)]) (fun _=> .yld 0 [Al (swapR s a b n)]) (by simp (disch:=omega) only [swapR,EVT,EVM,EVC,xe,EVP,EV,simprocAttr]) (by omega) (fun i hi=> ?_) ?_
  ·left;refine ⟨?_,rfl⟩;have hl:=Nk s a b i;have ga:=Nq s a b i (a+i) (by omega) (by omega);have gb:=Nq s a b i (b+i) (by omega) (by omega);rw [if_neg (by omega),if_neg (by omega)] at ga gb;have ha:s[a+i]? =some s[a+i]:=Az (by omega);have hb:s[b+i]? =some s[b+i]:=Az (by omega);rw [ha] at ga;rw [hb] at gb;have e:swapR s a b (i+1)=((swapR s a b i).set (a+i) s[b+i]).set (b+i) s[a+i]:=by
    conv=>lhs;unfold swapR
    rw [ha,hb]
   rw [e];generalize s[a+i]=x at*;generalize s[b+i]=y at*;generalize swapR s a b i=t at*;have ti1:((a:Int)+(i:Int)).toNat=a+i:=by omega
   have ti2:((b:Int)+(i:Int)).toNat=b+i:=by omega
   have g3:(t.set (a+i) y)[b+i]? =some y:=by rw [M2 (by omega)];exact gb
   have hlt:(t.set (a+i) y).length=s.length:=by rw [F0,hl]
   simp (disch:=first|omega|(rw [F0];omega)) only [At0,ti1,ti2,ga,gb,g3,EVT,EVM,EVC,xe,EVP,EV,simprocAttr]
  ·refine ⟨?_,rfl⟩;simp (disch:=omega) only [At0,EVT,EVM,EVC,xe,EVP,EV,simprocAttr]
 simp (disch:=omega) only [At0,key,EVT,EVM,EVC,xe,EVP,EV,simprocAttr]
end Go.X.G
/- Rotations: the library's function. -/
namespace Go.X.G
open Go Go.X
theorem J1 (X A M B Y:List Rec) (a b n:Int) (g:Nat) (caps:List PV) (ha:a=X.length) (hb:b=X.length+A.length+M.length) (hn:n=A.length) (h:A.length=B.length) (hs:(X++A++M++B++Y).length≤1000000):S Pf 1048581 [Al (X++A++M++B++Y), .i .i64 a, .i .i64 b, .i .i64 n, .f g caps]=some [Al (X++B++M++A++Y)]:=by subst ha;subst hn;have h1:=Zy (X++A++M++B++Y) X.length (X.length+A.length+M.length) A.length g caps (by omega) (by simp only [Ac];omega) hs;rw [Bk3 X A M B Y h] at h1;rw [hb];simpa using h1
theorem Bv5 (X A B Y:List Rec) (a m b:Int) (g:Nat) (caps:List PV) (ha:a=X.length) (hm:m=X.length+A.length) (hb:b=X.length+A.length+B.length) (hA:A≠[]) (hB:B≠[]) (hs:(X++A++B++Y).length≤1000000):
  S bq 1048581 [Al (X++A++B++Y), .i .i64 a, .i .i64 m, .i .i64 b, .f g caps]=some [Al (X++B++A++Y)]:=by
 have hA':0<A.length:=Bc.2 hA;have hB':0<B.length:=Bc.2 hB;have hs2:=hs;simp only [Ac] at hs2;refine Gt5 (N:=(X++A++B++Y).length+1) rfl ?_;have key:=G0 (fn:=S) (N:=(X++A++B++Y).length+1) (η:=[Al (X++A++B++Y), .i .i64 a, .i .i64 m, .i .i64 b, .f g caps]) (id:=1) (init:=[.bin .sub (.v 2) (.v 1), .bin .sub (.v 3) (.v 2), .v 0]) (body:=nk) (α:=List Rec×List Rec×List Rec×List Rec)
  (fun x=>[.i .i64 (x.2.1.length:Int), .i .i64 (x.2.2.1.length:Int),Al (x.1++x.2.1++x.2.2.1++x.2.2.2)])
  (fun o=>∃X' A' B' Y':List Rec,o= .yld 0 [.i .i64 (A'.length:Int),Al (X'++A'++B'++Y')]∧A'.length=B'.length∧(X'.length:Int)+A'.length=m∧X'++B'++A'++Y'=X++B++A++Y∧(X'++A'++B'++Y').length≤1000000)
  (fun x=>0<x.2.1.length∧0<x.2.2.1.length∧(x.1.length:Int)+x.2.1.length=m∧x.1++x.2.2.1++x.2.1++x.2.2.2=X++B++A++Y)
  (fun x=>x.2.1.length+x.2.2.1.length) (X,A,B,Y) ?_ ⟨hA',hB',by simp only;omega,rfl⟩ (by simp only [Ac];omega) ?_
 ·obtain ⟨o,ho,X',A',B',Y',rfl,e1,e2,e3,e4⟩:=key;have hsw:=J1 X' A' [] B' Y' (m - A'.length) m A'.length g caps (by omega) (by simp;omega) rfl e1 (by simpa using e4);simp only [Ds] at hsw;rw [e3] at hsw;have ht:Bs2.ev S ((X++A++B++Y).length+1) [Al (X++A++B++Y), .i .i64 a, .i .i64 m, .i .i64 b, .f g caps]=_:=ho;have hl:(X'++A'++B'++Y').length=(X++B++A++Y).length:=by rw [←e3];simp only [Ac];omega
  have hl2:A'.length≤1000000:=by simp only [Ac] at e4;omega
  generalize X'++A'++B'++Y'=t at*;generalize X++A++B++Y=s at*;generalize X++B++A++Y=u at*;simp (disch:=omega) only [o4,ht,hsw,D3,Kr,EVT,EVM,EVC,xe,EVP,EV,simprocAttr]
 ·generalize X++A++B++Y=s at*;have e1:b - m=(B.length:Int):=by omega
  have e2:m - a=(A.length:Int):=by omega
  simp (disch:=omega) only [e1,e2,EVT,EVM,EVC,xe,EVP,EV,simprocAttr]
 ·rintro ⟨X',A',B',Y'⟩ ⟨h1,h2,h3,h4⟩;simp only at h1 h2 h3 h4;have hl:(X'++A'++B'++Y').length≤1000000:=by have:=congrArg List.length h4;simp only [Ac] at this ⊢;omega
  have hl':=hl;simp only [Ac] at hl';by_cases hij:A'.length=B'.length
  ·right;refine ⟨.yld 0 [.i .i64 (A'.length:Int),Al (X'++A'++B'++Y')],?_,rfl,X',A',B',Y',rfl,hij,h3,h4,hl⟩;generalize X'++A'++B'++Y'=t at*;generalize X++A++B++Y=s at*;have hij':(A'.length:Int)=(B'.length:Int):=by omega
   simp (disch:=omega) only [o4,hij',EVT,EVM,EVC,xe,EVP,EV,simprocAttr]
  ·left;have hij':¬(A'.length:Int)=(B'.length:Int):=by omega
   by_cases hgt:B'.length<A'.length
   ·have hgt':(B'.length:Int)<(A'.length:Int):=by omega
    have eA:A'.take B'.length++A'.drop B'.length=A':=B0 _ _;have l1:(A'.take B'.length).length=B'.length:=by rw [Ar];omega
    have l2:(A'.drop B'.length).length=A'.length - B'.length:=B3;have hsw:=J1 X' (A'.take B'.length) (A'.drop B'.length) B' Y' (m - A'.length) m B'.length g caps (by omega) (by omega) (by omega) (by omega) (by rw [As X',eA];exact hl);rw [As X',eA] at hsw;refine ⟨(X'++B',A'.drop B'.length,A'.take B'.length,Y'),?_,⟨by simp only;omega,by simp only;omega,by simp only [Ac];omega,?_⟩,by simp only;omega⟩
    ·simp only;rw [l1,l2];have e1:((A'.length - B'.length:Nat):Int)=(A'.length:Int) - (B'.length:Int):=by omega
     rw [e1];generalize X'++B'++A'.drop B'.length++A'.take B'.length++Y'=u at*;generalize X'++A'++B'++Y'=t at*;generalize X++A++B++Y=s at*;simp (disch:=omega) only [o4,hij',hgt',hsw,D3,Kr,EVT,EVM,EVC,xe,EVP,EV,simprocAttr]
    ·simp only;rw [←h4,As (X'++B'),eA]
   ·have hgt':¬(B'.length:Int)<(A'.length:Int):=by omega
    have eB:B'.take (B'.length - A'.length)++B'.drop (B'.length - A'.length)=B':=B0 _ _;have l1:(B'.take (B'.length - A'.length)).length=B'.length - A'.length:=by rw [Ar];omega
    have l2:(B'.drop (B'.length - A'.length)).length=A'.length:=by rw [B3];omega
    have hsw:=J1 X' A' (B'.take (B'.length - A'.length)) (B'.drop (B'.length - A'.length)) Y' (m - A'.length) (m+B'.length - A'.length) A'.length g caps (by omega) (by omega) (by omega) (by omega) (by rw [As (X'++A'),eB];exact hl);rw [As (X'++A'),eB] at hsw;have ea:X'++B'.drop (B'.length - A'.length)++B'.take (B'.length - A'.length)++A'++Y'=X'++B'.drop (B'.length - A'.length)++B'.take (B'.length - A'.length)++(A'++Y'):=by simp
    refine ⟨(X',B'.drop (B'.length - A'.length),B'.take (B'.length - A'.length),A'++Y'),?_,⟨by simp only;omega,by simp only;omega,by simp only;omega,?_⟩,by simp only;omega⟩
    ·simp only;rw [l1,l2,←ea];have e1:((B'.length - A'.length:Nat):Int)=(B'.length:Int) - (A'.length:Int):=by omega
     rw [e1];generalize X'++B'.drop (B'.length - A'.length)++B'.take (B'.length - A'.length)++A'++Y'=u at*;generalize X'++A'++B'++Y'=t at*;generalize X++A++B++Y=s at*;simp (disch:=omega) only [o4,hij',hgt',hsw,D3,Kr,EVT,EVM,EVC,xe,EVP,EV,simprocAttr]
    ·simp only;rw [←h4,As X' (B'.take _),eB];simp
end Go.X.G
/- Sorting by blocks, in plain words. -/
namespace Go.X.G
open Go Go.X
structure Blk {α:Type} (le:α→α→Bool) (bs:Nat) (r l:List α):Prop where
 len:r.length=l.length
 st:∀k,Stab le ((r.drop (k*bs)).take bs) ((l.drop (k*bs)).take bs)
theorem Qx {α:Type} (le:α→α→Bool):Stab le ([]:List α) []:=⟨.nil,fun _=>rfl⟩
theorem ib {α:Type} (le:α→α→Bool) (x:α):Stab le [x] [x]:=⟨by simp,fun _=>rfl⟩
theorem Blk.nil {α:Type} (le:α→α→Bool) (bs:Nat):Blk le bs ([]:List α) []:=⟨rfl,fun k=>by rw [List.drop_nil,List.take_nil];exact Qx le⟩
theorem Blk.one {α:Type} {le:α→α→Bool} {bs:Nat} {r l:List α} (h:Stab le r l) (hl:r.length=l.length) (hb:r.length≤bs):Blk le bs r l:=⟨hl,fun k=>by
 cases k with
 |zero=>
  simp only [Nat.zero_mul,D2];rw [Dh hb,Dh (by omega)];exact h
 |succ k=>
  have:r.length≤(k+1)*bs:=by rw [Nat.succ_mul];omega
  rw [List.drop_of_length_le this,List.drop_of_length_le (by omega),List.take_nil];exact Qx le⟩
theorem eq {α:Type} (X Y:List α) (n m:Nat) (h:n=X.length+m):(X++Y).drop n=Y.drop m:=by rw [List.drop_append,List.drop_of_length_le (by omega),Cf];congr 1;omega
theorem Blk.app {α:Type} {le:α→α→Bool} {bs q:Nat} {X LX Y LY:List α} (hX:X.length=q*bs) (h1:Blk le bs X LX) (h2:Blk le bs Y LY):Blk le bs (X++Y) (LX++LY):=by
 have hL:=h1.len;refine ⟨by rw [Ac,Ac,h1.len,h2.len],fun k=> ?_⟩;by_cases hk:k<q
 ·have e:(k+1)*bs≤q*bs:=By _ hk;rw [Nat.succ_mul] at e;rw [List.drop_append_of_le_length (by omega),List.drop_append_of_le_length (by omega),List.take_append_of_le_length (by rw [B3];omega),List.take_append_of_le_length (by rw [B3];omega)];exact h1.st k
 ·have e:(k - q)*bs+q*bs=k*bs:=by rw [←B8];congr 1;omega
  rw [eq X Y (k*bs) ((k - q)*bs) (by omega),eq LX LY (k*bs) ((k - q)*bs) (by omega)];exact h2.st (k - q)
theorem Blk.all {α:Type} {le:α→α→Bool} {bs:Nat} {r l:List α} (h:Blk le bs r l) (hb:r.length≤bs):Stab le r l:=by have:=h.st 0;have hl:=h.len;simp only [Nat.zero_mul,D2] at this;rwa [Dh hb,Dh (by omega)] at this
theorem Blk.head {α:Type} {le:α→α→Bool} {bs:Nat} {r l:List α} (h:Blk le bs r l):Stab le (r.take bs) (l.take bs):=by simpa using h.st 0
theorem Blk.tail {α:Type} {le:α→α→Bool} {bs:Nat} {r l:List α} (h:Blk le bs r l):Blk le bs (r.drop bs) (l.drop bs):=⟨by simp [h.len],fun k=>by rw [C2,C2];have:=h.st (k+1);rw [Nat.succ_mul,Dc7] at this;exact this⟩
theorem Dn7 {α:Type} {le:α→α→Bool} (ht:TP le) {R1 R2 l:List α} {x:α} (h:Stab le (R1++R2) l) (h1:∀y∈R1,le y x=true) (h2:∀y∈R2,le y x=false):Stab le (R1++x::R2) (l++[x]):=by
 obtain ⟨hs,hc⟩:=h;refine ⟨?_,fun z=> ?_⟩
 ·rw [Er] at hs ⊢;refine ⟨hs.1,A0.2 ⟨fun y hy=>(ht.tot x y).resolve_right (by rw [h2 y hy];simp),hs.2.1⟩,fun a ha b hb=> ?_⟩;rcases Am.1 hb with rfl|hb
  ·exact h1 a ha
  ·exact hs.2.2 a ha b hb
 ·have:=hc z;rw [Gj] at this;rw [Gj,Gj,←this,Kh];by_cases hz:eqv le z x=true
  ·have hno:R2.filter (eqv le z)=[]:=by rw [Gr];intro w hw hzw;unfold eqv at hz hzw;simp only [Aw] at hz hzw;have:=ht.tr _ _ _ hzw.2 hz.1;rw [h2 w hw] at this;cases this
   rw [hno,if_pos hz];simp [hz]
  ·rw [if_neg hz];simp [hz]
theorem ig {α:Type} {le:α→α→Bool} (ht:TP le) {R:List α} {w x:α} (h:(R++[w]).Pairwise fun a b=>le a b=true) (hx:le w x=true):∀y∈R++[w],le y x=true:=by
 intro y hy;rcases Bt.1 hy with hy|hy
 ·exact ht.tr _ _ _ ((Er.1 h).2.2 y hy w (by simp)) hx
 ·have:y=w:=by simpa using hy
  rw [this];exact hx
theorem R3 {α:Type} (le:α→α→Bool):∀(a b:List α),(mrg le a b).length=a.length+b.length
 |[],b=>by simp [mrg]
 |x::a,[]=>by simp [mrg]
 |x::a,y::b=>by
  unfold mrg;split
  ·simp only [A6,R3 le a (y::b)];omega
  ·simp only [A6,R3 le (x::a) b];omega
termination_by a b=>a.length+b.length
end Go.X.G
/- Merging in place: the library's function. -/
namespace Go.X.G
open Go Go.X
theorem Ew (x:Int):bin .shr (.i .u64 x) (.i .u64 1)=some (.i .u64 (x / 2)):=by
 simp only [bin,L4];rw [if_neg (by decide)];have:(2:Int) ^ min (1:Int).toNat IntKind.u64.bits=2:=by decide
 rw [this,Int.fdiv_eq_ediv_of_nonneg _ (by decide)]
theorem Fl7 {α:Type} (P Q:List α) (x y:α):((P++x::y::Q).set P.length y).set (P.length+1) x=P++y::x::Q:=by rw [gv _ _ (Af _),V0,List.set_cons_zero,gv _ _ (by omega),show P.length+1 - P.length=1 by omega];rfl
theorem dt {α:Type} (P Q:List α) (x:α):(P++x::Q)[P.length]? =some x:=by simp
theorem j6 {α:Type} (P Q:List α) (x y:α):(P++x::y::Q)[P.length+1]? =some y:=by simp
structure Cmp (g:Nat) (caps:List PV) (c:Rec→Rec→Int) (P:Rec→Prop):Prop where
 ok:∀x y,P x→P y→S g 2 (x.pv::y.pv::caps)=some [.i .i64 (c x y)]
def leC (c:Rec→Rec→Int) (x y:Rec):Bool:= !decide (c y x<0)
theorem Eq0 {c:Rec→Rec→Int} {x y:Rec}:leC c x y=true↔¬c y x<0:=by simp [leC]
theorem Eq1 {c:Rec→Rec→Int} {x y:Rec}:leC c x y=false↔c y x<0:=by simp [leC]
section
variable {g:Nat} {caps:List PV} {c:Rec→Rec→Int} {P:Rec→Prop}
theorem Iz9 (h:Cmp g caps c P) (X B Y:List Rec) (x:Rec) (s:List Rec) (hsd:s=X++x::(B++Y)) (a m b:Int) (ha:a=X.length) (hm:m=a+1) (hb:b=m+B.length) (hs:s.length≤1000000) (hP:∀y∈s,P y) (N:Nat) (hN:B.length<N):
  ∃p:Nat,Bs5.ev S N [Al s, .i .i64 a, .i .i64 m, .i .i64 b, .f g caps]=some (.yld 0 [.i .i64 (m+p)])∧p≤B.length∧(∀y,p≠0→B[p - 1]? =some y→c y x<0)∧∀y,B[p]? =some y→¬c y x<0:=by
 have hl:s.length=X.length+1+B.length+Y.length:=by rw [hsd];simp;omega
 have hx:s[X.length]? =some x:=by rw [hsd];exact dt _ _ _
 have hB:∀k y,B[k]? =some y→s[X.length+1+k]? =some y:=fun k y hk=>by have:=(Av.1 hk).1;rw [hsd,A3 (by omega),show X.length+1+k - X.length=k+1 by omega,D1,Bj this,hk]
 have hPx:P x:=hP x (by rw [hsd];simp);have key:=G0 (fn:=S) (N:=N) (η:=[Al s, .i .i64 a, .i .i64 m, .i .i64 b, .f g caps]) (id:=1) (init:=[.v 2, .v 3]) (body:=nq) (α:=Nat×Nat)
  (fun w=>[.i .i64 (m+w.1), .i .i64 (m+w.2)])
  (fun o=>∃p:Nat,o= .yld 0 [.i .i64 (m+p)]∧p≤B.length∧(∀y,p≠0→B[p - 1]? =some y→c y x<0)∧∀y,B[p]? =some y→¬c y x<0)
  (fun w=>w.1≤w.2∧w.2≤B.length∧(∀y,w.1≠0→B[w.1 - 1]? =some y→c y x<0)∧∀y,B[w.2]? =some y→¬c y x<0)
  (fun w=>w.2 - w.1) (0,B.length) ?_ ?_ (by simp only;omega) ?_
 ·obtain ⟨o,h1,p,rfl,h2⟩:=key;exact ⟨p,h1,h2⟩
 ·subst hb;simp (disch:=omega) only [EVT,EVM,EVC,xe,EVP,EV,simprocAttr];simp
 ·refine ⟨by simp,by simp,fun y h0=>absurd rfl h0,fun y hy=> ?_⟩;simp at hy
 ·rintro ⟨p,q⟩ ⟨h1,h2,h3,h4⟩;simp only at h1 h2 h3 h4;by_cases hpq:p<q
  ·left;have hk:(p+q) / 2<B.length:=by omega
   have hy:=Az hk;generalize B[(p+q) / 2]=y at hy;have hsy:=hB _ y hy;have hPy:P y:=hP y (A4 hsy);have hc:=h.ok y x hPy hPx;have hlt:m+(p:Int)<m+(q:Int):=by omega
   have e1:(m+(p:Int)+(m+(q:Int))) / 2=m+(((p+q) / 2:Nat):Int):=by omega
   have e2:(m+(((p+q) / 2:Nat):Int)).toNat=X.length+1+(p+q) / 2:=by omega
   have e3:a.toNat=X.length:=by omega
   by_cases hcy:c y x<0
   ·refine ⟨((p+q) / 2+1,q),?_,⟨by simp only;omega,h2,fun z _ hz=> ?_,h4⟩,by simp only;omega⟩
    ·have e4:m+(((p+q) / 2+1:Nat):Int)=m+(((p+q) / 2:Nat):Int)+1:=by omega
     simp only [e4];generalize (p+q) / 2=k at*;simp (disch:=omega) only [Et,hlt,Ew,e1,e2,e3,hsy,hx,hc,hcy,EVT,EVM,EVC,xe,EVP,EV,simprocAttr]
    ·simp only [V1] at hz;rw [hy] at hz;injection hz with hz;subst hz;exact hcy
   ·refine ⟨(p,(p+q) / 2),?_,⟨by simp only;omega,by simp only;omega,h3,fun z hz=> ?_⟩,by simp only;omega⟩
    ·simp only;generalize (p+q) / 2=k at*;simp (disch:=omega) only [Et,hlt,Ew,e1,e2,e3,hsy,hx,hc,hcy,EVT,EVM,EVC,xe,EVP,EV,simprocAttr]
    ·simp only at hz;rw [hy] at hz;injection hz with hz;subst hz;exact hcy
  ·right;have e:p=q:=by omega
   subst e;have hlt:¬m+(p:Int)<m+(p:Int):=by omega
   refine ⟨.yld 0 [.i .i64 (m+p)],?_,rfl,p,rfl,h2,h3,h4⟩;simp (disch:=omega) only [Et,hlt,EVT,EVM,EVC,xe,EVP,EV,simprocAttr]
theorem Ib1 (L L':List Rec) (i:Nat) (x y:Rec) (g0:L[i]? =some x) (g1:L[i+1]? =some y) (sw:(L.set i y).set (i+1) x=L') (k e:Int) (hk:k=i) (he:k<e - 1) (he2:e≤1000000) (hL:L.length≤1000000) (w0 w1 w2 w3 w4:PV) (N:Nat):
  Yv.ev S N [w0,w1,w2,w3,w4, .i .i64 e, .i .i64 k,Al L]=some (.yld 1 [.i .i64 (k+1),Al L']):=by
 have hi:=(Av.1 g1).1;have ti0:k.toNat=i:=by omega
 have ti1:(k+1).toNat=i+1:=by omega
 have g2:(L.set i y)[i+1]? =some y:=by rw [M2 (by omega)];exact g1
 simp (disch:=first|omega|(rw [F0];omega)) only [Et,he,ti0,ti1,g0,g1,g2,sw,EVT,EVM,EVC,xe,EVP,EV,simprocAttr]
theorem Ib0 (L L':List Rec) (i:Nat) (x y:Rec) (g0:L[i]? =some x) (g1:L[i+1]? =some y) (sw:(L.set (i+1) x).set i y=L') (k e:Int) (hk:k=i+1) (he:e<k) (he2:0≤e) (hL:L.length≤1000000) (w0 w1 w2 w3 w4:PV) (N:Nat):
  Yq.ev S N [w0,w1,w2,w3,w4, .i .i64 e, .i .i64 k,Al L]=some (.yld 1 [.i .i64 (k - 1),Al L']):=by
 have hi:=(Av.1 g1).1;have ti0:(k - 1).toNat=i:=by omega
 have ti1:k.toNat=i+1:=by omega
 have g2:(L.set (i+1) x)[i]? =some x:=by rw [M2 (by omega)];exact g0
 simp (disch:=first|omega|(rw [F0];omega)) only [Et,he,ti0,ti1,g0,g1,g2,sw,EVT,EVM,EVC,xe,EVP,EV,simprocAttr]
theorem Iz8 (X B Y:List Rec) (x:Rec) (s:List Rec) (hsd:s=X++x::(B++Y)) (a m b:Int) (w:PV) (p:Nat) (ha:a=X.length) (hm:m=a+1) (hp:p≤B.length) (hs:s.length≤1000000) (N:Nat) (hN:B.length<N) (w1 w2 w3:PV):
  Br0.ev S N [Al s, .i .i64 a,w1,w2,w3, .i .i64 (m+p)]=some (.yld 0 [Al (X++(B.take p++x::B.drop p)++Y)]):=by
 have hl:s.length=X.length+1+B.length+Y.length:=by rw [hsd];simp;omega
 refine Gt p (fun t=>[.i .i64 (a+t),Al ((X++B.take t)++x::(B.drop t++Y))]) (fun _=> .yld 0 [Al (X++(B.take p++x::B.drop p)++Y)]) ?_ (by omega) (fun t ht=> ?_) ?_
 ·simp (disch:=omega) only [EVT,EVM,EVC,xe,EVP,EV,simprocAttr];rw [hsd];simp
 ·left;refine ⟨?_,rfl⟩;have hlt:t<B.length:=by omega
  have hy:=Az hlt;have hd:B.drop t=B[t]::B.drop (t+1):=Dz hlt;have htk:B.take (t+1)=B.take t++[B[t]]:=by rw [Ct,hy];rfl
  have e0:X++B.take (t+1)++x::(B.drop (t+1)++Y)=X++B.take t++B[t]::x::(B.drop (t+1)++Y):=by rw [htk];simp only [As,B5,Cf]
  show Yv.ev S N ([Al s, .i .i64 a,w1,w2,w3, .i .i64 (m+p)]++[.i .i64 (a+t),Al ((X++B.take t)++x::(B.drop t++Y))])=some (.yld 1 [.i .i64 (a+((t+1:Nat):Int)),Al ((X++B.take (t+1))++x::(B.drop (t+1)++Y))]);rw [e0,hd,B5];generalize B[t]=y at*;have lP:(X++B.take t).length=X.length+t:=by rw [Ac,Ar];omega
  have sw:=Fl7 (X++B.take t) (B.drop (t+1)++Y) x y;have g0:=dt (X++B.take t) (y::(B.drop (t+1)++Y)) x;have g1:=j6 (X++B.take t) (B.drop (t+1)++Y) x y;have lL:(X++B.take t++x::y::(B.drop (t+1)++Y)).length=s.length:=by rw [hl];simp only [Ac,A6,Ar,B3];omega
  rw [lP] at sw g0 g1;have e5:a+((t+1:Nat):Int)=a+(t:Int)+1:=by omega
  rw [e5];exact Ib1 _ _ (X.length+t) x y g0 g1 sw (a+t) (m+p) (by omega) (by omega) (by omega) (by omega) _ _ _ _ _ N
 ·refine ⟨?_,rfl⟩;have hlt2:¬a+(p:Int)<m+(p:Int) - 1:=by omega
  have e0:X++B.take p++x::(B.drop p++Y)=X++(B.take p++x::B.drop p)++Y:=by simp
  rw [e0];simp (disch:=omega) only [Et,hlt2,EVT,EVM,EVC,xe,EVP,EV,simprocAttr]
theorem Iz7 (h:Cmp g caps c P) (X A Y:List Rec) (x:Rec) (s:List Rec) (hsd:s=X++(A++x::Y)) (a m:Int) (w:PV) (ha:a=X.length) (hm:m=a+A.length) (hs:s.length≤1000000) (hP:∀y∈s,P y) (N:Nat) (hN:A.length<N):
  ∃p:Nat,Bp7.ev S N [Al s, .i .i64 a, .i .i64 m,w, .f g caps]=some (.yld 0 [.i .i64 (a+p)])∧p≤A.length∧(∀y,p≠0→A[p - 1]? =some y→¬c x y<0)∧∀y,A[p]? =some y→c x y<0:=by
 have hl:s.length=X.length+A.length+1+Y.length:=by rw [hsd];simp;omega
 have hx:s[X.length+A.length]? =some x:=by rw [hsd,←As,←Ac];exact dt _ _ _
 have hA:∀k y,A[k]? =some y→s[X.length+k]? =some y:=fun k y hk=>by have:=(Av.1 hk).1;rw [hsd,A3 (by omega),show X.length+k - X.length=k by omega,Bj this,hk]
 have hPx:P x:=hP x (by rw [hsd];simp);have key:=G0 (fn:=S) (N:=N) (η:=[Al s, .i .i64 a, .i .i64 m,w, .f g caps]) (id:=1) (init:=[.v 1, .v 2]) (body:=mt) (α:=Nat×Nat)
  (fun w=>[.i .i64 (a+w.1), .i .i64 (a+w.2)])
  (fun o=>∃p:Nat,o= .yld 0 [.i .i64 (a+p)]∧p≤A.length∧(∀y,p≠0→A[p - 1]? =some y→¬c x y<0)∧∀y,A[p]? =some y→c x y<0)
  (fun w=>w.1≤w.2∧w.2≤A.length∧(∀y,w.1≠0→A[w.1 - 1]? =some y→¬c x y<0)∧∀y,A[w.2]? =some y→c x y<0)
  (fun w=>w.2 - w.1) (0,A.length) ?_ ?_ (by simp only;omega) ?_
 ·obtain ⟨o,h1,p,rfl,h2⟩:=key;exact ⟨p,h1,h2⟩
 ·subst hm;simp (disch:=omega) only [EVT,EVM,EVC,xe,EVP,EV,simprocAttr];simp
 ·refine ⟨by simp,by simp,fun y h0=>absurd rfl h0,fun y hy=> ?_⟩;simp at hy
 ·rintro ⟨p,q⟩ ⟨h1,h2,h3,h4⟩;simp only at h1 h2 h3 h4;by_cases hpq:p<q
  ·left;have hk:(p+q) / 2<A.length:=by omega
   have hy:=Az hk;generalize A[(p+q) / 2]=y at hy;have hsy:=hA _ y hy;have hPy:P y:=hP y (A4 hsy);have hc:=h.ok x y hPx hPy;have hlt:a+(p:Int)<a+(q:Int):=by omega
   have e1:(a+(p:Int)+(a+(q:Int))) / 2=a+(((p+q) / 2:Nat):Int):=by omega
   have e2:(a+(((p+q) / 2:Nat):Int)).toNat=X.length+(p+q) / 2:=by omega
   have e3:m.toNat=X.length+A.length:=by omega
   by_cases hcy:c x y<0
   ·refine ⟨(p,(p+q) / 2),?_,⟨by simp only;omega,by simp only;omega,h3,fun z hz=> ?_⟩,by simp only;omega⟩
    ·simp only;generalize (p+q) / 2=k at*;simp (disch:=omega) only [Et,hlt,Ew,e1,e2,e3,hsy,hx,hc,hcy,EVT,EVM,EVC,xe,EVP,EV,simprocAttr]
    ·simp only at hz;rw [hy] at hz;injection hz with hz;subst hz;exact hcy
   ·refine ⟨((p+q) / 2+1,q),?_,⟨by simp only;omega,h2,fun z _ hz=> ?_,h4⟩,by simp only;omega⟩
    ·have e4:a+(((p+q) / 2+1:Nat):Int)=a+(((p+q) / 2:Nat):Int)+1:=by omega
     simp only [e4];generalize (p+q) / 2=k at*;simp (disch:=omega) only [Et,hlt,Ew,e1,e2,e3,hsy,hx,hc,hcy,EVT,EVM,EVC,xe,EVP,EV,simprocAttr]
    ·simp only [V1] at hz;rw [hy] at hz;injection hz with hz;subst hz;exact hcy
  ·right;have e:p=q:=by omega
   subst e;have hlt:¬a+(p:Int)<a+(p:Int):=by omega
   refine ⟨.yld 0 [.i .i64 (a+p)],?_,rfl,p,rfl,h2,h3,h4⟩;simp (disch:=omega) only [Et,hlt,EVT,EVM,EVC,xe,EVP,EV,simprocAttr]
theorem Iz6 (X A Y:List Rec) (x:Rec) (s:List Rec) (hsd:s=X++(A++x::Y)) (a m:Int) (p:Nat) (ha:a=X.length) (hm:m=a+A.length) (hp:p≤A.length) (hs:s.length≤1000000) (N:Nat) (hN:A.length<N) (w1 w2 w3:PV):
  Bp6.ev S N [Al s,w1, .i .i64 m,w2,w3, .i .i64 (a+p)]=some (.yld 0 [Al (X++(A.take p++x::A.drop p)++Y)]):=by
 have hl:s.length=X.length+A.length+1+Y.length:=by rw [hsd];simp;omega
 refine Gt (A.length - p) (fun t=>[.i .i64 (m - t),Al ((X++A.take (A.length - t))++x::(A.drop (A.length - t)++Y))]) (fun _=> .yld 0 [Al (X++(A.take p++x::A.drop p)++Y)]) ?_ (by omega) (fun t ht=> ?_) ?_
 ·simp (disch:=omega) only [EVT,EVM,EVC,xe,EVP,EV,simprocAttr];rw [hsd];simp
 ·left;refine ⟨?_,rfl⟩;obtain ⟨u,hu⟩:∃u,A.length - t=u+1:=⟨A.length - t - 1,by omega⟩;have hlt:u<A.length:=by omega
  have hy:=Az hlt;have hd:A.drop u=A[u]::A.drop (u+1):=Dz hlt;have htk:A.take (u+1)=A.take u++[A[u]]:=by rw [Ct,hy];rfl
  have e1:A.length - (t+1)=u:=by omega
  have e0:X++A.take (u+1)++x::(A.drop (u+1)++Y)=X++A.take u++A[u]::x::(A.drop (u+1)++Y):=by rw [htk];simp only [As,B5,Cf]
  show Yq.ev S N ([Al s,w1, .i .i64 m,w2,w3, .i .i64 (a+p)]++[.i .i64 (m - t),Al ((X++A.take (A.length - t))++x::(A.drop (A.length - t)++Y))])=some (.yld 1 [.i .i64 (m - ((t+1:Nat):Int)),Al ((X++A.take (A.length - (t+1)))++x::(A.drop (A.length - (t+1))++Y))]);rw [hu,e1,e0,hd,B5];generalize A[u]=y at*;have lP:(X++A.take u).length=X.length+u:=by rw [Ac,Ar];omega
  have sw0:((X++A.take u++y::x::(A.drop (u+1)++Y)).set (X.length+u+1) y).set (X.length+u) x=X++A.take u++x::y::(A.drop (u+1)++Y):=by rw [←lP,List.set_comm _ _ (by omega)];exact Fl7 (X++A.take u) (A.drop (u+1)++Y) y x
  have g0:=dt (X++A.take u) (x::(A.drop (u+1)++Y)) y;have g1:=j6 (X++A.take u) (A.drop (u+1)++Y) y x;have lL:(X++A.take u++y::x::(A.drop (u+1)++Y)).length=s.length:=by rw [hl];simp only [Ac,A6,Ar,B3];omega
  rw [lP] at g0 g1;have e5:m - ((t+1:Nat):Int)=m - (t:Int) - 1:=by omega
  rw [e5];exact Ib0 _ _ (X.length+u) y x g0 g1 sw0 (m - t) (a+p) (by omega) (by omega) (by omega) (by omega) _ _ _ _ _ N
 ·refine ⟨?_,rfl⟩;have hlt2:¬a+(p:Int)<m - ((A.length - p:Nat):Int):=by omega
  have e1:A.length - (A.length - p)=p:=by omega
  have e0:X++A.take p++x::(A.drop p++Y)=X++(A.take p++x::A.drop p)++Y:=by simp
  rw [e1,e0];simp (disch:=omega) only [Et,hlt2,EVT,EVM,EVC,xe,EVP,EV,simprocAttr]
end
end Go.X.G
/- Merging in place: the library's function, the Md. -/
namespace Go.X.G
open Go Go.X
section
variable {g:Nat} {caps:List PV} {c:Rec→Rec→Int} {P:Rec→Prop}
theorem Iz5 (hC:Cmp g caps c P) (X A B Y:List Rec) (s:List Rec) (hsd:s=X++(A++(B++Y))) (a m b mid:Int) (h i0 j0:Nat) (ha:a=X.length) (hm:m=a+A.length) (hb:b=m+B.length) (hM:(a+b) / 2=mid) (hmid:mid=a+h)
  (h1:i0≤j0) (h2:j0≤A.length) (h3:j0≤h) (h4:h≤i0+B.length) (hs:s.length≤1000000) (hP:∀y∈s,P y) (N:Nat) (hN:A.length<N):
  ∃i:Nat,Bp5.ev S N [Al s, .i .i64 a, .i .i64 m, .i .i64 b, .f g caps, .i .i64 (a+i0), .i .i64 (a+j0)]=some (.yld 0 [.i .i64 (a+i)])∧i0≤i∧i≤j0∧
   (∀x y,i≠i0→A[i - 1]? =some x→B[h - i]? =some y→¬c y x<0)∧∀x y,i≠j0→A[i]? =some x→B[h - 1 - i]? =some y→c y x<0:=by
 have hl:s.length=X.length+A.length+B.length+Y.length:=by rw [hsd];simp;omega
 have hA:∀k y,A[k]? =some y→s[X.length+k]? =some y:=fun k y hk=>by have:=(Av.1 hk).1;rw [hsd,A3 (by omega),show X.length+k - X.length=k by omega,Bj this,hk]
 have hB:∀k y,B[k]? =some y→s[X.length+A.length+k]? =some y:=fun k y hk=>by have:=(Av.1 hk).1;rw [hsd,A3 (by omega),A3 (by omega),show X.length+A.length+k - X.length - A.length=k by omega,Bj this,hk]
 have key:=G0 (fn:=S) (N:=N) (η:=[Al s, .i .i64 a, .i .i64 m, .i .i64 b, .f g caps, .i .i64 (a+i0), .i .i64 (a+j0)]) (id:=1) (init:=[.v 5, .v 6]) (body:=mr) (α:=Nat×Nat)
  (fun w=>[.i .i64 (a+w.1), .i .i64 (a+w.2)])
  (fun o=>∃i:Nat,o= .yld 0 [.i .i64 (a+i)]∧i0≤i∧i≤j0∧(∀x y,i≠i0→A[i - 1]? =some x→B[h - i]? =some y→¬c y x<0)∧∀x y,i≠j0→A[i]? =some x→B[h - 1 - i]? =some y→c y x<0)
  (fun w=>w.1≤w.2∧i0≤w.1∧w.2≤j0∧(∀x y,w.1≠i0→A[w.1 - 1]? =some x→B[h - w.1]? =some y→¬c y x<0)∧∀x y,w.2≠j0→A[w.2]? =some x→B[h - 1 - w.2]? =some y→c y x<0)
  (fun w=>w.2 - w.1) (i0,j0) ?_ ?_ (by simp only;omega) ?_
 ·obtain ⟨o,h1,p,rfl,h2⟩:=key;exact ⟨p,h1,h2⟩
 ·simp (disch:=omega) only [EVT,EVM,EVC,xe,EVP,EV,simprocAttr]
 ·exact ⟨h1,Af _,Af _,fun x y h0=>absurd rfl h0,fun x y h0=>absurd rfl h0⟩
 ·rintro ⟨p,q⟩ ⟨g1,g2,g3,g4,g5⟩;simp only at g1 g2 g3 g4 g5;by_cases hpq:p<q
  ·left;have hk:(p+q) / 2<A.length:=by omega
   have hx:=Az hk;have hk2:h - 1 - (p+q) / 2<B.length:=by omega
   have hy:=Az hk2;generalize A[(p+q) / 2]=x at hx;generalize B[h - 1 - (p+q) / 2]=y at hy;have hsx:=hA _ x hx;have hsy:=hB _ y hy;have hPx:P x:=hP x (A4 hsx);have hPy:P y:=hP y (A4 hsy);have hc:=hC.ok y x hPy hPx;have hlt:a+(p:Int)<a+(q:Int):=by omega
   have e1:(a+(p:Int)+(a+(q:Int))) / 2=a+(((p+q) / 2:Nat):Int):=by omega
   have e2:(a+(((p+q) / 2:Nat):Int)).toNat=X.length+(p+q) / 2:=by omega
   have e3:(mid+m - 1 - (a+(((p+q) / 2:Nat):Int))).toNat=X.length+A.length+(h - 1 - (p+q) / 2):=by omega
   have hkh:(p+q) / 2<h:=by omega
   by_cases hcy:c y x<0
   ·refine ⟨(p,(p+q) / 2),?_,⟨by simp only;omega,g2,by simp only;omega,g4,fun u v _ hu hv=> ?_⟩,by simp only;omega⟩
    ·simp only;generalize (p+q) / 2=k at*;simp (disch:=omega) only [Et,hlt,Ew,hM,e1,e2,e3,hsy,hsx,hc,hcy,EVT,EVM,EVC,xe,EVP,EV,simprocAttr]
    ·simp only at hu hv;rw [hx] at hu;injection hu with hu;subst hu;rw [hy] at hv;injection hv with hv;subst hv;exact hcy
   ·refine ⟨((p+q) / 2+1,q),?_,⟨by simp only;omega,by simp only;omega,g3,fun u v _ hu hv=> ?_,g5⟩,by simp only;omega⟩
    ·have e4:a+(((p+q) / 2+1:Nat):Int)=a+(((p+q) / 2:Nat):Int)+1:=by omega
     simp only [e4];generalize (p+q) / 2=k at*;simp (disch:=omega) only [Et,hlt,Ew,hM,e1,e2,e3,hsy,hsx,hc,hcy,EVT,EVM,EVC,xe,EVP,EV,simprocAttr]
    ·simp only [V1] at hu hv;rw [show h - ((p+q) / 2+1)=h - 1 - (p+q) / 2 by omega] at hv;rw [hx] at hu;injection hu with hu;subst hu;rw [hy] at hv;injection hv with hv;subst hv;exact hcy
  ·right;have e:p=q:=by omega
   subst e;have hlt:¬a+(p:Int)<a+(p:Int):=by omega
   refine ⟨.yld 0 [.i .i64 (a+p)],?_,rfl,p,rfl,g2,g3,g4,g5⟩;simp (disch:=omega) only [Et,hlt,EVT,EVM,EVC,xe,EVP,EV,simprocAttr]
theorem Fs4 {le:Rec→Rec→Bool} (ht:TP le) {B:List Rec} (hB:B.Pairwise fun x y=>le x y=true) (x:Rec) (p:Nat) (hp:p≤B.length) (h1:∀y,p≠0→B[p - 1]? =some y→le x y=false) (h2:∀y,B[p]? =some y→le x y=true):mrg le [x] B=B.take p++x::B.drop p:=by have e1:=R4 ht (A:=[x]) (B:=B) (by simp) hB 0 p (fun u v h=>absurd rfl h) (fun u v h0 hu hv=>by simp at hu;subst hu;exact h1 v h0 hv) (by simp) hp;have e2:=R4 ht (A:=[x]) (B:=B.drop p) (by simp) (hB.sublist (List.drop_sublist p B)) 1 0 (fun u v _ hu hv=>by simp at hu;subst hu;rw [A9] at hv;exact h2 v hv) (fun u v h=>absurd rfl h) (by simp) (by simp);rw [e1];simp only [List.take_zero,D2,List.take_succ_cons,List.drop_succ_cons,K5] at e2 ⊢;rw [e2];simp [mrg]
theorem Fs3 {le:Rec→Rec→Bool} (ht:TP le) {A:List Rec} (hA:A.Pairwise fun x y=>le x y=true) (x:Rec) (p:Nat) (hp:p≤A.length) (h1:∀y,p≠0→A[p - 1]? =some y→le y x=true) (h2:∀y,A[p]? =some y→le y x=false):mrg le A [x]=A.take p++x::A.drop p:=by have e1:=R4 ht (A:=A) (B:=[x]) hA (by simp) p 0 (fun u v h0 hu hv=>by simp at hv;subst hv;exact h1 u h0 hu) (fun u v h=>absurd rfl h) hp (by simp);have e2:=R4 ht (A:=A.drop p) (B:=[x]) (hA.sublist (List.drop_sublist p A)) (by simp) 0 1 (fun u v h=>absurd rfl h) (fun u v _ hu hv=>by simp at hv;subst hv;rw [A9] at hu;exact h2 u hu) (by simp) (by simp);rw [e1];simp only [List.take_zero,D2,List.take_succ_cons,List.drop_succ_cons,K5] at e2 ⊢;rw [e2];simp [mrg]
set_option maxHeartbeats 2000000 in
theorem J0 (hC:Cmp g caps c P) (ht:TP (leC c)):∀(n:Nat) (X A B Y:List Rec) (a m b:Int),A.length+B.length≤n→A≠[]→B≠[]→(A.Pairwise fun x y=>leC c x y=true)→(B.Pairwise fun x y=>leC c x y=true)→
  a=X.length→m=a+A.length→b=m+B.length→(X++A++B++Y).length≤1000000→(∀y∈X++A++B++Y,P y)→
  S Pg 1048581 [Al (X++A++B++Y), .i .i64 a, .i .i64 m, .i .i64 b, .f g caps]=some [Al (X++mrg (leC c) A B++Y)]
 |0,X,A,B,Y,a,m,b,hn,hA,_,_,_,_,_,_,_,_=>absurd (Bb (by omega)) hA
 |n+1,X,A,B,Y,a,m,b,hn,hA,hB,sA,sB,ha,hm,hb,hs,hP=>by
  have hA':0<A.length:=Bc.2 hA;have hB':0<B.length:=Bc.2 hB;have hs2:=hs;simp only [Ac] at hs2;obtain ⟨N,hN⟩:∃N,N=A.length+B.length+1:=⟨_,rfl⟩;refine Hj3 (N:=N) rfl ?_;by_cases c1:A.length=1
  ·-- one ahead
   obtain ⟨x,rfl⟩:=List.length_eq_one_iff.1 c1;have hsd:X++[x]++B++Y=X++x::(B++Y):=by simp
   obtain ⟨p,k1,k2,k3,k4⟩:=Iz9 hC X B Y x (X++[x]++B++Y) hsd a m b ha (by simpa using hm) hb hs hP N (by omega);have k5:=Iz8 X B Y x (X++[x]++B++Y) hsd a m b .u p ha (by simpa using hm) k2 hs N (by omega) (.i .i64 m) (.i .i64 b) (.f g caps);have e:=Fs4 ht sB x p k2 (fun y h0 hy=>Eq1.2 (k3 y h0 hy)) (fun y hy=>Eq0.2 (k4 y hy));rw [e];have q1:m - a=1:=by simp at hm;omega
   generalize X++[x]++B++Y=s at*;generalize X++(List.take p B++x::List.drop p B)++Y=u at*;simp (disch:=omega) only [Et,q1,k1,k5,EVT,EVM,EVC,xe,EVP,EV,simprocAttr]
  ·by_cases c2:B.length=1
   ·obtain ⟨x,rfl⟩:=List.length_eq_one_iff.1 c2;have hsd:X++A++[x]++Y=X++(A++x::Y):=by simp
    obtain ⟨p,k1,k2,k3,k4⟩:=Iz7 hC X A Y x (X++A++[x]++Y) hsd a m (.i .i64 b) ha hm hs hP N (by omega);have k5:=Iz6 X A Y x (X++A++[x]++Y) hsd a m p ha hm k2 hs N (by omega) (.i .i64 a) (.i .i64 b) (.f g caps);have e:=Fs3 ht sA x p k2 (fun y h0 hy=>Eq0.2 (k3 y h0 hy)) (fun y hy=>Eq1.2 (k4 y hy));rw [e];have q1:¬m - a=1:=by omega
    have q2:b - m=1:=by simp at hb;omega
    generalize X++A++[x]++Y=s at*;generalize X++(List.take p A++x::List.drop p A)++Y=u at*;simp (disch:=omega) only [Et,q1,q2,k1,k5,EVT,EVM,EVC,xe,EVP,EV,simprocAttr]
   ·-- two parts of more
    have q1:¬m - a=1:=by omega
    have q2:¬b - m=1:=by omega
    obtain ⟨h,hh⟩:∃h,h=(A.length+B.length) / 2:=⟨_,rfl⟩;obtain ⟨mid,hM⟩:∃mid,(a+b) / 2=mid:=⟨_,rfl⟩;have hmid:mid=a+h:=by omega
    obtain ⟨i0,j0,hc15,h1,h2,h3,h4,hi0,hj0⟩:∃i0 j0:Nat,X8.ev S N [Al (X++A++B++Y), .i .i64 a, .i .i64 m, .i .i64 b, .f g caps]=some (.yld 0 [.i .i64 (a+i0), .i .i64 (a+j0)])∧i0≤j0∧j0≤A.length∧j0≤h∧h≤i0+B.length∧(i0=0∨h - i0=B.length)∧(j0=h∨j0=A.length):=by
     by_cases hgt:h<A.length
     ·refine ⟨h - B.length,h,?_,by omega,by omega,by omega,by omega,by omega, .inl rfl⟩;have t1:mid<m:=by omega
      have t2:mid+m - b=a+((h - B.length:Nat):Int):=by omega
      rw [←t2,←hmid];generalize X++A++B++Y=s at*;simp (disch:=omega) only [Et,Ew,hM,t1,EVT,EVM,EVC,xe,EVP,EV,simprocAttr]
     ·refine ⟨0,A.length,?_,by omega,by omega,by omega,by omega, .inl rfl, .inr rfl⟩;have t1:¬mid<m:=by omega
      generalize X++A++B++Y=s at*;simp (disch:=omega) only [Et,Ew,hM,t1,hm,EVT,EVM,EVC,xe,EVP,EV,simprocAttr];simp
    have hsd:X++A++B++Y=X++(A++(B++Y)):=by simp
    obtain ⟨i,k1,k2,k3,k4,k5⟩:=Iz5 hC X A B Y (X++A++B++Y) hsd a m b mid h i0 j0 ha hm hb hM hmid h1 h2 h3 h4 hs hP N (by omega);have cut:=R4 ht sA sB i (h - i) (fun x y h0 hx hy=>Eq0.2 (k4 x y (fun e=>by
      rcases hi0 with q|q
      ·omega
      ·have:=(Av.1 hy).1;omega) hx hy)) (fun x y h0 hx hy=>Eq1.2 (k5 x y (fun e=>by
      rcases hj0 with q|q
      ·omega
      ·have:=(Av.1 hx).1;omega) hx (by rw [show h - 1 - i=h - i - 1 by omega];exact hy))) (by omega) (by omega)
    have eA:A.take i++A.drop i=A:=B0 _ _;have eB:B.take (h - i)++B.drop (h - i)=B:=B0 _ _;have lA1:(A.take i).length=i:=by rw [Ar];omega
    have lA2:(A.drop i).length=A.length - i:=B3;have lB1:(B.take (h - i)).length=h - i:=by rw [Ar];omega
    have lB2:(B.drop (h - i)).length=B.length - (h - i):=B3;have sA1:=sA.sublist (List.take_sublist i A);have sA2:=sA.sublist (List.drop_sublist i A);have sB1:=sB.sublist (List.take_sublist (h - i) B);have sB2:=sB.sublist (List.drop_sublist (h - i) B);generalize A.take i=A1 at*;generalize A.drop i=A2 at*;generalize B.take (h - i)=B1 at*;generalize B.drop (h - i)=B2 at*;have e0:X++A++B++Y=X++A1++A2++B1++(B2++Y):=by rw [←eA,←eB];simp
    have mem1:∀y,y∈X++A1++B1++(A2++B2++Y)→P y:=fun y hy=>hP y (by rw [e0];simp only [Bt] at hy ⊢;grind);have len1:(X++A1++B1++(A2++B2++Y)).length≤1000000:=by simp only [Ac] at hs2 ⊢;omega
    have lm1:=R3 (leC c) A1 B1;have mem2:∀y,y∈(X++mrg (leC c) A1 B1)++A2++B2++Y→P y:=fun y hy=>mem1 y (by simp only [Bt,mrg_mem] at hy ⊢;grind)
    have len2:((X++mrg (leC c) A1 B1)++A2++B2++Y).length≤1000000:=by simp only [Ac,lm1] at hs2 ⊢;omega
    have s1:(T.blk 0 X7 N6).ev S N [Al (X++A++B++Y), .i .i64 a, .i .i64 m, .i .i64 b, .f g caps, .i .i64 (a+i0), .i .i64 (a+j0), .i .i64 (a+i)]=
      N6.ev S N [Al (X++A++B++Y), .i .i64 a, .i .i64 m, .i .i64 b, .f g caps, .i .i64 (a+i0), .i .i64 (a+j0), .i .i64 (a+i),Al (X++A1++B1++(A2++B2++Y))]:=by
     by_cases t:A2=[]∨B1=[]
     ·have t1:¬(a+(i:Int)<m∧m<mid+m - (a+i)):=by
       rcases t with t|t
       ·rw [t] at lA2;simp at lA2;omega
       ·rw [t] at lB1;simp at lB1;omega
      have e1:X++A++B++Y=X++A1++B1++(A2++B2++Y):=by rw [e0];rcases t with t|t<;>subst t<;>simp
      rw [←e1];generalize X++A++B++Y=s at*;by_cases t2:a+(i:Int)<m
      ·have t3:¬m<mid+m - (a+i):=fun q=>t1 ⟨t2,q⟩;simp (disch:=omega) only [Et,Ew,hM,t2,t3,EVT,EVM,EVC,xe,EVP,EV,simprocAttr]
      ·simp (disch:=omega) only [Et,Ew,hM,t2,EVT,EVM,EVC,xe,EVP,EV,simprocAttr]
     ·have t':A2≠[]∧B1≠[]:=by grind
      have p1:=Bc.2 t'.1;have p2:=Bc.2 t'.2;have hr:=Bv5 (X++A1) A2 B1 (B2++Y) (a+i) m (mid+m - (a+i)) g caps (by simp only [Ac];omega) (by simp only [Ac];omega) (by simp only [Ac];omega) t'.1 t'.2 (by rw [←e0];exact hs);have t2:a+(i:Int)<m:=by omega
      have t3:m<mid+m - (a+i):=by omega
      rw [←e0] at hr;have e1:X++A1++B1++A2++(B2++Y)=X++A1++B1++(A2++B2++Y):=by simp
      rw [e1] at hr;generalize X++A1++B1++(A2++B2++Y)=s1 at*;generalize X++A++B++Y=s at*;simp (disch:=omega) only [Et,Ew,hM,t2,t3,hr,D3,Kr,EVT,EVM,EVC,xe,EVP,EV,simprocAttr]
    have s2:(T.blk 0 X6 N7).ev S N [Al (X++A++B++Y), .i .i64 a, .i .i64 m, .i .i64 b, .f g caps, .i .i64 (a+i0), .i .i64 (a+j0), .i .i64 (a+i),Al (X++A1++B1++(A2++B2++Y))]=
      N7.ev S N [Al (X++A++B++Y), .i .i64 a, .i .i64 m, .i .i64 b, .f g caps, .i .i64 (a+i0), .i .i64 (a+j0), .i .i64 (a+i),Al (X++A1++B1++(A2++B2++Y)),Al ((X++mrg (leC c) A1 B1)++A2++B2++Y)]:=by
     by_cases t:A1=[]∨B1=[]
     ·have t1:¬(a<a+(i:Int)∧a+(i:Int)<mid):=by
       rcases t with t|t
       ·rw [t] at lA1;simp at lA1;omega
       ·rw [t] at lB1;simp at lB1;omega
      have e1:X++A1++B1++(A2++B2++Y)=(X++mrg (leC c) A1 B1)++A2++B2++Y:=by rcases t with t|t<;>subst t<;>simp [mrg,K5]
      rw [←e1];generalize X++A1++B1++(A2++B2++Y)=s1 at*;generalize X++A++B++Y=s at*;by_cases t2:a<a+(i:Int)
      ·have t3:¬a+(i:Int)<mid:=fun q=>t1 ⟨t2,q⟩;simp (disch:=omega) only [Et,Ew,hM,t2,t3,EVT,EVM,EVC,xe,EVP,EV,simprocAttr]
      ·simp (disch:=omega) only [Et,Ew,hM,t2,EVT,EVM,EVC,xe,EVP,EV,simprocAttr]
     ·have t':A1≠[]∧B1≠[]:=by grind
      have p1:=Bc.2 t'.1;have p2:=Bc.2 t'.2;have hr:=J0 hC ht n X A1 B1 (A2++B2++Y) a (a+i) mid (by omega) t'.1 t'.2 sA1 sB1 ha (by omega) (by omega) len1 mem1;have t2:a<a+(i:Int):=by omega
      have t3:a+(i:Int)<mid:=by omega
      have e1:X++mrg (leC c) A1 B1++(A2++B2++Y)=(X++mrg (leC c) A1 B1)++A2++B2++Y:=by simp
      rw [e1] at hr;generalize (X++mrg (leC c) A1 B1)++A2++B2++Y=s2 at*;generalize X++A1++B1++(A2++B2++Y)=s1 at*;generalize X++A++B++Y=s at*;simp (disch:=omega) only [Et,Ew,hM,t2,t3,hr,D3,Kr,EVT,EVM,EVC,xe,EVP,EV,simprocAttr]
    have s3:N7.ev S N [Al (X++A++B++Y), .i .i64 a, .i .i64 m, .i .i64 b, .f g caps, .i .i64 (a+i0), .i .i64 (a+j0), .i .i64 (a+i),Al (X++A1++B1++(A2++B2++Y)),Al ((X++mrg (leC c) A1 B1)++A2++B2++Y)]=
      some (.ret [Al (X++mrg (leC c) A B++Y)]):=by
     have e9:X++mrg (leC c) A B++Y=(X++mrg (leC c) A1 B1)++mrg (leC c) A2 B2++Y:=by rw [cut];simp
     rw [e9];by_cases t:A2=[]∨B2=[]
     ·have t1:¬(mid<mid+m - (a+i)∧mid+m - (a+(i:Int))<b):=by
       rcases t with t|t
       ·rw [t] at lA2;simp at lA2;omega
       ·rw [t] at lB2;simp at lB2;omega
      have e1:(X++mrg (leC c) A1 B1)++A2++B2++Y=(X++mrg (leC c) A1 B1)++mrg (leC c) A2 B2++Y:=by rcases t with t|t<;>subst t<;>simp [mrg,K5]
      rw [←e1];generalize (X++mrg (leC c) A1 B1)++A2++B2++Y=s2 at*;generalize X++A1++B1++(A2++B2++Y)=s1 at*;generalize X++A++B++Y=s at*;by_cases t2:mid<mid+m - (a+(i:Int))
      ·have t3:¬mid+m - (a+(i:Int))<b:=fun q=>t1 ⟨t2,q⟩;simp (disch:=omega) only [Et,Ew,hM,t2,t3,EVT,EVM,EVC,xe,EVP,EV,simprocAttr]
      ·simp (disch:=omega) only [Et,Ew,hM,t2,EVT,EVM,EVC,xe,EVP,EV,simprocAttr]
     ·have t':A2≠[]∧B2≠[]:=by grind
      have p1:=Bc.2 t'.1;have p2:=Bc.2 t'.2;have hr:=J0 hC ht n (X++mrg (leC c) A1 B1) A2 B2 Y mid (mid+m - (a+i)) b (by omega) t'.1 t'.2 sA2 sB2 (by simp only [Ac,lm1];omega) (by omega) (by omega) len2 mem2;have t2:mid<mid+m - (a+(i:Int)):=by omega
      have t3:mid+m - (a+(i:Int))<b:=by omega
      generalize (X++mrg (leC c) A1 B1)++mrg (leC c) A2 B2++Y=s3 at*;generalize (X++mrg (leC c) A1 B1)++A2++B2++Y=s2 at*;generalize X++A1++B1++(A2++B2++Y)=s1 at*;generalize X++A++B++Y=s at*;simp (disch:=omega) only [Et,Ew,hM,t2,t3,hr,D3,Kr,EVT,EVM,EVC,xe,EVP,EV,simprocAttr]
    have f2:N6.ev S N [Al (X++A++B++Y), .i .i64 a, .i .i64 m, .i .i64 b, .f g caps, .i .i64 (a+i0), .i .i64 (a+j0), .i .i64 (a+i),Al (X++A1++B1++(A2++B2++Y))]=some (.ret [Al (X++mrg (leC c) A B++Y)]):=s2.trans s3;have f1:=s1.trans f2;clear s1 s2 s3 f2 mem1 mem2 cut k4 k5;generalize X++mrg (leC c) A B++Y=s3 at*;generalize X++A++B++Y=s at*;simp (disch:=omega) only [Et,q1,q2,Ew,hM,hc15,k1,f1,EVT,EVM,EVC,xe,EVP,EV,simprocAttr]
end
end Go.X.G
/- Stable sorting: the library's functions. -/
namespace Go.X.G
open Go Go.X
section
variable {g:Nat} {caps:List PV} {c:Rec→Rec→Int} {P:Rec→Prop}
theorem Is2 (hC:Cmp g caps c P) (L L':List Rec) (i:Nat) (x y:Rec) (g0:L[i]? =some y) (g1:L[i+1]? =some x) (sw:(L.set (i+1) y).set i x=L') (k e:Int) (hk:k=i+1) (he:e<k) (he2:0≤e) (hx:P x) (hy:P y) (hlt:c x y<0) (hL:L.length≤1000000) (w0 w2 w4 w5:PV) (N:Nat):
  Lb.ev S N [w0, .i .i64 e,w2, .f g caps,w4,w5, .i .i64 k,Al L]=some (.yld 3 [.i .i64 (k - 1),Al L']):=by
 have hi:=(Av.1 g1).1;have ti0:(k - 1).toNat=i:=by omega
 have ti1:k.toNat=i+1:=by omega
 have g2:(L.set (i+1) y)[i]? =some y:=by rw [M2 (by omega)];exact g0
 have hc:=hC.ok x y hx hy;simp (disch:=first|omega|(rw [F0];omega)) only [Pv,I8,Ly,he,ti0,ti1,g0,g1,g2,sw,hc,hlt,EVT,EVM,EVC,xe,EVP,EV,simprocAttr]
theorem Cj3 (hC:Cmp g caps c P) (L:List Rec) (i:Nat) (x y:Rec) (g0:L[i]? =some y) (g1:L[i+1]? =some x) (k e:Int) (hk:k=i+1) (he:e<k) (hx:P x) (hy:P y) (hlt:¬c x y<0) (hL:L.length≤1000000) (w0 w2 w4 w5:PV) (N:Nat):
  Lb.ev S N [w0, .i .i64 e,w2, .f g caps,w4,w5, .i .i64 k,Al L]=some (.yld 2 [Al L]):=by
 have hi:=(Av.1 g1).1;have ti0:(k - 1).toNat=i:=by omega
 have ti1:k.toNat=i+1:=by omega
 have hc:=hC.ok x y hx hy;simp (disch:=omega) only [Pv,I8,Ly,he,ti0,ti1,g0,g1,hc,hlt,EVT,EVM,EVC,xe,EVP,EV,simprocAttr]
theorem Eq7 (L:List Rec) (k e:Int) (he:¬e<k) (w0 w2 w3 w4 w5:PV) (N:Nat):
  Lb.ev S N [w0, .i .i64 e,w2,w3,w4,w5, .i .i64 k,Al L]=some (.yld 2 [Al L]):=by
 simp (disch:=omega) only [Pv,I8,Ly,he,EVT,EVM,EVC,xe,EVP,EV,simprocAttr]
theorem Is1 (hC:Cmp g caps c P) (ht:TP (leC c)) (X R Y:List Rec) (x:Rec) (hR:R.Pairwise fun a b=>leC c a b=true) (hP:∀y∈X++R++x::Y,P y) (hs:(X++R++x::Y).length≤1000000) (a k:Int) (ha:a=X.length) (hk:k=a+R.length) (w0 w2:PV) (N:Nat) (hN:R.length<N):
  ∃R1 R2,R=R1++R2∧(∀y∈R1,leC c y x=true)∧(∀y∈R2,leC c y x=false)∧
   Br1.ev S N [w0, .i .i64 a,w2, .f g caps, .i .i64 k,Al (X++R++x::Y)]=some (.yld 2 [Al (X++(R1++x::R2)++Y)]):=by
 have hx:P x:=hP x (by simp);have hs2:=hs;simp only [Ac,A6] at hs2;have key:=G0 (fn:=S) (N:=N) (η:=[w0, .i .i64 a,w2, .f g caps, .i .i64 k,Al (X++R++x::Y)]) (id:=3) (init:=[.v 4, .v 5]) (body:=Lb) (α:=List Rec×List Rec)
  (fun w=>[.i .i64 (a+w.1.length),Al (X++w.1++x::(w.2++Y))])
  (fun o=>∃R1 R2,R=R1++R2∧(∀y∈R1,leC c y x=true)∧(∀y∈R2,leC c y x=false)∧o= .yld 2 [Al (X++(R1++x::R2)++Y)])
  (fun w=>R=w.1++w.2∧∀y∈w.2,leC c y x=false) (fun w=>w.1.length) (R,[]) ?_ ⟨by simp,by simp⟩ hN ?_
 ·obtain ⟨o,h1,R1,R2,h2,h3,h4,rfl⟩:=key;exact ⟨R1,R2,h2,h3,h4,h1⟩
 ·subst hk;simp only [Cf];generalize X++R++x::Y=s at*;simp (disch:=omega) only [EVT,EVM,EVC,xe,EVP,EV,simprocAttr]
 ·rintro ⟨R1,R2⟩ ⟨h1,h2⟩;simp only at h1 h2;have hlen:=congrArg List.length h1;simp only [Ac] at hlen;rcases List.eq_nil_or_concat R1 with rfl|⟨R0,y,rfl⟩
  ·right;refine ⟨_,Eq7 _ _ a (by simp) _ _ _ _ _ N,rfl,[],R2,h1,by simp,h2,?_⟩;simp
  ·rw [List.concat_eq_append] at*;simp only [Ac,A6,Bd] at hlen;have hy:P y:=hP y (by rw [h1];simp);have lP:(X++R0).length=X.length+R0.length:=Ac;have g0:=dt (X++R0) (x::(R2++Y)) y;have g1:=j6 (X++R0) (R2++Y) y x;rw [lP] at g0 g1;have e0:X++(R0++[y])++x::(R2++Y)=X++R0++y::x::(R2++Y):=by simp
   have lL:(X++R0++y::x::(R2++Y)).length≤1000000:=by simp only [Ac,A6];omega
   by_cases hlt:c x y<0
   ·left;have sw0:((X++R0++y::x::(R2++Y)).set (X.length+R0.length+1) y).set (X.length+R0.length) x=X++R0++x::(y::R2++Y):=by rw [←lP,List.set_comm _ _ (by omega)];exact Fl7 (X++R0) (R2++Y) y x
    refine ⟨(R0,y::R2),?_,⟨by simp only;rw [h1];simp,fun w hw=> ?_⟩,by simp⟩
    ·have:=Is2 hC _ _ (X.length+R0.length) x y g0 g1 sw0 (a+((R0++[y]).length:Nat)) a (by simp;omega) (by simp;omega) (by omega) hx hy hlt lL w0 w2 (.i .i64 k) (Al (X++R++x::Y)) N;have e1:a+((R0++[y]).length:Nat) - 1=a+(R0.length:Int):=by simp;omega
     rw [e1] at this;show Lb.ev S N [w0, .i .i64 a,w2, .f g caps, .i .i64 k,Al (X++R++x::Y), .i .i64 (a+((R0++[y]).length:Nat)),Al (X++(R0++[y])++x::(R2++Y))]=_;rw [e0];exact this
    ·rcases Am.1 hw with rfl|hw
     ·exact Eq1.2 hlt
     ·exact h2 w hw
   ·right;have hle:leC c y x=true:=Eq0.2 hlt;refine ⟨_,?_,rfl,R0++[y],R2,h1,ig ht (by rw [h1] at hR;exact (Er.1 hR).1) hle,h2,rfl⟩;have:=Cj3 hC _ (X.length+R0.length) x y g0 g1 (a+((R0++[y]).length:Nat)) a (by simp;omega) (by simp;omega) hx hy hlt lL w0 w2 (.i .i64 k) (Al (X++R++x::Y)) N;show Lb.ev S N [w0, .i .i64 a,w2, .f g caps, .i .i64 k,Al (X++R++x::Y), .i .i64 (a+((R0++[y]).length:Nat)),Al (X++(R0++[y])++x::(R2++Y))]=_;rw [e0,this,←e0];simp
theorem U6 (hC:Cmp g caps c P) (ht:TP (leC c)) (X A Y:List Rec) (a b:Int) (ha:a=X.length) (hb:b=a+A.length) (hP:∀y∈X++A++Y,P y) (hs:(X++A++Y).length≤1000000):
  ∃R,Stab (leC c) R A∧R.length=A.length∧S Uz 1048580 [Al (X++A++Y), .i .i64 a, .i .i64 b, .f g caps]=some [Al (X++R++Y)]:=by
 have hs2:=hs;simp only [Ac] at hs2;cases A with
 |nil=>
  refine ⟨[],Qx _,rfl,?_⟩;refine Ef3 (N:=2) rfl ?_;simp only [Bd] at hb;have h1:¬a+1<b:=by omega
  have key:jm.ev S 2 [Al (X++[]++Y), .i .i64 a, .i .i64 b, .f g caps]=some (.yld 0 [Al (X++[]++Y)]):=by
   generalize X++[]++Y=s at*;refine Gt 0 (fun _=>[.i .i64 (a+1),Al s]) (fun _=> .yld 0 [Al s]) ?_ (by omega) (fun i hi=>absurd hi (by omega)) ⟨?_,rfl⟩
   ·simp (disch:=omega) only [EVT,EVM,EVC,xe,EVP,EV,simprocAttr]
   ·simp (disch:=omega) only [Pv,I8,Ly,h1,EVT,EVM,EVC,xe,EVP,EV,simprocAttr]
  generalize X++[]++Y=s at*;simp (disch:=omega) only [Pv,I8,Ly,key,EVT,EVM,EVC,xe,EVP,EV,simprocAttr]
 |cons x0 A=>
  obtain ⟨N,hN⟩:∃N,N=A.length+3:=⟨_,rfl⟩;simp only [A6] at hb hs2;have key:=G0 (fn:=S) (N:=N) (η:=[Al (X++x0::A++Y), .i .i64 a, .i .i64 b, .f g caps]) (id:=1) (init:=[.bin .add (.v 1) (.c (.i .i64 1)), .v 0]) (body:=Yx) (α:=List Rec×List Rec×List Rec)
   (fun w=>[.i .i64 (a+w.1.length),Al (X++w.1++(w.2.2++Y))])
   (fun o=>∃R,Stab (leC c) R (x0::A)∧R.length=(x0::A).length∧o= .yld 0 [Al (X++R++Y)])
   (fun w=>x0::A=w.2.1++w.2.2∧Stab (leC c) w.1 w.2.1∧w.1.length=w.2.1.length) (fun w=>w.2.2.length) ([x0],[x0],A) ?_ ⟨rfl,ib _ _,rfl⟩ (by simp only;omega) ?_
  ·obtain ⟨o,h1,R,h2,h3,rfl⟩:=key;refine ⟨R,h2,h3,?_⟩;refine Ef3 (N:=N) rfl ?_;have h4:jm.ev S N [Al (X++x0::A++Y), .i .i64 a, .i .i64 b, .f g caps]=_:=h1;clear h1;generalize X++x0::A++Y=s at*;generalize X++R++Y=u at*;simp (disch:=omega) only [Pv,I8,Ly,h4,EVT,EVM,EVC,xe,EVP,EV,simprocAttr]
  ·simp only [A6,Bd];have e:X++[x0]++(A++Y)=X++x0::A++Y:=by simp
   rw [e];have e1:a+((0+1:Nat):Int)=a+1:=by omega
   rw [e1];generalize X++x0::A++Y=s at*;simp (disch:=omega) only [EVT,EVM,EVC,xe,EVP,EV,simprocAttr]
  ·rintro ⟨R,D,Z⟩ ⟨h1,h2,h3⟩;simp only at h1 h2 h3;have hlen:=congrArg List.length h1;simp only [Ac,A6] at hlen;cases Z with
   |nil=>
    right;rw [Ds] at h1;subst h1;refine ⟨_,?_,rfl,R,h2,h3,rfl⟩;have hlt:¬a+(R.length:Int)<b:=by simp only [A6] at h3;omega
    simp only [Cf];generalize X++x0::A++Y=s at*;have hu:(X++R++Y).length≤1000000:=by simp only [Ac];omega
    generalize X++R++Y=u at*;simp (disch:=omega) only [Pv,I8,Ly,hlt,EVT,EVM,EVC,xe,EVP,EV,simprocAttr]
   |cons x Z=>
    left;simp only [A6] at hlen;have hmem:∀y∈X++R++x::(Z++Y),P y:=fun y hy=>hP y (by
     rw [h1];have:=h2.mem ht y;simp only [Bt,Am] at hy ⊢
     grind)
    have hlen2:(X++R++x::(Z++Y)).length≤1000000:=by simp only [Ac,A6];omega
    obtain ⟨R1,R2,rfl,k1,k2,k3⟩:=Is1 hC ht X R (Z++Y) x h2.sorted hmem hlen2 a (a+R.length) ha rfl (Al (X++x0::A++Y)) (.i .i64 b) N (by omega);refine ⟨(R1++x::R2,D++[x],Z),?_,⟨by simp only;rw [h1];simp,Dn7 ht h2 k1 k2,by simp at h3 ⊢;omega⟩,by simp⟩;have e1:a+((R1++x::R2).length:Nat)=a+((R1++R2).length:Nat)+1:=by simp;omega
    have hlt:a+((R1++R2).length:Nat)<b:=by omega
    show Yx.ev S N [Al (X++x0::A++Y), .i .i64 a, .i .i64 b, .f g caps, .i .i64 (a+((R1++R2).length:Nat)),Al (X++(R1++R2)++x::(Z++Y))]=some (.yld 1 [.i .i64 (a+((R1++x::R2).length:Nat)),Al (X++(R1++x::R2)++(Z++Y))]);rw [e1];have hb2:(R1++R2).length≤1000000:=by simp only [Ac] at hlen2 ⊢;omega
    generalize (R1++R2).length=n at*;generalize X++(R1++R2)++x::(Z++Y)=s1 at*;generalize X++(R1++x::R2)++(Z++Y)=s2 at*;generalize X++x0::A++Y=s at*;simp (disch:=omega) only [Pv,I8,Ly,hlt,k3,EVT,EVM,EVC,xe,EVP,EV,simprocAttr]
end
end Go.X.G
/- Stable sorting: the Md. -/
namespace Go.X.G
open Go Go.X
theorem fq {α:Type} {le:α→α→Bool} (ht:TP le) {bs:Nat} {Y LY:List α} (h:Blk le bs Y LY) (hl:Y.length≤2*bs) (hb:bs<Y.length):Stab le (mrg le (Y.take bs) (Y.drop bs)) LY:=by have h1:=h.head;have h2:=(h.tail).all (by rw [B3];omega);have:=Stab.mrg ht h1 h2;rwa [B0] at this
theorem Blk.pre {α:Type} {le:α→α→Bool} {bs k:Nat} {Y LY:List α} (h:Blk le bs Y LY):Blk le bs (Y.take (k*bs)) (LY.take (k*bs)):=by
 refine ⟨by simp [h.len],fun j=> ?_⟩;rw [List.drop_take,List.drop_take,Ar6,Ar6];by_cases hj:j<k
 ·have e:(j+1)*bs≤k*bs:=By _ hj;rw [Nat.succ_mul] at e;rw [Y0 (by omega)];exact h.st j
 ·have e:k*bs≤j*bs:=By _ (by omega);rw [show k*bs - j*bs=0 by omega,Nat.min_eq_right (by omega),List.take_zero,List.take_zero];exact Qx le
section
variable {g:Nat} {caps:List PV} {c:Rec→Rec→Int} {P:Rec→Prop}
theorem Iz2 (hC:Cmp g caps c P) (ht:TP (leC c)) (l:List Rec) (hP:∀y∈l,P y) (hs:l.length≤1000000) (N:Nat) (hN:l.length+2<N):
  ∃(X LX Y:List Rec) (q:Nat),Bs6.ev S N [Al l, .i .i64 l.length, .f g caps]=some (.yld 0 [.i .i64 X.length,Al (X++Y)])∧l=LX++Y∧X.length=q*20∧Y.length<20∧Blk (leC c) 20 X LX∧∀y∈X++Y,P y:=by
 have key:=G0 (fn:=S) (N:=N) (η:=[Al l, .i .i64 l.length, .f g caps]) (id:=1) (init:=[.c (.i .i64 0), .c (.i .i64 20), .v 0]) (body:=nv) (α:=List Rec×List Rec×List Rec×Nat)
  (fun w=>[.i .i64 (w.1.length:Int), .i .i64 ((w.1.length:Int)+20),Al (w.1++w.2.2.1)])
  (fun o=>∃(X LX Y:List Rec) (q:Nat),o= .yld 0 [.i .i64 X.length,Al (X++Y)]∧l=LX++Y∧X.length=q*20∧Y.length<20∧Blk (leC c) 20 X LX∧∀y∈X++Y,P y)
  (fun w=>l=w.2.1++w.2.2.1∧w.1.length=w.2.2.2*20∧Blk (leC c) 20 w.1 w.2.1∧∀y∈w.1++w.2.2.1,P y) (fun w=>w.2.2.1.length) ([],[],l,0) ?_ ⟨rfl,by simp,Blk.nil _ _,by simpa using hP⟩ (by simp only;omega) ?_
 ·obtain ⟨o,h1,X,LX,Y,q,rfl,h2⟩:=key;exact ⟨X,LX,Y,q,h1,h2⟩
 ·simp (disch:=omega) only [EVT,EVM,EVC,xe,EVP,EV,simprocAttr]
  try simp
 ·rintro ⟨X,LX,Y,q⟩ ⟨h1,h2,h3,h4⟩;simp only at h1 h2 h3 h4;have hlen:=congrArg List.length h1;simp only [Ac] at hlen;have hXL:=h3.len;by_cases hge:20≤Y.length
  ·left;have eY:Y.take 20++Y.drop 20=Y:=B0 _ _;have l1:(Y.take 20).length=20:=by rw [Ar];omega
   have l2:(Y.drop 20).length=Y.length - 20:=B3;have eXY:X++Y.take 20++Y.drop 20=X++Y:=by rw [As,eY]
   obtain ⟨R,k1,k2,k3⟩:=U6 hC ht X (Y.take 20) (Y.drop 20) (X.length:Int) ((X.length:Int)+20) rfl (by omega) (by rw [eXY];exact h4) (by rw [eXY,Ac];omega);rw [eXY] at k3;refine ⟨(X++R,LX++Y.take 20,Y.drop 20,q+1),?_,⟨by simp only;rw [h1,As,eY],by simp only [Ac];omega,Blk.app h2 h3 (Blk.one k1 k2 (by omega)),fun y hy=>h4 y ?_⟩,by simp only;omega⟩
   ·have e1:((X++R).length:Int)=(X.length:Int)+20:=by simp only [Ac];omega
    have hge':(X.length:Int)+20≤(l.length:Int):=by omega
    simp only;rw [e1];generalize X++R++Y.drop 20=s1 at*;generalize X++Y=s0 at*;simp (disch:=omega) only [Pw,hge',k3,D3,Kr,EVT,EVM,EVC,xe,EVP,EV,simprocAttr]
   ·have:=k1.mem ht y;simp only [Bt] at hy;rcases hy with (hy|hy)|hy
    ·simp [hy]
    ·exact Bm _ (Gx (this.1 hy))
    ·exact Bm _ (Iz hy)
  ·right;have hge':¬(X.length:Int)+20≤(l.length:Int):=by omega
   refine ⟨.yld 0 [.i .i64 X.length,Al (X++Y)],?_,rfl,X,LX,Y,q,rfl,h1,h2,by omega,h3,h4⟩;simp only;generalize X++Y=s0 at*;simp (disch:=omega) only [Pw,hge',EVT,EVM,EVC,xe,EVP,EV,simprocAttr]
theorem Iz1 (hC:Cmp g caps c P) (ht:TP (leC c)) (l r:List Rec) (bs:Nat) (hbs:0<bs) (hbs2:bs<l.length) (hr:Blk (leC c) bs r l) (hP:∀y∈r,P y) (hs:l.length≤1000000) (w0:PV) (w3 w4 w5:PV) (N:Nat) (hN:l.length+2<N):
  ∃(X LX Y LY:List Rec) (q:Nat),Bp8.ev S N [w0, .i .i64 l.length, .f g caps,w3,w4,w5, .i .i64 bs,Al r]=some (.yld 2 [.i .i64 X.length,Al (X++Y)])∧l=LX++LY∧X.length=q*(2*bs)∧Y.length<2*bs∧Blk (leC c) (2*bs) X LX∧Blk (leC c) bs Y LY∧∀y∈X++Y,P y:=by
 have key:=G0 (fn:=S) (N:=N) (η:=[w0, .i .i64 l.length, .f g caps,w3,w4,w5, .i .i64 bs,Al r]) (id:=3) (init:=[.c (.i .i64 0), .bin .mul (.c (.i .i64 2)) (.v 6), .v 7]) (body:=m7) (α:=(List Rec×List Rec)×(List Rec×List Rec)×Nat)
  (fun w=>[.i .i64 (w.1.1.length:Int), .i .i64 ((w.1.1.length:Int)+2*bs),Al (w.1.1++w.2.1.1)])
  (fun o=>∃(X LX Y LY:List Rec) (q:Nat),o= .yld 2 [.i .i64 X.length,Al (X++Y)]∧l=LX++LY∧X.length=q*(2*bs)∧Y.length<2*bs∧Blk (leC c) (2*bs) X LX∧Blk (leC c) bs Y LY∧∀y∈X++Y,P y)
  (fun w=>l=w.1.2++w.2.1.2∧w.1.1.length=w.2.2*(2*bs)∧Blk (leC c) (2*bs) w.1.1 w.1.2∧Blk (leC c) bs w.2.1.1 w.2.1.2∧∀y∈w.1.1++w.2.1.1,P y) (fun w=>w.2.1.1.length) (([],[]),(r,l),0) ?_ ⟨rfl,by simp,Blk.nil _ _,hr,by simpa using hP⟩ (by have:=hr.len;simp only;omega) ?_
 ·obtain ⟨o,h1,X,LX,Y,LY,q,rfl,h2⟩:=key;exact ⟨X,LX,Y,LY,q,h1,h2⟩
 ·simp (disch:=omega) only [EVT,EVM,EVC,xe,EVP,EV,simprocAttr];simp
 ·rintro ⟨⟨X,LX⟩,⟨Y,LY⟩,q⟩ ⟨h1,h2,h3,h4,h5⟩;simp only at h1 h2 h3 h4 h5;have hlen:=congrArg List.length h1;simp only [Ac] at hlen;have hXL:=h3.len;have hYL:=h4.len;by_cases hge:2*bs≤Y.length
  ·left;have eY:Y.take (2*bs)++Y.drop (2*bs)=Y:=B0 _ _;have l1:(Y.take (2*bs)).length=2*bs:=by rw [Ar];omega
   have l2:(Y.drop (2*bs)).length=Y.length - 2*bs:=B3;have hp:=h4.pre (k:=2);have hz:Blk (leC c) bs (Y.drop (2*bs)) (LY.drop (2*bs)):=by have:=h4.tail.tail;rwa [C2,C2,show bs+bs=2*bs by omega] at this
   have hst:=fq ht hp (by omega) (by omega);have sA:((Y.take (2*bs)).take bs).Pairwise fun x y=>leC c x y=true:=hp.head.sorted;have sB:((Y.take (2*bs)).drop bs).Pairwise fun x y=>leC c x y=true:=(hp.tail.all (by rw [B3];omega)).sorted;have lA:((Y.take (2*bs)).take bs).length=bs:=by rw [Ar];omega
   have lB:((Y.take (2*bs)).drop bs).length=bs:=by rw [B3];omega
   have eAB:(Y.take (2*bs)).take bs++(Y.take (2*bs)).drop bs=Y.take (2*bs):=B0 _ _;generalize (Y.take (2*bs)).take bs=A at*;generalize (Y.take (2*bs)).drop bs=B at*;have eXY:X++A++B++Y.drop (2*bs)=X++Y:=by rw [As X,eAB,As,eY]
   have hm:=J0 hC ht (A.length+B.length) X A B (Y.drop (2*bs)) (X.length:Int) ((X.length:Int)+bs) ((X.length:Int)+2*bs) (Af _) (by intro e;rw [e] at lA;simp at lA;omega) (by intro e;rw [e] at lB;simp at lB;omega) sA sB rfl (by omega) (by omega) (by rw [eXY,Ac];omega) (by rw [eXY];exact h5);rw [eXY] at hm;have lM:=R3 (leC c) A B;have eL:LY.take (2*bs)++LY.drop (2*bs)=LY:=B0 _ _;refine ⟨((X++mrg (leC c) A B,LX++LY.take (2*bs)),(Y.drop (2*bs),LY.drop (2*bs)),q+1),?_,⟨by simp only;rw [h1,As,eL],by simp only [Ac];rw [Nat.succ_mul];omega,Blk.app h2 h3 (Blk.one hst (by rw [lM,Ar];omega) (by omega)),hz,fun y hy=>h5 y ?_⟩,by simp only;omega⟩
   ·have e1:((X++mrg (leC c) A B).length:Int)=(X.length:Int)+2*bs:=by simp only [Ac];omega
    have hge':(X.length:Int)+2*(bs:Int)≤(l.length:Int):=by omega
    simp only;rw [e1];generalize X++mrg (leC c) A B++Y.drop (2*bs)=s1 at*;generalize X++Y=s0 at*;simp (disch:=omega) only [Pw,hge',hm,D3,Kr,EVT,EVM,EVC,xe,EVP,EV,simprocAttr]
   ·rw [←eXY];simp only [Bt,mrg_mem] at hy ⊢
    grind
  ·right;have hge':¬(X.length:Int)+2*(bs:Int)≤(l.length:Int):=by omega
   refine ⟨.yld 2 [.i .i64 X.length,Al (X++Y)],?_,rfl,X,LX,Y,LY,q,rfl,h1,h2,by omega,h3,h4,h5⟩;simp only;generalize X++Y=s0 at*;simp (disch:=omega) only [Pw,hge',EVT,EVM,EVC,xe,EVP,EV,simprocAttr]
theorem Iz3 (hC:Cmp g caps c P) (ht:TP (leC c)) (l r:List Rec) (bs:Nat) (hbs:0<bs) (hbs2:bs<l.length) (hr:Blk (leC c) bs r l) (hP:∀y∈r,P y) (hs:l.length≤1000000) (w0 w3 w4 w5:PV) (N:Nat) (hN:l.length+2<N):
  ∃r',Blk (leC c) (2*bs) r' l∧(∀y∈r',P y)∧Yw.ev S N [w0, .i .i64 l.length, .f g caps,w3,w4,w5, .i .i64 bs,Al r]=some (.yld 1 [.i .i64 ((2*bs:Nat):Int),Al r']):=by
 obtain ⟨X,LX,Y,LY,q,k,h1,h2,h3,h4,h5,h6⟩:=Iz1 hC ht l r bs hbs hbs2 hr hP hs w0 w3 w4 w5 N hN;have hlen:=congrArg List.length h1;simp only [Ac] at hlen;have hXL:=h4.len;have hYL:=h5.len;have hlt:(bs:Int)<(l.length:Int):=by omega
 have e2:((2*bs:Nat):Int)=(bs:Int)*2:=by omega
 rw [e2];by_cases hge:bs<Y.length
 ·have eY:Y.take bs++Y.drop bs=Y:=B0 _ _;have hst:=fq ht h5 (by omega) hge;have sA:=h5.head.sorted;have sB:=(h5.tail.all (by rw [B3];omega)).sorted;have lA:(Y.take bs).length=bs:=by rw [Ar];omega
  have lB:(Y.drop bs).length=Y.length - bs:=B3;generalize Y.take bs=A at*;generalize Y.drop bs=B at*;have eXY:X++A++B++[]=X++Y:=by rw [Ds,As,eY]
  have hm:=J0 hC ht (A.length+B.length) X A B [] (X.length:Int) ((X.length:Int)+bs) (l.length:Int) (Af _) (by intro e;rw [e] at lA;simp at lA;omega) (by intro e;rw [e] at lB;simp at lB;omega) sA sB rfl (by omega) (by omega) (by rw [eXY,Ac];omega) (by rw [eXY];exact h6);rw [eXY,Ds] at hm;have lM:=R3 (leC c) A B;refine ⟨X++mrg (leC c) A B,by rw [h1];exact Blk.app h2 h4 (Blk.one hst (by omega) (by omega)),fun y hy=>h6 y (by
   rw [←eXY];simp only [Bt,mrg_mem] at hy ⊢
   grind),?_⟩
  have hge':(X.length:Int)+(bs:Int)<(l.length:Int):=by omega
  generalize X++mrg (leC c) A B=s1 at*;generalize X++Y=s0 at*;simp (disch:=omega) only [Pw,hlt,hge',k,hm,D3,Kr,EVT,EVM,EVC,xe,EVP,EV,simprocAttr]
 ·refine ⟨X++Y,by rw [h1];exact Blk.app h2 h4 (Blk.one (h5.all (by omega)) hYL (by omega)),h6,?_⟩;have hge':¬(X.length:Int)+(bs:Int)<(l.length:Int):=by omega
  generalize X++Y=s0 at*;simp (disch:=omega) only [Pw,hlt,hge',k,EVT,EVM,EVC,xe,EVP,EV,simprocAttr]
theorem Bk8 (hC:Cmp g caps c P) (ht:TP (leC c)) (l:List Rec) (hP:∀y∈l,P y) (hs:l.length≤1000000):
  ∃r,Stab (leC c) r l∧r.length=l.length∧S br 1048579 [Al l, .i .i64 l.length, .f g caps]=some [Al r]:=by
 obtain ⟨N,hN⟩:∃N,N=l.length+3:=⟨_,rfl⟩;obtain ⟨X,LX,Y,q,k0,h1,h2,h3,h4,h5⟩:=Iz2 hC ht l hP hs N (by omega);have hlen:=congrArg List.length h1;simp only [Ac] at hlen;have hXL:=h4.len;obtain ⟨R,i1,i2,i3⟩:=U6 hC ht X Y [] (X.length:Int) (l.length:Int) rfl (by omega) (by simpa using h5) (by simp;omega);simp only [Ds] at i3;have hB:Blk (leC c) 20 (X++R) l:=by rw [h1];exact Blk.app h2 h4 (Blk.one i1 i2 (by omega))
 have hP':∀y∈X++R,P y:=fun y hy=>h5 y (by
  have:=i1.mem ht y;simp only [Bt] at hy ⊢
  grind)
 have key:=G0 (fn:=S) (N:=N) (η:=[Al l, .i .i64 l.length, .f g caps, .i .i64 X.length,Al (X++Y),Al (X++R)]) (id:=1) (init:=[.c (.i .i64 20), .v 5]) (body:=Yw) (α:=Nat×List Rec)
  (fun w=>[.i .i64 (w.1:Int),Al w.2])
  (fun o=>∃r,Stab (leC c) r l∧r.length=l.length∧o= .yld 0 [Al r])
  (fun w=>0<w.1∧Blk (leC c) w.1 w.2 l∧∀y∈w.2,P y) (fun w=>l.length - w.1) (20,X++R) ?_ ⟨by simp,hB,hP'⟩ (by simp only;omega) ?_
 ·obtain ⟨o,k1,r,k2,k3,rfl⟩:=key;refine ⟨r,k2,k3,?_⟩;refine Hk5 (N:=N) rfl ?_;have k4:Br2.ev S N [Al l, .i .i64 l.length, .f g caps, .i .i64 X.length,Al (X++Y),Al (X++R)]=_:=k1;clear k1;generalize X++Y=s0 at*;generalize X++R=s1 at*;simp (disch:=omega) only [Pw,k0,i3,k4,D3,Kr,EVT,EVM,EVC,xe,EVP,EV,simprocAttr]
 ·generalize X++Y=s0 at*;generalize X++R=s1 at*;simp (disch:=omega) only [EVT,EVM,EVC,xe,EVP,EV,simprocAttr]
 ·rintro ⟨bs,r⟩ ⟨g1,g2,g3⟩;simp only at g1 g2 g3;have hr:=g2.len;by_cases hlt:bs<l.length
  ·left;obtain ⟨r',k1,k2,k3⟩:=Iz3 hC ht l r bs g1 hlt g2 g3 hs (Al l) (.i .i64 X.length) (Al (X++Y)) (Al (X++R)) N (by omega);exact ⟨(2*bs,r'),k3,⟨by simp only;omega,k1,k2⟩,by simp only;omega⟩
  ·right;have hlt':¬(bs:Int)<(l.length:Int):=by omega
   refine ⟨.yld 0 [Al r],?_,rfl,r,g2.all (by omega),hr,rfl⟩;generalize X++Y=s0 at*;generalize X++R=s1 at*;simp (disch:=omega) only [Pw,hlt',EVT,EVM,EVC,xe,EVP,EV,simprocAttr]
theorem N9 (hC:Cmp g caps c P) (ht:TP (leC c)) (l:List Rec) (hP:∀y∈l,P y) (hs:l.length≤1000000):
  ∃r,Stab (leC c) r l∧r.length=l.length∧S ct 1048578 [Al l, .f g caps]=some [Al r]:=by
 obtain ⟨r,h1,h2,h3⟩:=Bk8 hC ht l hP hs;refine ⟨r,h1,h2,?_⟩;refine Hv6 (N:=1) rfl ?_;simp (disch:=omega) only [Gm3,h3,D3,Kr,EVT,EVM,EVC,xe,EVP,EV,simprocAttr]
end
end Go.X.G
