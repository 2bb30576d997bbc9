/- The residual programs of the functions, printed by a program (gen.py) out of the executor's own reckoning; each is checked by the kernel. -/
import Derived.Test.YtfkfaliipkpcdaaGreatDoorLookupFindsG4
import Derived.Test.YtfkfaliipkpcdaaGreatDoorLookupFindsG5
import Derived.Test.YtfkfaliipkpcdaaGreatDoorLookupFindsG6
import Derived.Test.YtfkfaliipkpcdaaGreatDoorProg
import Derived.KernelRfl
set_option maxHeartbeats 1000000
set_option linter.unusedVariables false
set_option linter.unusedSimpArgs false
set_option maxRecDepth 100000
set_option linter.defProp false
namespace Go.X.G
open Go Go.X

def rgs (a : Nat) : Nat → List Nat
  | 0 => []
  | n + 1 => a :: rgs (a + 1) n
def rg : List (Nat × Nat) → List Nat
  | [] => []
  | (a, n) :: r => rgs a n ++ rg r

def n_u3 : Nat := 3
def n_u9 : Nat := 9
def Sx1 : Nat := 10
def Sx0 : Nat := 11
def Kz6 : Nat := 12
def Sw9 : Nat := 13
def Sw8 : Nat := 15
def Sw6 : Nat := 19
def Dy6 : Nat := 23
def Sw3 : Nat := 25
def Sw2 : Nat := 26
def Rj4 : Nat := 27
def Sw1 : Nat := 28
def Sw0 : Nat := 29
def Rj3 : Nat := 30
def Rj2 : Nat := 31
def Sv9 : Nat := 32
def Dy5 : Nat := 33
def Rj1 : Nat := 34
def Kz5 : Nat := 35
def Sv8 : Nat := 36
def Sv7 : Nat := 37
def Sv6 : Nat := 38
def Rj0 : Nat := 39
def Qz9 : Nat := 40
def Sv5 : Nat := 41
def Sv4 : Nat := 42
def Kz4 : Nat := 43
def Cq1 : Nat := 55
def Qz8 : Nat := 65
def Eq1 : Nat := 66
def Jy0 : Nat := 67
def Sv3 : Nat := 68
def Sv2 : Nat := 69
def Sv1 : Nat := 70
def Qz7 : Nat := 71
def Sv0 : Nat := 72
def Sq9 : Nat := 73
def Sq8 : Nat := 74
def Kz3 : Nat := 75
def Sq7 : Nat := 76
def Qz6 : Nat := 77
def Qz5 : Nat := 78
def Sq6 : Nat := 79
def Sq5 : Nat := 80
def Sq4 : Nat := 81
def Cq0 : Nat := 82
def Qz4 : Nat := 83
def Gj3 : Nat := 84
def Eq0 : Nat := 85
def Qz3 : Nat := 86
def Qz2 : Nat := 87
def Qz1 : Nat := 88
def Sq3 : Nat := 89
def Qz0 : Nat := 90
def Qy9 : Nat := 91
def Sq2 : Nat := 92
def Qy8 : Nat := 95
def Sq1 : Nat := 98
def Cw4 : Nat := 107
def Fv6 : Nat := 108
def Fv5 : Nat := 109
def Kj3 : Nat := 110
def Kj2 : Nat := 111
def Kj1 : Nat := 112
def Kj0 : Nat := 113
def Jz9 : Nat := 114
def Fv4 : Nat := 115
def Jz8 : Nat := 116
def Cw3 : Nat := 117
def Bx2 : Nat := 118
def Dz0 : Nat := 119
def Jz7 : Nat := 120
def Fv3 : Nat := 121
def Jz6 : Nat := 122
def Jz5 : Nat := 123
def Fv2 : Nat := 124
def Jz4 : Nat := 125
def Jz3 : Nat := 141
def Jz2 : Nat := 142
def Fv1 : Nat := 143
def Ck4 : Nat := 144
def Jz1 : Nat := 145
def Aw9 : Nat := 146
def Dy9 : Nat := 147
def Jz0 : Nat := 148
def Fv0 : Nat := 149
def Jy9 : Nat := 150
def Jy8 : Nat := 151
def Fq9 : Nat := 152
def Jy7 : Nat := 153
def Jy6 : Nat := 154
def Dy8 : Nat := 156
def Fq8 : Nat := 157
def Sw7 : Nat := 158
def Jy5 : Nat := 159
def Fq7 : Nat := 160
def Fq6 : Nat := 178
def Fq5 : Nat := 179
def Oz6 : Nat := 180
def Jy4 : Nat := 189
def Oz5 : Nat := 190
def Sw5 : Nat := 191
def Oz4 : Nat := 192
def Jy3 : Nat := 193
def Jy2 : Nat := 206
def By4 : Nat := 207
def Aq8 : Nat := 208
def Jy1 : Nat := 209
def Oz3 : Nat := 213
def Sw4 : Nat := 214
def Dy7 : Nat := 222

def c0_u3 : T := (.w (.call none true Sx0 [(.v 4), (.v 5)] 1) (.ret [(.v 6)]))
def c1_u3 : T := (.w (.call none false Sw9 [(.sub 0 2 (.v 0)), (.sub 0 2 (.v 1))] 1) c0_u3)
def c2_u3 : T := (.w (.call none false Kz6 [(.sub 0 2 (.v 0)), (.sub 0 2 (.v 1))] 1) c1_u3)
def c3_u3 : T := (.ite (.ite (.un .not (.v 3)) (.c (.b true)) (.bin .gtr (.slen (.proj 0 (.v 1))) (.c (.i .i64 (300))))) (.ret [(.c (.b true))]) c2_u3)
def c4_u3 : T := (.w (.call none true Sx1 [(.sub 0 2 (.v 0))] 1) c3_u3)
def c5_u3 : T := (.ite (.un .not (.v 2)) (.ret [(.c (.b false))]) c4_u3)
def t_u3 : T := (.w (.chk (.fit 2 (.v 0))) (.w (.chk (.fit 2 (.v 1))) (.w (.call none true n_u9 [] 1) c5_u3)))
theorem x_u3 : type_of% (And.intro (tev_eq @c0_u3.eq_1) (And.intro (tev_eq @c1_u3.eq_1) (And.intro (tev_eq @c2_u3.eq_1) (And.intro (tev_eq @c3_u3.eq_1) (And.intro (tev_eq @c4_u3.eq_1) (And.intro (tev_eq @c5_u3.eq_1) (tev_eq @t_u3.eq_1))))))) := (And.intro (tev_eq @c0_u3.eq_1) (And.intro (tev_eq @c1_u3.eq_1) (And.intro (tev_eq @c2_u3.eq_1) (And.intro (tev_eq @c3_u3.eq_1) (And.intro (tev_eq @c4_u3.eq_1) (And.intro (tev_eq @c5_u3.eq_1) (tev_eq @t_u3.eq_1)))))))
def c0_u9 : T := (.w (.chk (.fit 5 (.v 3))) (.ret [(.ite (.ite (.ite (.ite (.ite (.bin .eql (.proj 0 (.v 1)) (.c (.i .i64 (1)))) (.proj 2 (.v 1)) (.c (.b false))) (.bin .eql (.len (.proj 4 (.v 1))) (.c (.i .i64 (1)))) (.c (.b false))) (.bin .eql (.proj 0 (.idx 16 (.proj 4 (.v 1)) (.c (.i .i64 (0))))) (.c (.s [97, 46, 120, 46]))) (.c (.b false))) (.bin .eql (.proj 0 (.v 3)) (.c (.i .i64 (4)))) (.c (.b false))) (.bin .eql (.proj 1 (.v 3)) (.c (.s [100, 46, 120, 46]))) (.c (.b false)))]))
def c1_u9 : T := (.w (.chk (.scal (.c (.s [97, 46, 100, 46, 120, 46])))) (.w (.chk (.scal (.c (.i .i64 (1))))) (.w (.call none false Kz6 [(.v 2), (.agg [(.c (.s [97, 46, 100, 46, 120, 46])), (.c (.i .i64 (1)))])] 1) c0_u9)))
def c2_u9 : T := (.w (.chk (.fit 5 (.v 1))) (.w (.call none false Sw8 [] 1) c1_u9))
def c3_u9 : T := (.w (.chk (.scal (.c (.s [97, 46, 120, 46])))) (.w (.chk (.scal (.c (.i .i64 (1))))) (.w (.call none false Kz6 [(.v 0), (.agg [(.c (.s [97, 46, 120, 46])), (.c (.i .i64 (1)))])] 1) c2_u9)))
def t_u9 : T := (.w (.call none false Sw8 [] 1) c3_u9)
theorem x_u9 : type_of% (And.intro (tev_eq @c0_u9.eq_1) (And.intro (tev_eq @c1_u9.eq_1) (And.intro (tev_eq @c2_u9.eq_1) (And.intro (tev_eq @c3_u9.eq_1) (tev_eq @t_u9.eq_1))))) := (And.intro (tev_eq @c0_u9.eq_1) (And.intro (tev_eq @c1_u9.eq_1) (And.intro (tev_eq @c2_u9.eq_1) (And.intro (tev_eq @c3_u9.eq_1) (tev_eq @t_u9.eq_1)))))
def Wz4 : T := (.ret [(.ite (.bin .leq (.len (.proj 1 (.v 0))) (.c (.i .i64 (60)))) (.bin .eql (.v 1) (.c (.i .i64 (0)))) (.c (.b false)))])
def Qw7 : T := (.w (.chk (.fit 2 (.v 0))) (.w (.call (some (.bin .leq (.len (.proj 1 (.v 0))) (.c (.i .i64 (60))))) true Sw3 [(.sub 0 2 (.v 0))] 1) Wz4))
theorem x_u10 : type_of% (And.intro (tev_eq @Wz4.eq_1) (tev_eq @Qw7.eq_1)) := (And.intro (tev_eq @Wz4.eq_1) (tev_eq @Qw7.eq_1))
def Wz3 : T := (.ret [(.ite (.ite (.ite (.ite (.bin .eql (.proj 0 (.v 0)) (.proj 0 (.v 1))) (.bin .eql (.proj 1 (.v 0)) (.proj 1 (.v 1))) (.c (.b false))) (.eqs false false [.b] (.proj 2 (.v 0)) (.proj 2 (.v 1))) (.c (.b false))) (.bin .eql (.proj 3 (.v 0)) (.proj 3 (.v 1))) (.c (.b false))) (.v 2) (.c (.b false)))])
def Qw6 : T := (.w (.chk (.fit 5 (.v 0))) (.w (.chk (.fit 5 (.v 1))) (.w (.call (some (.ite (.ite (.ite (.bin .eql (.proj 0 (.v 0)) (.proj 0 (.v 1))) (.bin .eql (.proj 1 (.v 0)) (.proj 1 (.v 1))) (.c (.b false))) (.eqs false false [.b] (.proj 2 (.v 0)) (.proj 2 (.v 1))) (.c (.b false))) (.bin .eql (.proj 3 (.v 0)) (.proj 3 (.v 1))) (.c (.b false)))) true Sw6 [(.proj 4 (.v 0)), (.proj 4 (.v 1))] 1) Wz3)))
theorem x_u11 : type_of% (And.intro (tev_eq @Wz3.eq_1) (tev_eq @Qw6.eq_1)) := (And.intro (tev_eq @Wz3.eq_1) (tev_eq @Qw6.eq_1))
def Wz2 : T := (.ret [(.agg [(.c (.i .i64 (0))), (.c (.s [])), (.c (.b false)), (.c (.s [])), (.c (.l 16 []))])])
def Wq5 : T := (.w (.chk (.scal (.c (.i .i64 (4))))) (.w (.chk (.scal (.v 3))) (.w (.chk (.scal (.v 5))) (.ret [(.agg [(.c (.i .i64 (4))), (.v 3), (.c (.b false)), (.c (.s [])), (.v 5)])]))))
def Vy4 : T := (.w (.call none false Rj4 [(.sub 0 2 (.v 0)), (.v 3), (.c (.i .i64 (2)))] 1) Wq5)
def Vq6 : T := (.w (.chk (.fit 5 (.sub 0 5 (.v 5)))) (.ret [(.sub 0 5 (.sub 0 5 (.v 5)))]))
def Vj1 : T := (.w (.chk (.fit 5 (.v 9))) (.w (.chk (.scal (.proj 0 (.v 1)))) (.ret [(.agg [(.proj 0 (.v 9)), (.proj 0 (.v 1)), (.proj 2 (.v 9)), (.proj 3 (.v 9)), (.proj 4 (.v 9))])])))
def Ux7 : T := (.w (.call none false Rj3 [(.v 8), (.proj 1 (.v 1))] 1) Vj1)
def Uv2 : T := (.w (.call none false Rj2 [(.sub 0 2 (.v 0)), (.proj 0 (.v 1))] 1) Ux7)
def Uk0 : T := (.w (.chk (.fit 5 (.sub 0 5 (.v 8)))) (.ret [(.sub 0 5 (.sub 0 5 (.v 8)))]))
def Tz2 : T := (.w (.chk (.scal (.c (.i .i64 (6))))) (.w (.chk (.scal (.proj 0 (.v 1)))) (.ret [(.agg [(.c (.i .i64 (6))), (.proj 0 (.v 1)), (.c (.b false)), (.c (.s [])), (.c (.l 16 []))])])))
def Tx8 : T := (.w (.chk (.fit 5 (.v 8))) (.ite (.v 9) Uk0 Tz2))
def Nx7 : T := (.w (.call none false Sv9 [(.sub 0 2 (.v 0)), (.sub 0 2 (.v 1))] 2) Tx8)
def Nw7 : T := (.ite (.v 7) Uv2 Nx7)
def Nv9 : T := (.w (.call none true Sw0 [(.sub 0 2 (.v 0)), (.proj 0 (.v 1))] 1) Nw7)
def Nv3 : T := (.w (.chk (.fit 5 (.v 5))) (.ite (.v 6) Vq6 Nv9))
def Hy8 : T := (.w (.call none false Sw1 [(.sub 0 2 (.v 0)), (.proj 0 (.v 1))] 2) Nv3)
def Nq4 : T := (.w (.chk (.ite (.ite (.v 4) (.un .not (.bin .neq (.v 3) (.proj 0 (.v 1)))) (.c (.b false))) (.bin .neq (.proj 1 (.v 1)) (.c (.i .i64 (43)))) (.c .u))) (.ite (.ite (.v 4) (.ite (.bin .neq (.v 3) (.proj 0 (.v 1))) (.c (.b true)) (.bin .neq (.proj 1 (.v 1)) (.c (.i .i64 (43))))) (.c (.b false))) Vy4 Hy8))
def Nk9 : T := (.w (.call none true Sw2 [(.sub 0 2 (.v 0)), (.proj 0 (.v 1))] 2) Nq4)
def Nk5 : T := (.ite (.un .not (.v 2)) Wz2 Nk9)
def Qw5 : T := (.w (.chk (.fit 2 (.v 0))) (.w (.chk (.fit 2 (.v 1))) (.w (.call none true Dy6 [(.proj 0 (.v 1)), (.proj 0 (.v 0))] 1) Nk5)))
theorem Fx8 : type_of% (And.intro (tev_eq @Wz2.eq_1) (And.intro (tev_eq @Wq5.eq_1) (And.intro (tev_eq @Vy4.eq_1) (And.intro (tev_eq @Vq6.eq_1) (And.intro (tev_eq @Vj1.eq_1) (And.intro (tev_eq @Ux7.eq_1) (And.intro (tev_eq @Uv2.eq_1) (And.intro (tev_eq @Uk0.eq_1) (And.intro (tev_eq @Tz2.eq_1) (And.intro (tev_eq @Tx8.eq_1) (And.intro (tev_eq @Nx7.eq_1) (And.intro (tev_eq @Nw7.eq_1) (And.intro (tev_eq @Nv9.eq_1) (And.intro (tev_eq @Nv3.eq_1) (And.intro (tev_eq @Hy8.eq_1) (And.intro (tev_eq @Nq4.eq_1) (And.intro (tev_eq @Nk9.eq_1) (And.intro (tev_eq @Nk5.eq_1) (tev_eq @Qw5.eq_1))))))))))))))))))) := (And.intro (tev_eq @Wz2.eq_1) (And.intro (tev_eq @Wq5.eq_1) (And.intro (tev_eq @Vy4.eq_1) (And.intro (tev_eq @Vq6.eq_1) (And.intro (tev_eq @Vj1.eq_1) (And.intro (tev_eq @Ux7.eq_1) (And.intro (tev_eq @Uv2.eq_1) (And.intro (tev_eq @Uk0.eq_1) (And.intro (tev_eq @Tz2.eq_1) (And.intro (tev_eq @Tx8.eq_1) (And.intro (tev_eq @Nx7.eq_1) (And.intro (tev_eq @Nw7.eq_1) (And.intro (tev_eq @Nv9.eq_1) (And.intro (tev_eq @Nv3.eq_1) (And.intro (tev_eq @Hy8.eq_1) (And.intro (tev_eq @Nq4.eq_1) (And.intro (tev_eq @Nk9.eq_1) (And.intro (tev_eq @Nk5.eq_1) (tev_eq @Qw5.eq_1)))))))))))))))))))
def Wz1 : T := (.ret [(.agg [(.c (.i .i64 (0))), (.c (.s [])), (.c (.b false)), (.c (.s [])), (.c (.l 16 []))])])
def Wq4 : T := (.w (.chk (.scal (.c (.i .i64 (4))))) (.w (.chk (.scal (.v 3))) (.w (.chk (.scal (.v 5))) (.ret [(.agg [(.c (.i .i64 (4))), (.v 3), (.c (.b false)), (.c (.s [])), (.v 5)])]))))
def Vy3 : T := (.w (.call none false Kz5 [(.sub 0 2 (.v 0)), (.v 3), (.c (.i .i64 (2)))] 1) Wq4)
def Vq5 : T := (.ite (.ite (.bin .gtr (.slen (.v 8)) (.c (.i .i64 (0)))) (.bin .eql (.sidx (.v 8) (.c (.i .i64 (0)))) (.c (.i .u8 (42)))) (.c (.b false))) (.yld 0 [(.c (.s []))]) (.yld 0 [(.v 8)]))
def Vj0 : T := (.w (.chk (.scal (.c (.i .i64 (3))))) (.w (.chk (.scal (.v 5))) (.w (.chk (.scal (.v 10))) (.w (.chk (.scal (.v 7))) (.ret [(.agg [(.c (.i .i64 (3))), (.v 5), (.c (.b false)), (.v 10), (.v 7)])])))))
def Ux6 : T := (.blk 0 Vq5 Vj0)
def Uv1 : T := (.w (.call none true Sv7 [(.proj 0 (.v 1)), (.v 5), (.proj 6 (.idx 16 (.v 7) (.c (.i .i64 (0)))))] 2) Ux6)
def Uj9 : T := (.w (.call none false Kz5 [(.sub 0 2 (.v 0)), (.v 5), (.c (.i .i64 (39)))] 1) Uv1)
def Tz1 : T := (.w (.chk (.fit 5 (.v 9))) (.w (.chk (.scal (.proj 0 (.v 1)))) (.ret [(.agg [(.proj 0 (.v 9)), (.proj 0 (.v 1)), (.proj 2 (.v 9)), (.proj 3 (.v 9)), (.proj 4 (.v 9))])])))
def Tx7 : T := (.w (.call none false Rj0 [(.v 8), (.proj 1 (.v 1))] 1) Tz1)
def Nx6 : T := (.w (.call none false Qz9 [(.sub 0 2 (.v 0)), (.proj 0 (.v 1))] 1) Tx7)
def Nw6 : T := (.w (.chk (.scal (.c (.i .i64 (6))))) (.w (.chk (.scal (.proj 0 (.v 1)))) (.ret [(.agg [(.c (.i .i64 (6))), (.proj 0 (.v 1)), (.c (.b false)), (.c (.s [])), (.c (.l 16 []))])])))
def Nv8 : T := (.w (.chk (.idx 16 (.v 13) (.v 14))) (.w (.chk (.scal (.proj 0 (.v 1)))) (.yld 1 [(.set 16 (.v 13) (.v 14) 0 [(.proj 0 (.v 1))]), (.bin .add (.v 14) (.c (.i .i64 (1))))])))
def Xv1 : T := (.ite (.bin .lss (.v 14) (.len (.v 13))) Nv8 (.yld 0 [(.v 13)]))
def l0_u13 : T := .loop 1 [(.v 12), (.c (.i .i64 (0)))] Xv1
def Nv2 : T := (.w (.chk (.fit 5 (.v 14))) (.w (.chk (.scal (.v 10))) (.w (.chk (.scal (.c (.b true)))) (.ret [(.agg [(.proj 0 (.v 14)), (.v 10), (.c (.b true)), (.proj 3 (.v 14)), (.proj 4 (.v 14))])]))))
def Nq8 : T := (.w (.call none false Rj0 [(.v 13), (.proj 1 (.v 1))] 1) Nv2)
def Nq3 : T := (.blk 0 l0_u13 Nq8)
def Nk8 : T := (.ite (.ite (.un .not (.v 11)) (.c (.b true)) (.bin .eql (.len (.v 12)) (.c (.i .i64 (0))))) Nw6 Nq3)
def Nk4 : T := (.w (.call none false Qz9 [(.sub 0 2 (.v 0)), (.v 10)] 1) Nk8)
def Nk1 : T := (.w (.call none true Sv4 [(.v 8)] 2) Nk4)
def Nj8 : T := (.w (.call none true Sv5 [(.sub 0 2 (.v 0)), (.proj 0 (.v 1))] 2) Nk1)
def Mx9 : T := (.ite (.v 7) Nx6 Nj8)
def Mx6 : T := (.w (.call none true Sv6 [(.sub 0 2 (.v 0)), (.proj 0 (.v 1))] 1) Mx9)
def Mx4 : T := (.ite (.v 6) Uj9 Mx6)
def Hv0 : T := (.w (.call none true Sv8 [(.sub 0 2 (.v 0)), (.proj 0 (.v 1))] 2) Mx4)
def Mx2 : T := (.w (.chk (.ite (.ite (.v 4) (.un .not (.bin .neq (.v 3) (.proj 0 (.v 1)))) (.c (.b false))) (.bin .neq (.proj 1 (.v 1)) (.c (.i .i64 (43)))) (.c .u))) (.ite (.ite (.v 4) (.ite (.bin .neq (.v 3) (.proj 0 (.v 1))) (.c (.b true)) (.bin .neq (.proj 1 (.v 1)) (.c (.i .i64 (43))))) (.c (.b false))) Vy3 Hv0))
def Mx1 : T := (.w (.call none true Rj1 [(.sub 0 2 (.v 0)), (.proj 0 (.v 1))] 2) Mx2)
def Mx0 : T := (.ite (.un .not (.v 2)) Wz1 Mx1)
def Qw4 : T := (.w (.chk (.fit 2 (.v 0))) (.w (.chk (.fit 2 (.v 1))) (.w (.call none true Dy5 [(.proj 0 (.v 1)), (.proj 0 (.v 0))] 1) Mx0)))
theorem Cq8 : type_of% (And.intro (tev_eq @Wz1.eq_1) (And.intro (tev_eq @Wq4.eq_1) (And.intro (tev_eq @Vy3.eq_1) (And.intro (tev_eq @Vq5.eq_1) (And.intro (tev_eq @Vj0.eq_1) (And.intro (tev_eq @Ux6.eq_1) (And.intro (tev_eq @Uv1.eq_1) (And.intro (tev_eq @Uj9.eq_1) (And.intro (tev_eq @Tz1.eq_1) (And.intro (tev_eq @Tx7.eq_1) (And.intro (tev_eq @Nx6.eq_1) (And.intro (tev_eq @Nw6.eq_1) (And.intro (tev_eq @Nv8.eq_1) (And.intro (tev_eq @Xv1.eq_1) (And.intro (tev_eq @Nv2.eq_1) (And.intro (tev_eq @Nq8.eq_1) (And.intro (tev_eq @Nq3.eq_1) (And.intro (tev_eq @Nk8.eq_1) (And.intro (tev_eq @Nk4.eq_1) (And.intro (tev_eq @Nk1.eq_1) (And.intro (tev_eq @Nj8.eq_1) (And.intro (tev_eq @Mx9.eq_1) (And.intro (tev_eq @Mx6.eq_1) (And.intro (tev_eq @Mx4.eq_1) (And.intro (tev_eq @Hv0.eq_1) (And.intro (tev_eq @Mx2.eq_1) (And.intro (tev_eq @Mx1.eq_1) (And.intro (tev_eq @Mx0.eq_1) (tev_eq @Qw4.eq_1))))))))))))))))))))))))))))) := (And.intro (tev_eq @Wz1.eq_1) (And.intro (tev_eq @Wq4.eq_1) (And.intro (tev_eq @Vy3.eq_1) (And.intro (tev_eq @Vq5.eq_1) (And.intro (tev_eq @Vj0.eq_1) (And.intro (tev_eq @Ux6.eq_1) (And.intro (tev_eq @Uv1.eq_1) (And.intro (tev_eq @Uj9.eq_1) (And.intro (tev_eq @Tz1.eq_1) (And.intro (tev_eq @Tx7.eq_1) (And.intro (tev_eq @Nx6.eq_1) (And.intro (tev_eq @Nw6.eq_1) (And.intro (tev_eq @Nv8.eq_1) (And.intro (tev_eq @Xv1.eq_1) (And.intro (tev_eq @Nv2.eq_1) (And.intro (tev_eq @Nq8.eq_1) (And.intro (tev_eq @Nq3.eq_1) (And.intro (tev_eq @Nk8.eq_1) (And.intro (tev_eq @Nk4.eq_1) (And.intro (tev_eq @Nk1.eq_1) (And.intro (tev_eq @Nj8.eq_1) (And.intro (tev_eq @Mx9.eq_1) (And.intro (tev_eq @Mx6.eq_1) (And.intro (tev_eq @Mx4.eq_1) (And.intro (tev_eq @Hv0.eq_1) (And.intro (tev_eq @Mx2.eq_1) (And.intro (tev_eq @Mx1.eq_1) (And.intro (tev_eq @Mx0.eq_1) (tev_eq @Qw4.eq_1)))))))))))))))))))))))))))))
def t_u15 : T := (.w (.chk (.scal (.c (.s [110, 46, 120, 46])))) (.w (.chk (.scal (.c (.s [109, 46, 120, 46])))) (.w (.chk (.scal (.c (.i .i64 (5))))) (.w (.chk (.scal (.c (.i .i64 (6))))) (.w (.chk (.scal (.c (.i .u64 (1))))) (.w (.chk (.scal (.c (.s [42, 46, 120, 46])))) (.w (.chk (.scal (.c (.i .i64 (1))))) (.w (.chk (.scal (.c (.s [110, 46, 100, 46, 120, 46])))) (.w (.chk (.scal (.c (.s [100, 46, 120, 46])))) (.w (.chk (.scal (.c (.i .i64 (2))))) (.w (.chk (.scal (.c (.i .i64 (9))))) (.w (.chk (.scal (.c (.s [120, 46])))) (.w (.chk (.scal (.lit 16 [(.agg [(.c (.s [120, 46])), (.c (.i .i64 (2))), (.c (.i .i64 (9))), (.c (.b false)), (.c (.i .u64 (0))), (.c (.i .u64 (0))), (.c (.s [110, 46, 120, 46])), (.c (.s [])), (.c (.s [])), (.c (.i .i64 (0))), (.c (.i .i64 (0))), (.c (.i .i64 (0))), (.c (.i .i64 (0))), (.c (.i .i64 (0))), (.c (.i .i64 (0))), (.c (.i .u64 (0)))]), (.agg [(.c (.s [120, 46])), (.c (.i .i64 (6))), (.c (.i .i64 (9))), (.c (.b false)), (.c (.i .u64 (0))), (.c (.i .u64 (0))), (.c (.s [110, 46, 120, 46])), (.c (.s [109, 46, 120, 46])), (.c (.s [])), (.c (.i .i64 (0))), (.c (.i .i64 (0))), (.c (.i .i64 (0))), (.c (.i .i64 (0))), (.c (.i .i64 (5))), (.c (.i .i64 (0))), (.c (.i .u64 (0)))]), (.agg [(.c (.s [42, 46, 120, 46])), (.c (.i .i64 (1))), (.c (.i .i64 (9))), (.c (.b false)), (.c (.i .u64 (0))), (.c (.i .u64 (1))), (.c (.s [])), (.c (.s [])), (.c (.s [])), (.c (.i .i64 (0))), (.c (.i .i64 (0))), (.c (.i .i64 (0))), (.c (.i .i64 (0))), (.c (.i .i64 (0))), (.c (.i .i64 (0))), (.c (.i .u64 (0)))]), (.agg [(.c (.s [100, 46, 120, 46])), (.c (.i .i64 (2))), (.c (.i .i64 (9))), (.c (.b false)), (.c (.i .u64 (0))), (.c (.i .u64 (0))), (.c (.s [110, 46, 100, 46, 120, 46])), (.c (.s [])), (.c (.s [])), (.c (.i .i64 (0))), (.c (.i .i64 (0))), (.c (.i .i64 (0))), (.c (.i .i64 (0))), (.c (.i .i64 (0))), (.c (.i .i64 (0))), (.c (.i .u64 (0)))])]))) (.ret [(.agg [(.c (.s [120, 46])), (.lit 16 [(.agg [(.c (.s [120, 46])), (.c (.i .i64 (2))), (.c (.i .i64 (9))), (.c (.b false)), (.c (.i .u64 (0))), (.c (.i .u64 (0))), (.c (.s [110, 46, 120, 46])), (.c (.s [])), (.c (.s [])), (.c (.i .i64 (0))), (.c (.i .i64 (0))), (.c (.i .i64 (0))), (.c (.i .i64 (0))), (.c (.i .i64 (0))), (.c (.i .i64 (0))), (.c (.i .u64 (0)))]), (.agg [(.c (.s [120, 46])), (.c (.i .i64 (6))), (.c (.i .i64 (9))), (.c (.b false)), (.c (.i .u64 (0))), (.c (.i .u64 (0))), (.c (.s [110, 46, 120, 46])), (.c (.s [109, 46, 120, 46])), (.c (.s [])), (.c (.i .i64 (0))), (.c (.i .i64 (0))), (.c (.i .i64 (0))), (.c (.i .i64 (0))), (.c (.i .i64 (5))), (.c (.i .i64 (0))), (.c (.i .u64 (0)))]), (.agg [(.c (.s [42, 46, 120, 46])), (.c (.i .i64 (1))), (.c (.i .i64 (9))), (.c (.b false)), (.c (.i .u64 (0))), (.c (.i .u64 (1))), (.c (.s [])), (.c (.s [])), (.c (.s [])), (.c (.i .i64 (0))), (.c (.i .i64 (0))), (.c (.i .i64 (0))), (.c (.i .i64 (0))), (.c (.i .i64 (0))), (.c (.i .i64 (0))), (.c (.i .u64 (0)))]), (.agg [(.c (.s [100, 46, 120, 46])), (.c (.i .i64 (2))), (.c (.i .i64 (9))), (.c (.b false)), (.c (.i .u64 (0))), (.c (.i .u64 (0))), (.c (.s [110, 46, 100, 46, 120, 46])), (.c (.s [])), (.c (.s [])), (.c (.i .i64 (0))), (.c (.i .i64 (0))), (.c (.i .i64 (0))), (.c (.i .i64 (0))), (.c (.i .i64 (0))), (.c (.i .i64 (0))), (.c (.i .u64 (0)))])])])]))))))))))))))
def Wz0 : T := (.yld 1 [(.bin .add (.v 2) (.c (.i .i64 (1))))])
def Wq3 : T := (.ite (.eqs true true [.s, (.i .i64), (.i .i64), .b, (.i .u64), (.i .u64), .s, .s, .s, (.i .i64), (.i .i64), (.i .i64), (.i .i64), (.i .i64), (.i .i64), (.i .u64)] (.sub 0 16 (.idx 16 (.v 0) (.v 2))) (.sub 0 16 (.idx 16 (.v 1) (.v 2)))) (.ret [(.c (.b false))]) Wz0)
def Xv0 : T := (.ite (.bin .lss (.v 2) (.len (.v 0))) Wq3 (.yld 0 []))
def l0_u19 : T := .loop 1 [(.c (.i .i64 (0)))] Xv0
def Vy2 : T := (.blk 0 l0_u19 (.ret [(.c (.b true))]))
def Qw3 : T := (.ite (.bin .neq (.len (.v 0)) (.len (.v 1))) (.ret [(.c (.b false))]) Vy2)
theorem Pz0 : type_of% (And.intro (tev_eq @Wz0.eq_1) (And.intro (tev_eq @Wq3.eq_1) (And.intro (tev_eq @Xv0.eq_1) (And.intro (tev_eq @Vy2.eq_1) (tev_eq @Qw3.eq_1))))) := (And.intro (tev_eq @Wz0.eq_1) (And.intro (tev_eq @Wq3.eq_1) (And.intro (tev_eq @Xv0.eq_1) (And.intro (tev_eq @Vy2.eq_1) (tev_eq @Qw3.eq_1)))))
def Wy9 : T := (.ret [(.ite (.ite (.v 2) (.v 3) (.c (.b false))) (.v 4) (.c (.b false)))])
def Wq2 : T := (.w (.chk (.ite (.ite (.v 2) (.v 3) (.c (.b false))) (.c .u) (.c .u))) (.w (.call (some (.ite (.v 2) (.v 3) (.c (.b false)))) true Qz8 [(.v 0), (.v 1)] 1) Wy9))
def Vy1 : T := (.w (.chk (.ite (.v 2) (.c .u) (.c .u))) (.w (.call (some (.v 2)) true Cq1 [(.v 1)] 1) Wq2))
def Qw2 : T := (.w (.call none true Cq1 [(.v 0)] 1) Vy1)
theorem x_u23 : type_of% (And.intro (tev_eq @Wy9.eq_1) (And.intro (tev_eq @Wq2.eq_1) (And.intro (tev_eq @Vy1.eq_1) (tev_eq @Qw2.eq_1)))) := (And.intro (tev_eq @Wy9.eq_1) (And.intro (tev_eq @Wq2.eq_1) (And.intro (tev_eq @Vy1.eq_1) (tev_eq @Qw2.eq_1))))
def Wy8 : T := (.yld 1 [(.bin .add (.v 2) (.c (.i .i64 (1))))])
def Wq1 : T := (.ite (.bin .gtr (.len (.v 3)) (.c (.i .i64 (64)))) (.ret [(.c (.i .i64 (9)))]) Wy8)
def Vy0 : T := (.w (.call none false Jy0 [(.proj 1 (.v 0)), (.proj 0 (.idx 16 (.proj 1 (.v 0)) (.v 2))), (.proj 1 (.idx 16 (.proj 1 (.v 0)) (.v 2)))] 1) Wq1)
def Xq9 : T := (.ite (.bin .lss (.v 2) (.len (.proj 1 (.v 0)))) Vy0 (.yld 0 []))
def l0_u25 : T := .loop 1 [(.c (.i .i64 (0)))] Xq9
def Vq4 : T := (.yld 1 [(.bin .add (.v 2) (.c (.i .i64 (1))))])
def Uz9 : T := (.ite (.un .not (.v 3)) (.ret [(.c (.i .i64 (5)))]) Vq4)
def Ux5 : T := (.w (.call none true Sv3 [(.sub 0 16 (.idx 16 (.proj 1 (.v 0)) (.v 2)))] 1) Uz9)
def Xk1 : T := (.ite (.bin .lss (.v 2) (.len (.proj 1 (.v 0)))) Ux5 (.yld 0 []))
def l1_u25 : T := .loop 1 [(.c (.i .i64 (0)))] Xk1
def Uv0 : T := (.yld 1 [(.bin .add (.v 6) (.c (.i .i64 (1))))])
def Uj8 : T := (.ite (.ite (.ite (.ite (.un .not (.v 7)) (.c (.b true)) (.ite (.bin .eql (.proj 1 (.sub 0 16 (.idx 16 (.proj 1 (.v 0)) (.v 6)))) (.c (.i .i64 (6)))) (.bin .neq (.proj 0 (.sub 0 16 (.idx 16 (.proj 1 (.v 0)) (.v 6)))) (.proj 0 (.v 0))) (.c (.b false)))) (.c (.b true)) (.un .not (.v 8))) (.c (.b true)) (.un .not (.v 9))) (.ret [(.c (.i .i64 (13)))]) Uv0)
def Tz0 : T := (.w (.chk (.ite (.un .not (.ite (.ite (.un .not (.v 7)) (.c (.b true)) (.ite (.bin .eql (.proj 1 (.sub 0 16 (.idx 16 (.proj 1 (.v 0)) (.v 6)))) (.c (.i .i64 (6)))) (.bin .neq (.proj 0 (.sub 0 16 (.idx 16 (.proj 1 (.v 0)) (.v 6)))) (.proj 0 (.v 0))) (.c (.b false)))) (.c (.b true)) (.un .not (.v 8)))) (.c .u) (.c .u))) (.w (.call (some (.un .not (.ite (.ite (.un .not (.v 7)) (.c (.b true)) (.ite (.bin .eql (.proj 1 (.sub 0 16 (.idx 16 (.proj 1 (.v 0)) (.v 6)))) (.c (.i .i64 (6)))) (.bin .neq (.proj 0 (.sub 0 16 (.idx 16 (.proj 1 (.v 0)) (.v 6)))) (.proj 0 (.v 0))) (.c (.b false)))) (.c (.b true)) (.un .not (.v 8))))) true Sq9 [(.sub 0 2 (.v 0)), (.sub 0 16 (.sub 0 16 (.idx 16 (.proj 1 (.v 0)) (.v 6))))] 1) Uj8))
def Tx6 : T := (.w (.chk (.ite (.ite (.un .not (.un .not (.v 7))) (.bin .eql (.proj 1 (.sub 0 16 (.idx 16 (.proj 1 (.v 0)) (.v 6)))) (.c (.i .i64 (6)))) (.c (.b false))) (.bin .neq (.proj 0 (.sub 0 16 (.idx 16 (.proj 1 (.v 0)) (.v 6)))) (.proj 0 (.v 0))) (.c .u))) (.w (.call (some (.un .not (.ite (.un .not (.v 7)) (.c (.b true)) (.ite (.bin .eql (.proj 1 (.sub 0 16 (.idx 16 (.proj 1 (.v 0)) (.v 6)))) (.c (.i .i64 (6)))) (.bin .neq (.proj 0 (.sub 0 16 (.idx 16 (.proj 1 (.v 0)) (.v 6)))) (.proj 0 (.v 0))) (.c (.b false)))))) true Sv0 [(.sub 0 2 (.v 0)), (.sub 0 16 (.sub 0 16 (.idx 16 (.proj 1 (.v 0)) (.v 6))))] 1) Tz0))
def Nx5 : T := (.w (.chk (.fit 16 (.sub 0 16 (.idx 16 (.proj 1 (.v 0)) (.v 6))))) (.w (.call none true Dy5 [(.proj 0 (.sub 0 16 (.idx 16 (.proj 1 (.v 0)) (.v 6)))), (.proj 0 (.v 0))] 1) Tx6))
def Pw8 : T := (.ite (.bin .lss (.v 6) (.len (.proj 1 (.v 0)))) Nx5 (.yld 0 []))
def l2_u25 : T := .loop 1 [(.c (.i .i64 (0)))] Pw8
def Nw5 : T := (.blk 0 l2_u25 (.ret [(.c (.i .i64 (0)))]))
def Nv7 : T := (.ite (.ite (.bin .neq (.len (.v 4)) (.c (.i .i64 (1)))) (.c (.b true)) (.un .not (.v 5))) (.ret [(.c (.i .i64 (13)))]) Nw5)
def Nv1 : T := (.w (.call (some (.un .not (.bin .neq (.len (.v 4)) (.c (.i .i64 (1)))))) true Qz7 [(.proj 1 (.v 0)), (.proj 0 (.v 0)), (.c (.i .i64 (2)))] 1) Nv7)
def Nq7 : T := (.w (.call none false Jy0 [(.proj 1 (.v 0)), (.proj 0 (.v 0)), (.c (.i .i64 (6)))] 1) Nv1)
def Nq2 : T := (.ite (.un .not (.v 3)) (.ret [(.c (.i .i64 (7)))]) Nq7)
def Nk7 : T := (.w (.call none true Sv2 [(.proj 1 (.v 0)), (.v 2)] 1) Nq2)
def Nk3 : T := (.w (.call none false Sv1 [(.proj 1 (.v 0))] 1) Nk7)
def Nk0 : T := (.blk 0 l1_u25 Nk3)
def Nj7 : T := (.blk 0 l0_u25 Nk0)
def Mx8 : T := (.ite (.bin .gtr (.len (.proj 1 (.v 0))) (.c (.i .i64 (2048)))) (.ret [(.c (.i .i64 (9)))]) Nj7)
def Mx5 : T := (.ite (.un .not (.v 1)) (.ret [(.c (.i .i64 (2)))]) Mx8)
def Qw1 : T := (.w (.chk (.fit 2 (.v 0))) (.w (.call none true Eq1 [(.proj 0 (.v 0))] 1) Mx5))
theorem Bx6 : type_of% (And.intro (tev_eq @Wy8.eq_1) (And.intro (tev_eq @Wq1.eq_1) (And.intro (tev_eq @Vy0.eq_1) (And.intro (tev_eq @Xq9.eq_1) (And.intro (tev_eq @Vq4.eq_1) (And.intro (tev_eq @Uz9.eq_1) (And.intro (tev_eq @Ux5.eq_1) (And.intro (tev_eq @Xk1.eq_1) (And.intro (tev_eq @Uv0.eq_1) (And.intro (tev_eq @Uj8.eq_1) (And.intro (tev_eq @Tz0.eq_1) (And.intro (tev_eq @Tx6.eq_1) (And.intro (tev_eq @Nx5.eq_1) (And.intro (tev_eq @Pw8.eq_1) (And.intro (tev_eq @Nw5.eq_1) (And.intro (tev_eq @Nv7.eq_1) (And.intro (tev_eq @Nv1.eq_1) (And.intro (tev_eq @Nq7.eq_1) (And.intro (tev_eq @Nq2.eq_1) (And.intro (tev_eq @Nk7.eq_1) (And.intro (tev_eq @Nk3.eq_1) (And.intro (tev_eq @Nk0.eq_1) (And.intro (tev_eq @Nj7.eq_1) (And.intro (tev_eq @Mx8.eq_1) (And.intro (tev_eq @Mx5.eq_1) (tev_eq @Qw1.eq_1)))))))))))))))))))))))))) := (And.intro (tev_eq @Wy8.eq_1) (And.intro (tev_eq @Wq1.eq_1) (And.intro (tev_eq @Vy0.eq_1) (And.intro (tev_eq @Xq9.eq_1) (And.intro (tev_eq @Vq4.eq_1) (And.intro (tev_eq @Uz9.eq_1) (And.intro (tev_eq @Ux5.eq_1) (And.intro (tev_eq @Xk1.eq_1) (And.intro (tev_eq @Uv0.eq_1) (And.intro (tev_eq @Uj8.eq_1) (And.intro (tev_eq @Tz0.eq_1) (And.intro (tev_eq @Tx6.eq_1) (And.intro (tev_eq @Nx5.eq_1) (And.intro (tev_eq @Pw8.eq_1) (And.intro (tev_eq @Nw5.eq_1) (And.intro (tev_eq @Nv7.eq_1) (And.intro (tev_eq @Nv1.eq_1) (And.intro (tev_eq @Nq7.eq_1) (And.intro (tev_eq @Nq2.eq_1) (And.intro (tev_eq @Nk7.eq_1) (And.intro (tev_eq @Nk3.eq_1) (And.intro (tev_eq @Nk0.eq_1) (And.intro (tev_eq @Nj7.eq_1) (And.intro (tev_eq @Mx8.eq_1) (And.intro (tev_eq @Mx5.eq_1) (tev_eq @Qw1.eq_1))))))))))))))))))))))))))
def Wy7 : T := (.yld 1 [(.proj 0 (.sub 0 16 (.idx 16 (.proj 1 (.v 0)) (.v 3)))), (.bin .add (.v 3) (.c (.i .i64 (1))))])
def Wq0 : T := (.yld 1 [(.v 2), (.bin .add (.v 3) (.c (.i .i64 (1))))])
def Vx9 : T := (.w (.chk (.ite (.ite (.ite (.ite (.ite (.bin .eql (.proj 1 (.sub 0 16 (.idx 16 (.proj 1 (.v 0)) (.v 3)))) (.c (.i .i64 (2)))) (.bin .neq (.proj 0 (.sub 0 16 (.idx 16 (.proj 1 (.v 0)) (.v 3)))) (.proj 0 (.v 0))) (.c (.b false))) (.v 4) (.c (.b false))) (.v 5) (.c (.b false))) (.un .not (.bin .eql (.v 2) (.c (.s [])))) (.c (.b false))) (.bin .lss (.slen (.proj 0 (.sub 0 16 (.idx 16 (.proj 1 (.v 0)) (.v 3))))) (.slen (.v 2))) (.c .u))) (.ite (.ite (.ite (.ite (.ite (.bin .eql (.proj 1 (.sub 0 16 (.idx 16 (.proj 1 (.v 0)) (.v 3)))) (.c (.i .i64 (2)))) (.bin .neq (.proj 0 (.sub 0 16 (.idx 16 (.proj 1 (.v 0)) (.v 3)))) (.proj 0 (.v 0))) (.c (.b false))) (.v 4) (.c (.b false))) (.v 5) (.c (.b false))) (.ite (.bin .eql (.v 2) (.c (.s []))) (.c (.b true)) (.bin .lss (.slen (.proj 0 (.sub 0 16 (.idx 16 (.proj 1 (.v 0)) (.v 3))))) (.slen (.v 2)))) (.c (.b false))) Wy7 Wq0))
def Vq3 : T := (.w (.chk (.ite (.ite (.ite (.bin .eql (.proj 1 (.sub 0 16 (.idx 16 (.proj 1 (.v 0)) (.v 3)))) (.c (.i .i64 (2)))) (.bin .neq (.proj 0 (.sub 0 16 (.idx 16 (.proj 1 (.v 0)) (.v 3)))) (.proj 0 (.v 0))) (.c (.b false))) (.v 4) (.c (.b false))) (.c .u) (.c .u))) (.w (.call (some (.ite (.ite (.bin .eql (.proj 1 (.sub 0 16 (.idx 16 (.proj 1 (.v 0)) (.v 3)))) (.c (.i .i64 (2)))) (.bin .neq (.proj 0 (.sub 0 16 (.idx 16 (.proj 1 (.v 0)) (.v 3)))) (.proj 0 (.v 0))) (.c (.b false))) (.v 4) (.c (.b false)))) true Dy6 [(.v 1), (.proj 0 (.sub 0 16 (.idx 16 (.proj 1 (.v 0)) (.v 3))))] 1) Vx9))
def Uz8 : T := (.w (.chk (.fit 16 (.sub 0 16 (.idx 16 (.proj 1 (.v 0)) (.v 3))))) (.w (.call (some (.ite (.bin .eql (.proj 1 (.sub 0 16 (.idx 16 (.proj 1 (.v 0)) (.v 3)))) (.c (.i .i64 (2)))) (.bin .neq (.proj 0 (.sub 0 16 (.idx 16 (.proj 1 (.v 0)) (.v 3)))) (.proj 0 (.v 0))) (.c (.b false)))) true Dy6 [(.proj 0 (.sub 0 16 (.idx 16 (.proj 1 (.v 0)) (.v 3)))), (.proj 0 (.v 0))] 1) Vq3))
def Xq8 : T := (.ite (.bin .lss (.v 3) (.len (.proj 1 (.v 0)))) Uz8 (.yld 0 [(.v 2)]))
def l0_u26 : T := .loop 1 [(.c (.s [])), (.c (.i .i64 (0)))] Xq8
def Ux4 : T := (.ret [(.v 2), (.bin .neq (.v 2) (.c (.s [])))])
def Qw0 : T := (.w (.chk (.fit 2 (.v 0))) (.w (.chk (.len (.proj 1 (.v 0)))) (.blk 0 l0_u26 Ux4)))
theorem Fx7 : type_of% (And.intro (tev_eq @Wy7.eq_1) (And.intro (tev_eq @Wq0.eq_1) (And.intro (tev_eq @Vx9.eq_1) (And.intro (tev_eq @Vq3.eq_1) (And.intro (tev_eq @Uz8.eq_1) (And.intro (tev_eq @Xq8.eq_1) (And.intro (tev_eq @Ux4.eq_1) (tev_eq @Qw0.eq_1)))))))) := (And.intro (tev_eq @Wy7.eq_1) (And.intro (tev_eq @Wq0.eq_1) (And.intro (tev_eq @Vx9.eq_1) (And.intro (tev_eq @Vq3.eq_1) (And.intro (tev_eq @Uz8.eq_1) (And.intro (tev_eq @Xq8.eq_1) (And.intro (tev_eq @Ux4.eq_1) (tev_eq @Qw0.eq_1))))))))
def Qv9 : T := (.w (.chk (.fit 2 (.v 0))) (.w (.call none false Sq8 [(.proj 1 (.v 0)), (.v 1), (.v 2)] 1) (.ret [(.v 3)])))
theorem x_u27 : type_of% (tev_eq @Qv9.eq_1) := (tev_eq @Qv9.eq_1)
def Wy6 : T := (.yld 0 [(.v 3), (.v 4), (.v 5), (.v 6), (.v 7)])
def Wk9 : T := (.ite (.ite (.bin .neq (.v 11) (.c (.s []))) (.bin .eql (.sidx (.v 11) (.c (.i .i64 (0)))) (.c (.i .u8 (42)))) (.c (.b false))) (.yld 2 [(.c (.s []))]) (.yld 2 [(.v 11)]))
def Vx8 : T := (.w (.chk (.scal (.c (.i .i64 (3))))) (.w (.chk (.scal (.v 8))) (.w (.chk (.scal (.v 13))) (.w (.chk (.scal (.lsl 16 (.v 10) (.c (.i .i64 (0))) (.c (.i .i64 (1)))))) (.ret [(.agg [(.c (.i .i64 (3))), (.v 8), (.c (.b false)), (.v 13), (.lsl 16 (.v 10) (.c (.i .i64 (0))) (.c (.i .i64 (1))))]), (.c (.b true))])))))
def Vq2 : T := (.blk 2 Wk9 Vx8)
def Uz7 : T := (.w (.call none true Sq7 [(.v 1), (.v 8), (.proj 6 (.idx 16 (.v 10) (.c (.i .i64 (0)))))] 2) Vq2)
def Ux3 : T := (.yld 1 [(.v 8), (.v 3), (.v 4), (.v 5), (.v 6), (.v 7)])
def Uq9 : T := (.ite (.bin .gtr (.len (.v 10)) (.c (.i .i64 (0)))) Uz7 Ux3)
def Uj7 : T := (.w (.call none false Rj4 [(.sub 0 2 (.v 0)), (.v 8), (.c (.i .i64 (39)))] 1) Uq9)
def Ty9 : T := (.ite (.un .not (.v 9)) Wy6 Uj7)
def Tx5 : T := (.w (.call none true Kz3 [(.v 2)] 2) Ty9)
def Nx4 : T := (.yld 0 [(.v 3), (.v 4), (.v 5), (.v 6), (.v 7)])
def Px8 : T := (.ite (.bin .neq (.v 2) (.proj 0 (.v 0))) Tx5 Nx4)
def l0_u28 : T := .loop 1 [(.v 1), (.c (.i .i64 (0))), (.c (.s [])), (.c (.b false)), (.c (.s [])), (.c (.l 16 []))] Px8
def Nw4 : T := (.ret [(.agg [(.c (.i .i64 (0))), (.c (.s [])), (.c (.b false)), (.c (.s [])), (.c (.l 16 []))]), (.c (.b false))])
def Qv8 : T := (.w (.chk (.fit 2 (.v 0))) (.blk 0 l0_u28 Nw4))
theorem Kw9 : type_of% (And.intro (tev_eq @Wy6.eq_1) (And.intro (tev_eq @Wk9.eq_1) (And.intro (tev_eq @Vx8.eq_1) (And.intro (tev_eq @Vq2.eq_1) (And.intro (tev_eq @Uz7.eq_1) (And.intro (tev_eq @Ux3.eq_1) (And.intro (tev_eq @Uq9.eq_1) (And.intro (tev_eq @Uj7.eq_1) (And.intro (tev_eq @Ty9.eq_1) (And.intro (tev_eq @Tx5.eq_1) (And.intro (tev_eq @Nx4.eq_1) (And.intro (tev_eq @Px8.eq_1) (And.intro (tev_eq @Nw4.eq_1) (tev_eq @Qv8.eq_1)))))))))))))) := (And.intro (tev_eq @Wy6.eq_1) (And.intro (tev_eq @Wk9.eq_1) (And.intro (tev_eq @Vx8.eq_1) (And.intro (tev_eq @Vq2.eq_1) (And.intro (tev_eq @Uz7.eq_1) (And.intro (tev_eq @Ux3.eq_1) (And.intro (tev_eq @Uq9.eq_1) (And.intro (tev_eq @Uj7.eq_1) (And.intro (tev_eq @Ty9.eq_1) (And.intro (tev_eq @Tx5.eq_1) (And.intro (tev_eq @Nx4.eq_1) (And.intro (tev_eq @Px8.eq_1) (And.intro (tev_eq @Nw4.eq_1) (tev_eq @Qv8.eq_1))))))))))))))
def Wy5 : T := (.w (.call none true Kz4 [(.v 2), (.v 1)] 1) (.ret [(.v 3)]))
def Qv7 : T := (.w (.chk (.fit 2 (.v 0))) (.w (.call none false Qz6 [(.sub 0 2 (.v 0))] 1) Wy5))
theorem x_u29 : type_of% (And.intro (tev_eq @Wy5.eq_1) (tev_eq @Qv7.eq_1)) := (And.intro (tev_eq @Wy5.eq_1) (tev_eq @Qv7.eq_1))
def Wy4 : T := (.w (.chk (.scal (.c (.i .i64 (2))))) (.w (.chk (.scal (.proj 6 (.idx 16 (.v 2) (.c (.i .i64 (0))))))) (.w (.chk (.scal (.lsl 16 (.v 2) (.c (.i .i64 (0))) (.c (.i .i64 (1)))))) (.ret [(.agg [(.c (.i .i64 (2))), (.c (.s [])), (.c (.b false)), (.proj 6 (.idx 16 (.v 2) (.c (.i .i64 (0))))), (.lsl 16 (.v 2) (.c (.i .i64 (0))) (.c (.i .i64 (1))))])]))))
def Wk8 : T := (.w (.chk (.scal (.c (.i .i64 (1))))) (.w (.chk (.scal (.v 4))) (.ret [(.agg [(.c (.i .i64 (1))), (.c (.s [])), (.c (.b false)), (.c (.s [])), (.v 4)])])))
def Vx7 : T := (.w (.chk (.scal (.c (.i .i64 (5))))) (.ret [(.agg [(.c (.i .i64 (5))), (.c (.s [])), (.c (.b false)), (.c (.s [])), (.c (.l 16 []))])]))
def Vq1 : T := (.ite (.bin .gtr (.len (.v 4)) (.c (.i .i64 (0)))) Wk8 Vx7)
def Pw4 : T := (.w (.call none false Qz5 [(.v 0), (.v 1)] 1) Vq1)
def Ux2 : T := (.ite (.ite (.bin .gtr (.len (.v 2)) (.c (.i .i64 (0)))) (.un .not (.v 3)) (.c (.b false))) Wy4 Pw4)
def Uq8 : T := (.w (.call (some (.bin .gtr (.len (.v 2)) (.c (.i .i64 (0))))) true Sq6 [(.v 1)] 1) Ux2)
def Qv6 : T := (.w (.call none false Qz5 [(.v 0), (.c (.i .i64 (5)))] 1) Uq8)
theorem Rw2 : type_of% (And.intro (tev_eq @Wy4.eq_1) (And.intro (tev_eq @Wk8.eq_1) (And.intro (tev_eq @Vx7.eq_1) (And.intro (tev_eq @Vq1.eq_1) (And.intro (tev_eq @Pw4.eq_1) (And.intro (tev_eq @Ux2.eq_1) (And.intro (tev_eq @Uq8.eq_1) (tev_eq @Qv6.eq_1)))))))) := (And.intro (tev_eq @Wy4.eq_1) (And.intro (tev_eq @Wk8.eq_1) (And.intro (tev_eq @Vx7.eq_1) (And.intro (tev_eq @Vq1.eq_1) (And.intro (tev_eq @Pw4.eq_1) (And.intro (tev_eq @Ux2.eq_1) (And.intro (tev_eq @Uq8.eq_1) (tev_eq @Qv6.eq_1))))))))
def Wy3 : T := (.w (.chk (.fit 16 (.sub 0 16 (.sub 0 16 (.idx 16 (.proj 1 (.v 0)) (.v 3)))))) (.yld 1 [(.app 16 (.v 2) (.lit 16 [(.sub 0 16 (.sub 0 16 (.idx 16 (.proj 1 (.v 0)) (.v 3))))])), (.bin .add (.v 3) (.c (.i .i64 (1))))]))
def Wk7 : T := (.yld 1 [(.v 2), (.bin .add (.v 3) (.c (.i .i64 (1))))])
def Vx6 : T := (.w (.chk (.fit 16 (.sub 0 16 (.idx 16 (.proj 1 (.v 0)) (.v 3))))) (.ite (.bin .eql (.proj 0 (.sub 0 16 (.idx 16 (.proj 1 (.v 0)) (.v 3)))) (.v 1)) Wy3 Wk7))
def Xq7 : T := (.ite (.bin .lss (.v 3) (.len (.proj 1 (.v 0)))) Vx6 (.yld 0 [(.v 2)]))
def l0_u31 : T := .loop 1 [(.c (.l 16 [])), (.c (.i .i64 (0)))] Xq7
def Qv5 : T := (.w (.chk (.fit 2 (.v 0))) (.w (.chk (.len (.proj 1 (.v 0)))) (.blk 0 l0_u31 (.ret [(.v 2)]))))
theorem x_u31 : type_of% (And.intro (tev_eq @Wy3.eq_1) (And.intro (tev_eq @Wk7.eq_1) (And.intro (tev_eq @Vx6.eq_1) (And.intro (tev_eq @Xq7.eq_1) (tev_eq @Qv5.eq_1))))) := (And.intro (tev_eq @Wy3.eq_1) (And.intro (tev_eq @Wk7.eq_1) (And.intro (tev_eq @Vx6.eq_1) (And.intro (tev_eq @Xq7.eq_1) (tev_eq @Qv5.eq_1)))))
def Wy2 : T := (.ret [(.agg [(.c (.i .i64 (0))), (.c (.s [])), (.c (.b false)), (.c (.s [])), (.c (.l 16 []))]), (.c (.b false))])
def Wk6 : T := (.ret [(.agg [(.c (.i .i64 (0))), (.c (.s [])), (.c (.b false)), (.c (.s [])), (.c (.l 16 []))]), (.c (.b false))])
def Vx5 : T := (.w (.chk (.idx 16 (.v 7) (.v 8))) (.w (.chk (.scal (.proj 0 (.v 1)))) (.yld 1 [(.set 16 (.v 7) (.v 8) 0 [(.proj 0 (.v 1))]), (.bin .add (.v 8) (.c (.i .i64 (1))))])))
def Xq6 : T := (.ite (.bin .lss (.v 8) (.len (.v 6))) Vx5 (.yld 0 [(.v 7)]))
def l0_u32 : T := .loop 1 [(.v 6), (.c (.i .i64 (0)))] Xq6
def Vq0 : T := (.w (.chk (.fit 5 (.v 8))) (.w (.chk (.scal (.v 4))) (.w (.chk (.scal (.c (.b true)))) (.ret [(.agg [(.proj 0 (.v 8)), (.v 4), (.c (.b true)), (.proj 3 (.v 8)), (.proj 4 (.v 8))]), (.c (.b true))]))))
def Uz6 : T := (.w (.call none false Rj3 [(.v 7), (.proj 1 (.v 1))] 1) Vq0)
def Ux1 : T := (.w (.chk (.len (.v 6))) (.blk 0 l0_u32 Uz6))
def Uq7 : T := (.ite (.ite (.un .not (.v 5)) (.c (.b true)) (.bin .eql (.len (.v 6)) (.c (.i .i64 (0))))) Wk6 Ux1)
def Uj6 : T := (.w (.call none false Rj2 [(.sub 0 2 (.v 0)), (.v 4)] 1) Uq7)
def Ty8 : T := (.w (.call none true Sq4 [(.v 2)] 2) Uj6)
def Tx4 : T := (.ite (.un .not (.v 3)) Wy2 Ty8)
def Qv4 : T := (.w (.chk (.fit 2 (.v 0))) (.w (.chk (.fit 2 (.v 1))) (.w (.call none true Sq5 [(.sub 0 2 (.v 0)), (.proj 0 (.v 1))] 2) Tx4)))
theorem Py9 : type_of% (And.intro (tev_eq @Wy2.eq_1) (And.intro (tev_eq @Wk6.eq_1) (And.intro (tev_eq @Vx5.eq_1) (And.intro (tev_eq @Xq6.eq_1) (And.intro (tev_eq @Vq0.eq_1) (And.intro (tev_eq @Uz6.eq_1) (And.intro (tev_eq @Ux1.eq_1) (And.intro (tev_eq @Uq7.eq_1) (And.intro (tev_eq @Uj6.eq_1) (And.intro (tev_eq @Ty8.eq_1) (And.intro (tev_eq @Tx4.eq_1) (tev_eq @Qv4.eq_1)))))))))))) := (And.intro (tev_eq @Wy2.eq_1) (And.intro (tev_eq @Wk6.eq_1) (And.intro (tev_eq @Vx5.eq_1) (And.intro (tev_eq @Xq6.eq_1) (And.intro (tev_eq @Vq0.eq_1) (And.intro (tev_eq @Uz6.eq_1) (And.intro (tev_eq @Ux1.eq_1) (And.intro (tev_eq @Uq7.eq_1) (And.intro (tev_eq @Uj6.eq_1) (And.intro (tev_eq @Ty8.eq_1) (And.intro (tev_eq @Tx4.eq_1) (tev_eq @Qv4.eq_1))))))))))))
def Wy1 : T := (.ret [(.ite (.ite (.v 3) (.v 5) (.c (.b false))) (.bin .eql (.v 6) (.len (.v 4))) (.c (.b false)))])
def Wk5 : T := (.w (.chk (.ite (.ite (.v 3) (.v 5) (.c (.b false))) (.c .u) (.c .u))) (.w (.call (some (.ite (.v 3) (.v 5) (.c (.b false)))) true Qz4 [(.v 2), (.v 4)] 1) Wy1))
def Vx4 : T := (.w (.call none false Cq0 [(.v 1)] 2) Wk5)
def Qv3 : T := (.w (.call none false Cq0 [(.v 0)] 2) Vx4)
theorem x_u33 : type_of% (And.intro (tev_eq @Wy1.eq_1) (And.intro (tev_eq @Wk5.eq_1) (And.intro (tev_eq @Vx4.eq_1) (tev_eq @Qv3.eq_1)))) := (And.intro (tev_eq @Wy1.eq_1) (And.intro (tev_eq @Wk5.eq_1) (And.intro (tev_eq @Vx4.eq_1) (tev_eq @Qv3.eq_1))))
def Wy0 : T := (.yld 1 [(.proj 0 (.sub 0 16 (.idx 16 (.proj 1 (.v 0)) (.v 3)))), (.bin .add (.v 3) (.c (.i .i64 (1))))])
def Wk4 : T := (.yld 1 [(.v 2), (.bin .add (.v 3) (.c (.i .i64 (1))))])
def Vx3 : T := (.ite (.ite (.bin .eql (.v 2) (.c (.s []))) (.c (.b true)) (.bin .lss (.len (.v 6)) (.len (.v 7)))) Wy0 Wk4)
def Vk9 : T := (.w (.chk (.ite (.un .not (.bin .eql (.v 2) (.c (.s [])))) (.len (.v 6)) (.c .u))) (.w (.call (some (.un .not (.bin .eql (.v 2) (.c (.s []))))) false Eq0 [(.v 2)] 1) Vx3))
def Uz5 : T := (.w (.call (some (.un .not (.bin .eql (.v 2) (.c (.s []))))) false Eq0 [(.proj 0 (.sub 0 16 (.idx 16 (.proj 1 (.v 0)) (.v 3))))] 1) Vk9)
def Ux0 : T := (.yld 1 [(.v 2), (.bin .add (.v 3) (.c (.i .i64 (1))))])
def Uq6 : T := (.ite (.ite (.ite (.bin .eql (.proj 1 (.sub 0 16 (.idx 16 (.proj 1 (.v 0)) (.v 3)))) (.c (.i .i64 (2)))) (.v 4) (.c (.b false))) (.v 5) (.c (.b false))) Uz5 Ux0)
def Uj5 : T := (.w (.chk (.ite (.ite (.bin .eql (.proj 1 (.sub 0 16 (.idx 16 (.proj 1 (.v 0)) (.v 3)))) (.c (.i .i64 (2)))) (.v 4) (.c (.b false))) (.c .u) (.c .u))) (.w (.call (some (.ite (.bin .eql (.proj 1 (.sub 0 16 (.idx 16 (.proj 1 (.v 0)) (.v 3)))) (.c (.i .i64 (2)))) (.v 4) (.c (.b false)))) true Dy5 [(.v 1), (.proj 0 (.sub 0 16 (.idx 16 (.proj 1 (.v 0)) (.v 3))))] 1) Uq6))
def Ty7 : T := (.w (.chk (.fit 16 (.sub 0 16 (.idx 16 (.proj 1 (.v 0)) (.v 3))))) (.w (.call (some (.bin .eql (.proj 1 (.sub 0 16 (.idx 16 (.proj 1 (.v 0)) (.v 3)))) (.c (.i .i64 (2))))) true Gj3 [(.proj 0 (.sub 0 16 (.idx 16 (.proj 1 (.v 0)) (.v 3)))), (.proj 0 (.v 0))] 1) Uj5))
def Xq5 : T := (.ite (.bin .lss (.v 3) (.len (.proj 1 (.v 0)))) Ty7 (.yld 0 [(.v 2)]))
def l0_u34 : T := .loop 1 [(.c (.s [])), (.c (.i .i64 (0)))] Xq5
def Tx3 : T := (.ret [(.v 2), (.bin .neq (.v 2) (.c (.s [])))])
def Qv2 : T := (.w (.chk (.fit 2 (.v 0))) (.blk 0 l0_u34 Tx3))
theorem Iv1 : type_of% (And.intro (tev_eq @Wy0.eq_1) (And.intro (tev_eq @Wk4.eq_1) (And.intro (tev_eq @Vx3.eq_1) (And.intro (tev_eq @Vk9.eq_1) (And.intro (tev_eq @Uz5.eq_1) (And.intro (tev_eq @Ux0.eq_1) (And.intro (tev_eq @Uq6.eq_1) (And.intro (tev_eq @Uj5.eq_1) (And.intro (tev_eq @Ty7.eq_1) (And.intro (tev_eq @Xq5.eq_1) (And.intro (tev_eq @Tx3.eq_1) (tev_eq @Qv2.eq_1)))))))))))) := (And.intro (tev_eq @Wy0.eq_1) (And.intro (tev_eq @Wk4.eq_1) (And.intro (tev_eq @Vx3.eq_1) (And.intro (tev_eq @Vk9.eq_1) (And.intro (tev_eq @Uz5.eq_1) (And.intro (tev_eq @Ux0.eq_1) (And.intro (tev_eq @Uq6.eq_1) (And.intro (tev_eq @Uj5.eq_1) (And.intro (tev_eq @Ty7.eq_1) (And.intro (tev_eq @Xq5.eq_1) (And.intro (tev_eq @Tx3.eq_1) (tev_eq @Qv2.eq_1))))))))))))
def Qv1 : T := (.w (.chk (.fit 2 (.v 0))) (.w (.call none false Jy0 [(.proj 1 (.v 0)), (.v 1), (.v 2)] 1) (.ret [(.v 3)])))
theorem x_u35 : type_of% (tev_eq @Qv1.eq_1) := (tev_eq @Qv1.eq_1)
def Wx9 : T := (.ret [(.c (.s [])), (.c (.b false))])
def Wk3 : T := (.ret [(.v 4), (.c (.b true))])
def Vx2 : T := (.yld 1 [(.v 4), (.bin .add (.v 3) (.c (.i .i64 (1))))])
def Vk8 : T := (.ite (.bin .gtr (.len (.v 6)) (.c (.i .i64 (0)))) Wk3 Vx2)
def Uz4 : T := (.w (.call none false Kz5 [(.sub 0 2 (.v 0)), (.v 4), (.c (.i .i64 (39)))] 1) Vk8)
def Uw9 : T := (.ite (.un .not (.v 5)) Wx9 Uz4)
def Uq5 : T := (.w (.call none true Qz3 [(.v 2)] 2) Uw9)
def Px7 : T := (.ite (.ite (.bin .lss (.v 3) (.c (.i .i64 (130)))) (.bin .neq (.v 2) (.proj 0 (.v 0))) (.c (.b false))) Uq5 (.yld 0 []))
def l0_u36 : T := .loop 1 [(.v 1), (.c (.i .i64 (0)))] Px7
def Uj4 : T := (.ret [(.c (.s [])), (.c (.b false))])
def Qv0 : T := (.w (.chk (.fit 2 (.v 0))) (.blk 0 l0_u36 Uj4))
theorem Rw1 : type_of% (And.intro (tev_eq @Wx9.eq_1) (And.intro (tev_eq @Wk3.eq_1) (And.intro (tev_eq @Vx2.eq_1) (And.intro (tev_eq @Vk8.eq_1) (And.intro (tev_eq @Uz4.eq_1) (And.intro (tev_eq @Uw9.eq_1) (And.intro (tev_eq @Uq5.eq_1) (And.intro (tev_eq @Px7.eq_1) (And.intro (tev_eq @Uj4.eq_1) (tev_eq @Qv0.eq_1)))))))))) := (And.intro (tev_eq @Wx9.eq_1) (And.intro (tev_eq @Wk3.eq_1) (And.intro (tev_eq @Vx2.eq_1) (And.intro (tev_eq @Vk8.eq_1) (And.intro (tev_eq @Uz4.eq_1) (And.intro (tev_eq @Uw9.eq_1) (And.intro (tev_eq @Uq5.eq_1) (And.intro (tev_eq @Px7.eq_1) (And.intro (tev_eq @Uj4.eq_1) (tev_eq @Qv0.eq_1))))))))))
def Wx8 : T := (.ret [(.c (.s [])), (.c (.i .i64 (2)))])
def Wk2 : T := (.ret [(.c (.s [])), (.c (.i .i64 (1)))])
def Vx1 : T := (.ret [(.c (.s [])), (.c (.i .i64 (9)))])
def Vk7 : T := (.ret [(.v 10), (.c (.i .i64 (0)))])
def Uz3 : T := (.ite (.un .not (.v 11)) Vx1 Vk7)
def Uw8 : T := (.w (.call none true Eq1 [(.v 10)] 1) Uz3)
def Uq4 : T := (.w (.call none true Qz2 [(.app 1 (.app 1 (.c (.l 1 [])) (.lsl 1 (.v 3) (.c (.i .i64 (0))) (.bin .sub (.len (.v 3)) (.len (.v 5))))) (.v 7))] 1) Uw8)
def Uj3 : T := (.ite (.ite (.un .not (.v 9)) (.c (.b true)) (.bin .eql (.len (.v 3)) (.len (.v 5)))) Wk2 Uq4)
def Pw2 : T := (.w (.call none true Dy5 [(.v 0), (.v 1)] 1) Uj3)
def Tx2 : T := (.w (.chk (.ite (.ite (.un .not (.ite (.ite (.un .not (.v 4)) (.c (.b true)) (.un .not (.v 6))) (.c (.b true)) (.un .not (.v 8)))) (.bin .gtr (.len (.v 7)) (.c (.i .i64 (0)))) (.c (.b false))) (.bin .eql (.proj 0 (.idx 1 (.v 7) (.c (.i .i64 (0))))) (.c (.s [42]))) (.c .u))) (.ite (.ite (.ite (.ite (.un .not (.v 4)) (.c (.b true)) (.un .not (.v 6))) (.c (.b true)) (.un .not (.v 8))) (.c (.b true)) (.ite (.bin .gtr (.len (.v 7)) (.c (.i .i64 (0)))) (.bin .eql (.proj 0 (.idx 1 (.v 7) (.c (.i .i64 (0))))) (.c (.s [42]))) (.c (.b false)))) Wx8 Pw2))
def Nx3 : T := (.w (.call none false Cq0 [(.v 2)] 2) Tx2)
def Nw3 : T := (.w (.call none false Cq0 [(.v 1)] 2) Nx3)
def Qq9 : T := (.w (.call none false Cq0 [(.v 0)] 2) Nw3)
theorem Ek3 : type_of% (And.intro (tev_eq @Wx8.eq_1) (And.intro (tev_eq @Wk2.eq_1) (And.intro (tev_eq @Vx1.eq_1) (And.intro (tev_eq @Vk7.eq_1) (And.intro (tev_eq @Uz3.eq_1) (And.intro (tev_eq @Uw8.eq_1) (And.intro (tev_eq @Uq4.eq_1) (And.intro (tev_eq @Uj3.eq_1) (And.intro (tev_eq @Pw2.eq_1) (And.intro (tev_eq @Tx2.eq_1) (And.intro (tev_eq @Nx3.eq_1) (And.intro (tev_eq @Nw3.eq_1) (tev_eq @Qq9.eq_1))))))))))))) := (And.intro (tev_eq @Wx8.eq_1) (And.intro (tev_eq @Wk2.eq_1) (And.intro (tev_eq @Vx1.eq_1) (And.intro (tev_eq @Vk7.eq_1) (And.intro (tev_eq @Uz3.eq_1) (And.intro (tev_eq @Uw8.eq_1) (And.intro (tev_eq @Uq4.eq_1) (And.intro (tev_eq @Uj3.eq_1) (And.intro (tev_eq @Pw2.eq_1) (And.intro (tev_eq @Tx2.eq_1) (And.intro (tev_eq @Nx3.eq_1) (And.intro (tev_eq @Nw3.eq_1) (tev_eq @Qq9.eq_1)))))))))))))
def Wx7 : T := (.yld 1 [(.bin .add (.v 3) (.c (.i .i64 (1))))])
def Wk1 : T := (.ite (.bin .eql (.proj 0 (.idx 1 (.v 2) (.v 3))) (.v 1)) (.ret [(.c (.b true))]) Wx7)
def Xq4 : T := (.ite (.bin .lss (.v 3) (.len (.v 2))) Wk1 (.yld 0 []))
def l0_u38 : T := .loop 1 [(.c (.i .i64 (0)))] Xq4
def Vx0 : T := (.blk 0 l0_u38 (.ret [(.c (.b false))]))
def Qq8 : T := (.w (.chk (.fit 2 (.v 0))) (.w (.call none false Qz1 [(.sub 0 2 (.v 0))] 1) Vx0))
theorem Rw0 : type_of% (And.intro (tev_eq @Wx7.eq_1) (And.intro (tev_eq @Wk1.eq_1) (And.intro (tev_eq @Xq4.eq_1) (And.intro (tev_eq @Vx0.eq_1) (tev_eq @Qq8.eq_1))))) := (And.intro (tev_eq @Wx7.eq_1) (And.intro (tev_eq @Wk1.eq_1) (And.intro (tev_eq @Xq4.eq_1) (And.intro (tev_eq @Vx0.eq_1) (tev_eq @Qq8.eq_1)))))
def Wx6 : T := (.w (.chk (.fit 16 (.sub 0 16 (.idx 16 (.v 0) (.v 3))))) (.w (.chk (.scal (.c (.i .i64 (2))))) (.w (.chk (.scal (.proj 6 (.idx 16 (.v 0) (.v 3))))) (.w (.chk (.scal (.lit 16 [(.sub 0 16 (.idx 16 (.v 0) (.v 3)))]))) (.ret [(.agg [(.c (.i .i64 (2))), (.c (.s [])), (.c (.b false)), (.proj 6 (.idx 16 (.v 0) (.v 3))), (.lit 16 [(.sub 0 16 (.idx 16 (.v 0) (.v 3)))])])])))))
def Wk0 : T := (.w (.chk (.fit 16 (.sub 0 16 (.idx 16 (.v 0) (.v 3))))) (.yld 1 [(.app 16 (.v 2) (.lit 16 [(.sub 0 16 (.idx 16 (.v 0) (.v 3)))])), (.bin .add (.v 3) (.c (.i .i64 (1)))), (.v 4), (.v 5), (.v 6), (.v 7), (.v 8)]))
def Vw9 : T := (.yld 1 [(.v 2), (.bin .add (.v 3) (.c (.i .i64 (1)))), (.v 4), (.v 5), (.v 6), (.v 7), (.v 8)])
def Vk6 : T := (.ite (.ite (.bin .eql (.proj 1 (.idx 16 (.v 0) (.v 3))) (.v 1)) (.c (.b true)) (.bin .eql (.v 1) (.c (.i .i64 (255))))) Wk0 Vw9)
def Uz2 : T := (.ite (.ite (.ite (.ite (.ite (.bin .eql (.proj 1 (.idx 16 (.v 0) (.v 3))) (.c (.i .i64 (5)))) (.bin .neq (.v 1) (.c (.i .i64 (5)))) (.c (.b false))) (.bin .neq (.v 1) (.c (.i .i64 (47)))) (.c (.b false))) (.bin .neq (.v 1) (.c (.i .i64 (46)))) (.c (.b false))) (.bin .neq (.v 1) (.c (.i .i64 (255)))) (.c (.b false))) Wx6 Vk6)
def Uw7 : T := (.yld 0 [(.v 2), (.v 4), (.v 5), (.v 6), (.v 7), (.v 8)])
def Px6 : T := (.ite (.bin .lss (.v 3) (.len (.v 0))) Uz2 Uw7)
def l0_u39 : T := .loop 1 [(.c (.l 16 [])), (.c (.i .i64 (0))), (.c (.i .i64 (0))), (.c (.s [])), (.c (.b false)), (.c (.s [])), (.c (.l 16 []))] Px6
def Uq3 : T := (.w (.chk (.scal (.c (.i .i64 (1))))) (.ret [(.agg [(.c (.i .i64 (1))), (.c (.s [])), (.c (.b false)), (.c (.s [])), (.v 2)])]))
def Uj2 : T := (.w (.chk (.scal (.c (.i .i64 (5))))) (.ret [(.agg [(.c (.i .i64 (5))), (.c (.s [])), (.c (.b false)), (.c (.s [])), (.c (.l 16 []))])]))
def Ty6 : T := (.ite (.bin .gtr (.len (.v 2)) (.c (.i .i64 (0)))) Uq3 Uj2)
def Qq7 : T := (.blk 0 l0_u39 Ty6)
theorem Dv7 : type_of% (And.intro (tev_eq @Wx6.eq_1) (And.intro (tev_eq @Wk0.eq_1) (And.intro (tev_eq @Vw9.eq_1) (And.intro (tev_eq @Vk6.eq_1) (And.intro (tev_eq @Uz2.eq_1) (And.intro (tev_eq @Uw7.eq_1) (And.intro (tev_eq @Px6.eq_1) (And.intro (tev_eq @Uq3.eq_1) (And.intro (tev_eq @Uj2.eq_1) (And.intro (tev_eq @Ty6.eq_1) (tev_eq @Qq7.eq_1))))))))))) := (And.intro (tev_eq @Wx6.eq_1) (And.intro (tev_eq @Wk0.eq_1) (And.intro (tev_eq @Vw9.eq_1) (And.intro (tev_eq @Vk6.eq_1) (And.intro (tev_eq @Uz2.eq_1) (And.intro (tev_eq @Uw7.eq_1) (And.intro (tev_eq @Px6.eq_1) (And.intro (tev_eq @Uq3.eq_1) (And.intro (tev_eq @Uj2.eq_1) (And.intro (tev_eq @Ty6.eq_1) (tev_eq @Qq7.eq_1)))))))))))
def Wx5 : T := (.w (.chk (.fit 16 (.sub 0 16 (.idx 16 (.proj 1 (.v 0)) (.v 3))))) (.yld 1 [(.app 16 (.v 2) (.lit 16 [(.sub 0 16 (.idx 16 (.proj 1 (.v 0)) (.v 3)))])), (.bin .add (.v 3) (.c (.i .i64 (1))))]))
def Wj9 : T := (.yld 1 [(.v 2), (.bin .add (.v 3) (.c (.i .i64 (1))))])
def Vw8 : T := (.ite (.bin .eql (.proj 0 (.idx 16 (.proj 1 (.v 0)) (.v 3))) (.v 1)) Wx5 Wj9)
def Xq3 : T := (.ite (.bin .lss (.v 3) (.len (.proj 1 (.v 0)))) Vw8 (.yld 0 [(.v 2)]))
def l0_u40 : T := .loop 1 [(.c (.l 16 [])), (.c (.i .i64 (0)))] Xq3
def Qq6 : T := (.w (.chk (.fit 2 (.v 0))) (.blk 0 l0_u40 (.ret [(.v 2)])))
theorem x_u40 : type_of% (And.intro (tev_eq @Wx5.eq_1) (And.intro (tev_eq @Wj9.eq_1) (And.intro (tev_eq @Vw8.eq_1) (And.intro (tev_eq @Xq3.eq_1) (tev_eq @Qq6.eq_1))))) := (And.intro (tev_eq @Wx5.eq_1) (And.intro (tev_eq @Wj9.eq_1) (And.intro (tev_eq @Vw8.eq_1) (And.intro (tev_eq @Xq3.eq_1) (tev_eq @Qq6.eq_1)))))
def Wx4 : T := (.yld 1 [(.proj 0 (.idx 1 (.v 2) (.v 4))), (.bin .add (.v 4) (.c (.i .i64 (1))))])
def Wj8 : T := (.yld 1 [(.v 3), (.bin .add (.v 4) (.c (.i .i64 (1))))])
def Vw7 : T := (.w (.chk (.ite (.ite (.v 5) (.un .not (.bin .eql (.v 3) (.c (.s [])))) (.c (.b false))) (.bin .gtr (.len (.v 6)) (.len (.v 7))) (.c .u))) (.ite (.ite (.v 5) (.ite (.bin .eql (.v 3) (.c (.s []))) (.c (.b true)) (.bin .gtr (.len (.v 6)) (.len (.v 7)))) (.c (.b false))) Wx4 Wj8))
def Vk5 : T := (.w (.chk (.ite (.ite (.v 5) (.un .not (.bin .eql (.v 3) (.c (.s [])))) (.c (.b false))) (.len (.v 6)) (.c .u))) (.w (.call (some (.ite (.v 5) (.un .not (.bin .eql (.v 3) (.c (.s [])))) (.c (.b false)))) false Eq0 [(.v 3)] 1) Vw7))
def Uz1 : T := (.w (.chk (.ite (.ite (.v 5) (.un .not (.bin .eql (.v 3) (.c (.s [])))) (.c (.b false))) (.proj 0 (.idx 1 (.v 2) (.v 4))) (.c .u))) (.w (.call (some (.ite (.v 5) (.un .not (.bin .eql (.v 3) (.c (.s [])))) (.c (.b false)))) false Eq0 [(.proj 0 (.idx 1 (.v 2) (.v 4)))] 1) Vk5))
def Uw6 : T := (.w (.call none true Dy5 [(.v 1), (.proj 0 (.idx 1 (.v 2) (.v 4)))] 1) Uz1)
def Xq2 : T := (.ite (.bin .lss (.v 4) (.len (.v 2))) Uw6 (.yld 0 [(.v 3)]))
def l0_u41 : T := .loop 1 [(.c (.s [])), (.c (.i .i64 (0)))] Xq2
def Uq2 : T := (.ret [(.v 3), (.bin .neq (.v 3) (.c (.s [])))])
def Uj1 : T := (.blk 0 l0_u41 Uq2)
def Qq5 : T := (.w (.chk (.fit 2 (.v 0))) (.w (.call none false Qz1 [(.sub 0 2 (.v 0))] 1) Uj1))
theorem Py8 : type_of% (And.intro (tev_eq @Wx4.eq_1) (And.intro (tev_eq @Wj8.eq_1) (And.intro (tev_eq @Vw7.eq_1) (And.intro (tev_eq @Vk5.eq_1) (And.intro (tev_eq @Uz1.eq_1) (And.intro (tev_eq @Uw6.eq_1) (And.intro (tev_eq @Xq2.eq_1) (And.intro (tev_eq @Uq2.eq_1) (And.intro (tev_eq @Uj1.eq_1) (tev_eq @Qq5.eq_1)))))))))) := (And.intro (tev_eq @Wx4.eq_1) (And.intro (tev_eq @Wj8.eq_1) (And.intro (tev_eq @Vw7.eq_1) (And.intro (tev_eq @Vk5.eq_1) (And.intro (tev_eq @Uz1.eq_1) (And.intro (tev_eq @Uw6.eq_1) (And.intro (tev_eq @Xq2.eq_1) (And.intro (tev_eq @Uq2.eq_1) (And.intro (tev_eq @Uj1.eq_1) (tev_eq @Qq5.eq_1))))))))))
def Wx3 : T := (.ret [(.c (.s [])), (.c (.b false))])
def Wj7 : T := (.yld 0 [(.bin .add (.c (.s [42, 46])) (.v 0))])
def Vw6 : T := (.yld 0 [(.c (.s [42, 46]))])
def Vk4 : T := (.ite (.bin .neq (.v 0) (.c (.s [46]))) Wj7 Vw6)
def Uz0 : T := (.ret [(.c (.s [])), (.c (.b false))])
def Uw5 : T := (.ret [(.v 3), (.c (.b true))])
def Uq1 : T := (.ite (.un .not (.v 4)) Uz0 Uw5)
def Uj0 : T := (.w (.call none true Eq1 [(.v 3)] 1) Uq1)
def Pw1 : T := (.blk 0 Vk4 Uj0)
def Tx1 : T := (.w (.chk (.ite (.ite (.un .not (.un .not (.v 2))) (.bin .gtr (.len (.v 1)) (.c (.i .i64 (0)))) (.c (.b false))) (.bin .eql (.proj 0 (.idx 1 (.v 1) (.c (.i .i64 (0))))) (.c (.s [42]))) (.c .u))) (.ite (.ite (.un .not (.v 2)) (.c (.b true)) (.ite (.bin .gtr (.len (.v 1)) (.c (.i .i64 (0)))) (.bin .eql (.proj 0 (.idx 1 (.v 1) (.c (.i .i64 (0))))) (.c (.s [42]))) (.c (.b false)))) Wx3 Pw1))
def Qq4 : T := (.w (.call none false Cq0 [(.v 0)] 2) Tx1)
theorem Kw8 : type_of% (And.intro (tev_eq @Wx3.eq_1) (And.intro (tev_eq @Wj7.eq_1) (And.intro (tev_eq @Vw6.eq_1) (And.intro (tev_eq @Vk4.eq_1) (And.intro (tev_eq @Uz0.eq_1) (And.intro (tev_eq @Uw5.eq_1) (And.intro (tev_eq @Uq1.eq_1) (And.intro (tev_eq @Uj0.eq_1) (And.intro (tev_eq @Pw1.eq_1) (And.intro (tev_eq @Tx1.eq_1) (tev_eq @Qq4.eq_1))))))))))) := (And.intro (tev_eq @Wx3.eq_1) (And.intro (tev_eq @Wj7.eq_1) (And.intro (tev_eq @Vw6.eq_1) (And.intro (tev_eq @Vk4.eq_1) (And.intro (tev_eq @Uz0.eq_1) (And.intro (tev_eq @Uw5.eq_1) (And.intro (tev_eq @Uq1.eq_1) (And.intro (tev_eq @Uj0.eq_1) (And.intro (tev_eq @Pw1.eq_1) (And.intro (tev_eq @Tx1.eq_1) (tev_eq @Qq4.eq_1)))))))))))
def Wx2 : T := (.ret [(.bin .geq (.v 2) (.c (.i .i64 (0))))])
def Qq3 : T := (.w (.call none true Sq3 [(.v 0), (.v 1)] 1) Wx2)
theorem x_u43 : type_of% (And.intro (tev_eq @Wx2.eq_1) (tev_eq @Qq3.eq_1)) := (And.intro (tev_eq @Wx2.eq_1) (tev_eq @Qq3.eq_1))
def Wx1 : T := (.yld 1 [(.bin .add (.v 3) (.c (.i .i64 (1))))])
def Wj6 : T := (.w (.chk (.ite (.ite (.un .not (.v 4)) (.un .not (.bin .gtr (.v 3) (.c (.i .i64 (0))))) (.c (.b false))) (.bin .neq (.proj 0 (.idx 1 (.v 2) (.v 3))) (.c (.s [42]))) (.c .u))) (.ite (.ite (.un .not (.v 4)) (.ite (.bin .gtr (.v 3) (.c (.i .i64 (0)))) (.c (.b true)) (.bin .neq (.proj 0 (.idx 1 (.v 2) (.v 3))) (.c (.s [42])))) (.c (.b false))) (.ret [(.c (.b false))]) Wx1))
def Vw5 : T := (.w (.call none true Sq2 [(.proj 0 (.idx 1 (.v 2) (.v 3)))] 1) Wj6)
def Px5 : T := (.ite (.bin .lss (.v 3) (.len (.v 2))) Vw5 (.yld 0 []))
def l0_u55 : T := .loop 1 [(.c (.i .i64 (0)))] Px5
def Vk3 : T := (.w (.chk (.len (.v 2))) (.blk 0 l0_u55 (.ret [(.c (.b true))])))
def Uy9 : T := (.w (.call none false Qy9 [(.ssl (.v 0) (.c (.i .i64 (0))) (.bin .sub (.slen (.v 0)) (.c (.i .i64 (1))))), (.c (.s [46]))] 1) Vk3)
def Uw4 : T := (.ite (.ite (.bin .geq (.slen (.v 0)) (.c (.i .i64 (255)))) (.c (.b true)) (.un .not (.v 1))) (.ret [(.c (.b false))]) Uy9)
def Uq0 : T := (.w (.call (some (.un .not (.bin .geq (.slen (.v 0)) (.c (.i .i64 (255)))))) true Qz0 [(.v 0), (.c (.s [46]))] 1) Uw4)
def Qq2 : T := (.ite (.bin .eql (.v 0) (.c (.s [46]))) (.ret [(.c (.b true))]) Uq0)
theorem Fx6 : type_of% (And.intro (tev_eq @Wx1.eq_1) (And.intro (tev_eq @Wj6.eq_1) (And.intro (tev_eq @Vw5.eq_1) (And.intro (tev_eq @Px5.eq_1) (And.intro (tev_eq @Vk3.eq_1) (And.intro (tev_eq @Uy9.eq_1) (And.intro (tev_eq @Uw4.eq_1) (And.intro (tev_eq @Uq0.eq_1) (tev_eq @Qq2.eq_1))))))))) := (And.intro (tev_eq @Wx1.eq_1) (And.intro (tev_eq @Wj6.eq_1) (And.intro (tev_eq @Vw5.eq_1) (And.intro (tev_eq @Px5.eq_1) (And.intro (tev_eq @Vk3.eq_1) (And.intro (tev_eq @Uy9.eq_1) (And.intro (tev_eq @Uw4.eq_1) (And.intro (tev_eq @Uq0.eq_1) (tev_eq @Qq2.eq_1)))))))))
def Wx0 : T := (.ret [(.ite (.ite (.bin .eql (.v 1) (.c (.s [46]))) (.c (.b true)) (.bin .eql (.v 0) (.v 1))) (.c (.b true)) (.v 2))])
def Qq1 : T := (.w (.chk (.ite (.un .not (.ite (.bin .eql (.v 1) (.c (.s [46]))) (.c (.b true)) (.bin .eql (.v 0) (.v 1)))) (.bin .add (.c (.s [46])) (.v 1)) (.c .u))) (.w (.call (some (.un .not (.ite (.bin .eql (.v 1) (.c (.s [46]))) (.c (.b true)) (.bin .eql (.v 0) (.v 1))))) true Qz0 [(.v 0), (.bin .add (.c (.s [46])) (.v 1))] 1) Wx0))
theorem x_u65 : type_of% (And.intro (tev_eq @Wx0.eq_1) (tev_eq @Qq1.eq_1)) := (And.intro (tev_eq @Wx0.eq_1) (tev_eq @Qq1.eq_1))
def Qq0 : T := (.w (.call none false Cq0 [(.v 0)] 2) (.ret [(.v 2)]))
theorem x_u66 : type_of% (tev_eq @Qq0.eq_1) := (tev_eq @Qq0.eq_1)
def Ww9 : T := (.w (.chk (.fit 16 (.sub 0 16 (.idx 16 (.v 0) (.v 4))))) (.yld 1 [(.app 16 (.v 3) (.lit 16 [(.sub 0 16 (.idx 16 (.v 0) (.v 4)))])), (.bin .add (.v 4) (.c (.i .i64 (1))))]))
def Wj5 : T := (.yld 1 [(.v 3), (.bin .add (.v 4) (.c (.i .i64 (1))))])
def Vw4 : T := (.ite (.ite (.bin .eql (.proj 0 (.idx 16 (.v 0) (.v 4))) (.v 1)) (.bin .eql (.proj 1 (.idx 16 (.v 0) (.v 4))) (.v 2)) (.c (.b false))) Ww9 Wj5)
def Xq1 : T := (.ite (.bin .lss (.v 4) (.len (.v 0))) Vw4 (.yld 0 [(.v 3)]))
def l0_u67 : T := .loop 1 [(.c (.l 16 [])), (.c (.i .i64 (0)))] Xq1
def Qk9 : T := (.blk 0 l0_u67 (.ret [(.v 3)]))
theorem Rv9 : type_of% (And.intro (tev_eq @Ww9.eq_1) (And.intro (tev_eq @Wj5.eq_1) (And.intro (tev_eq @Vw4.eq_1) (And.intro (tev_eq @Xq1.eq_1) (tev_eq @Qk9.eq_1))))) := (And.intro (tev_eq @Ww9.eq_1) (And.intro (tev_eq @Wj5.eq_1) (And.intro (tev_eq @Vw4.eq_1) (And.intro (tev_eq @Xq1.eq_1) (tev_eq @Qk9.eq_1)))))
def Ww8 : T := (.ret [(.ite (.ite (.ite (.ite (.v 1) (.v 2) (.c (.b false))) (.bin .geq (.proj 2 (.v 0)) (.c (.i .i64 (0)))) (.c (.b false))) (.bin .leq (.proj 2 (.v 0)) (.c (.i .i64 (2147483647)))) (.c (.b false))) (.v 3) (.c (.b false)))])
def Wj4 : T := (.w (.call (some (.ite (.ite (.ite (.v 1) (.v 2) (.c (.b false))) (.bin .geq (.proj 2 (.v 0)) (.c (.i .i64 (0)))) (.c (.b false))) (.bin .leq (.proj 2 (.v 0)) (.c (.i .i64 (2147483647)))) (.c (.b false)))) true Fv6 [(.proj 1 (.v 0)), (.agg [(.proj 3 (.v 0)), (.proj 4 (.v 0)), (.proj 5 (.v 0)), (.proj 6 (.v 0)), (.proj 7 (.v 0)), (.proj 8 (.v 0)), (.proj 9 (.v 0)), (.proj 10 (.v 0)), (.proj 11 (.v 0)), (.proj 12 (.v 0)), (.proj 13 (.v 0)), (.proj 14 (.v 0)), (.proj 15 (.v 0))])] 1) Ww8)
def Vw3 : T := (.w (.chk (.ite (.v 1) (.c .u) (.c .u))) (.w (.call (some (.v 1)) true Cw4 [(.proj 1 (.v 0))] 1) Wj4))
def Qk8 : T := (.w (.chk (.fit 16 (.v 0))) (.w (.call none true Eq1 [(.proj 0 (.v 0))] 1) Vw3))
theorem x_u68 : type_of% (And.intro (tev_eq @Ww8.eq_1) (And.intro (tev_eq @Wj4.eq_1) (And.intro (tev_eq @Vw3.eq_1) (tev_eq @Qk8.eq_1)))) := (And.intro (tev_eq @Ww8.eq_1) (And.intro (tev_eq @Wj4.eq_1) (And.intro (tev_eq @Vw3.eq_1) (tev_eq @Qk8.eq_1))))
def Ww7 : T := (.yld 1 [(.bin .add (.v 2) (.c (.i .i64 (1))))])
def Wj3 : T := (.ite (.eqs true true [.s, (.i .i64), (.i .i64), .b, (.i .u64), (.i .u64), .s, .s, .s, (.i .i64), (.i .i64), (.i .i64), (.i .i64), (.i .i64), (.i .i64), (.i .u64)] (.sub 0 16 (.idx 16 (.v 0) (.v 2))) (.sub 0 16 (.idx 16 (.v 1) (.v 2)))) (.ret [(.c (.b false))]) Ww7)
def Xq0 : T := (.ite (.bin .lss (.v 2) (.len (.v 0))) Wj3 (.yld 0 []))
def l0_u69 : T := .loop 1 [(.c (.i .i64 (0)))] Xq0
def Vw2 : T := (.blk 0 l0_u69 (.ret [(.c (.b true))]))
def Qk7 : T := (.ite (.bin .neq (.len (.v 0)) (.len (.v 1))) (.ret [(.c (.b false))]) Vw2)
theorem Py7 : type_of% (And.intro (tev_eq @Ww7.eq_1) (And.intro (tev_eq @Wj3.eq_1) (And.intro (tev_eq @Xq0.eq_1) (And.intro (tev_eq @Vw2.eq_1) (tev_eq @Qk7.eq_1))))) := (And.intro (tev_eq @Ww7.eq_1) (And.intro (tev_eq @Wj3.eq_1) (And.intro (tev_eq @Xq0.eq_1) (And.intro (tev_eq @Vw2.eq_1) (tev_eq @Qk7.eq_1)))))
def Ww6 : T := (.yld 3 [(.bin .add (.v 3) (.c (.i .i64 (1))))])
def Wj2 : T := (.ite (.ite (.bin .lss (.v 3) (.len (.v 1))) (.bin .lss (.v 4) (.c (.i .i64 (0)))) (.c (.b false))) Ww6 (.yld 2 [(.v 3)]))
def Xk0 : T := (.w (.chk (.ite (.bin .lss (.v 3) (.len (.v 1))) (.sub 0 16 (.idx 16 (.v 1) (.v 3))) (.c .u))) (.w (.chk (.ite (.bin .lss (.v 3) (.len (.v 1))) (.sub 0 16 (.idx 16 (.v 0) (.v 2))) (.c .u))) (.w (.call (some (.bin .lss (.v 3) (.len (.v 1)))) true Fv5 [(.sub 0 16 (.idx 16 (.v 1) (.v 3))), (.sub 0 16 (.idx 16 (.v 0) (.v 2)))] 1) Wj2)))
def Sy6 : T := .loop 3 [(.c (.i .i64 (0)))] Xk0
def Vw1 : T := (.w (.chk (.idx 16 (.v 1) (.v 3))) (.w (.chk (.fit 16 (.sub 0 16 (.idx 16 (.v 0) (.v 2))))) (.yld 2 [(.set 16 (.v 1) (.v 3) 0 [(.proj 0 (.sub 0 16 (.idx 16 (.v 0) (.v 2)))), (.proj 1 (.sub 0 16 (.idx 16 (.v 0) (.v 2)))), (.proj 2 (.sub 0 16 (.idx 16 (.v 0) (.v 2)))), (.proj 3 (.sub 0 16 (.idx 16 (.v 0) (.v 2)))), (.proj 4 (.sub 0 16 (.idx 16 (.v 0) (.v 2)))), (.proj 5 (.sub 0 16 (.idx 16 (.v 0) (.v 2)))), (.proj 6 (.sub 0 16 (.idx 16 (.v 0) (.v 2)))), (.proj 7 (.sub 0 16 (.idx 16 (.v 0) (.v 2)))), (.proj 8 (.sub 0 16 (.idx 16 (.v 0) (.v 2)))), (.proj 9 (.sub 0 16 (.idx 16 (.v 0) (.v 2)))), (.proj 10 (.sub 0 16 (.idx 16 (.v 0) (.v 2)))), (.proj 11 (.sub 0 16 (.idx 16 (.v 0) (.v 2)))), (.proj 12 (.sub 0 16 (.idx 16 (.v 0) (.v 2)))), (.proj 13 (.sub 0 16 (.idx 16 (.v 0) (.v 2)))), (.proj 14 (.sub 0 16 (.idx 16 (.v 0) (.v 2)))), (.proj 15 (.sub 0 16 (.idx 16 (.v 0) (.v 2))))])])))
def Vk2 : T := (.ite (.bin .lss (.proj 2 (.idx 16 (.v 0) (.v 2))) (.proj 2 (.idx 16 (.v 1) (.v 3)))) Vw1 (.yld 2 [(.v 1)]))
def Uy8 : T := (.yld 1 [(.v 5), (.bin .add (.v 2) (.c (.i .i64 (1))))])
def Uw3 : T := (.blk 2 Vk2 Uy8)
def Uk9 : T := (.w (.chk (.fit 16 (.sub 0 16 (.idx 16 (.v 0) (.v 2))))) (.yld 1 [(.app 16 (.app 16 (.app 16 (.c (.l 16 [])) (.lsl 16 (.v 1) (.c (.i .i64 (0))) (.v 3))) (.lit 16 [(.sub 0 16 (.idx 16 (.v 0) (.v 2)))])) (.lsl 16 (.v 1) (.v 3) (.len (.v 1)))), (.bin .add (.v 2) (.c (.i .i64 (1))))]))
def Tz9 : T := (.ite (.ite (.bin .lss (.v 3) (.len (.v 1))) (.bin .eql (.v 4) (.c (.i .i64 (0)))) (.c (.b false))) Uw3 Uk9)
def Ty5 : T := (.w (.chk (.ite (.bin .lss (.v 3) (.len (.v 1))) (.sub 0 16 (.idx 16 (.v 1) (.v 3))) (.c .u))) (.w (.chk (.ite (.bin .lss (.v 3) (.len (.v 1))) (.sub 0 16 (.idx 16 (.v 0) (.v 2))) (.c .u))) (.w (.call (some (.bin .lss (.v 3) (.len (.v 1)))) true Fv5 [(.sub 0 16 (.idx 16 (.v 1) (.v 3))), (.sub 0 16 (.idx 16 (.v 0) (.v 2)))] 1) Tz9)))
def Tx0 : T := (.blk 2 Sy6 Ty5)
def Xk9 : T := (.ite (.bin .lss (.v 2) (.len (.v 0))) Tx0 (.yld 0 [(.v 1)]))
def l0_u70 : T := .loop 1 [(.c (.l 16 [])), (.c (.i .i64 (0)))] Xk9
def Qk6 : T := (.blk 0 l0_u70 (.ret [(.v 1)]))
theorem Fx5 : type_of% (And.intro (tev_eq @Ww6.eq_1) (And.intro (tev_eq @Wj2.eq_1) (And.intro (tev_eq @Xk0.eq_1) (And.intro (tev_eq @Vw1.eq_1) (And.intro (tev_eq @Vk2.eq_1) (And.intro (tev_eq @Uy8.eq_1) (And.intro (tev_eq @Uw3.eq_1) (And.intro (tev_eq @Uk9.eq_1) (And.intro (tev_eq @Tz9.eq_1) (And.intro (tev_eq @Ty5.eq_1) (And.intro (tev_eq @Tx0.eq_1) (And.intro (tev_eq @Xk9.eq_1) (tev_eq @Qk6.eq_1))))))))))))) := (And.intro (tev_eq @Ww6.eq_1) (And.intro (tev_eq @Wj2.eq_1) (And.intro (tev_eq @Xk0.eq_1) (And.intro (tev_eq @Vw1.eq_1) (And.intro (tev_eq @Vk2.eq_1) (And.intro (tev_eq @Uy8.eq_1) (And.intro (tev_eq @Uw3.eq_1) (And.intro (tev_eq @Uk9.eq_1) (And.intro (tev_eq @Tz9.eq_1) (And.intro (tev_eq @Ty5.eq_1) (And.intro (tev_eq @Tx0.eq_1) (And.intro (tev_eq @Xk9.eq_1) (tev_eq @Qk6.eq_1)))))))))))))
def Ww5 : T := (.ret [(.bin .gtr (.len (.v 3)) (.c (.i .i64 (0))))])
def Qk5 : T := (.w (.call none false Jy0 [(.v 0), (.v 1), (.v 2)] 1) Ww5)
theorem x_u71 : type_of% (And.intro (tev_eq @Ww5.eq_1) (tev_eq @Qk5.eq_1)) := (And.intro (tev_eq @Ww5.eq_1) (tev_eq @Qk5.eq_1))
def Ww4 : T := (.yld 1 [(.bin .add (.v 2) (.c (.i .i64 (1))))])
def Wj1 : T := (.yld 1 [(.bin .add (.v 2) (.c (.i .i64 (1))))])
def Vw0 : T := (.ite (.ite (.ite (.ite (.bin .eql (.proj 1 (.v 1)) (.c (.i .i64 (5)))) (.bin .neq (.proj 1 (.sub 0 16 (.idx 16 (.proj 1 (.v 0)) (.v 2)))) (.c (.i .i64 (5)))) (.c (.b false))) (.bin .neq (.proj 1 (.sub 0 16 (.idx 16 (.proj 1 (.v 0)) (.v 2)))) (.c (.i .i64 (46)))) (.c (.b false))) (.bin .neq (.proj 1 (.sub 0 16 (.idx 16 (.proj 1 (.v 0)) (.v 2)))) (.c (.i .i64 (47)))) (.c (.b false))) (.ret [(.c (.b false))]) Wj1)
def Vk1 : T := (.ite (.ite (.ite (.bin .eql (.proj 1 (.sub 0 16 (.idx 16 (.proj 1 (.v 0)) (.v 2)))) (.proj 1 (.v 1))) (.v 3) (.c (.b false))) (.eqs true true [.s, (.i .i64), (.i .i64), .b, (.i .u64), (.i .u64), .s, .s, .s, (.i .i64), (.i .i64), (.i .i64), (.i .i64), (.i .i64), (.i .i64), (.i .u64)] (.sub 0 16 (.sub 0 16 (.idx 16 (.proj 1 (.v 0)) (.v 2)))) (.sub 0 16 (.v 1))) (.c (.b false))) (.ret [(.c (.b false))]) Vw0)
def Uy7 : T := (.w (.call (some (.bin .eql (.proj 1 (.sub 0 16 (.idx 16 (.proj 1 (.v 0)) (.v 2)))) (.proj 1 (.v 1)))) true Kj3 [(.proj 1 (.v 1))] 1) Vk1)
def Uw2 : T := (.ite (.ite (.ite (.bin .eql (.proj 1 (.sub 0 16 (.idx 16 (.proj 1 (.v 0)) (.v 2)))) (.proj 1 (.v 1))) (.bin .neq (.proj 1 (.v 1)) (.c (.i .i64 (46)))) (.c (.b false))) (.bin .neq (.proj 2 (.sub 0 16 (.idx 16 (.proj 1 (.v 0)) (.v 2)))) (.proj 2 (.v 1))) (.c (.b false))) (.ret [(.c (.b false))]) Uy7)
def Uk8 : T := (.w (.chk (.fit 16 (.sub 0 16 (.idx 16 (.proj 1 (.v 0)) (.v 2))))) (.ite (.bin .neq (.proj 0 (.sub 0 16 (.idx 16 (.proj 1 (.v 0)) (.v 2)))) (.proj 0 (.v 1))) Ww4 Uw2))
def Px4 : T := (.ite (.bin .lss (.v 2) (.len (.proj 1 (.v 0)))) Uk8 (.yld 0 []))
def l0_u72 : T := .loop 1 [(.c (.i .i64 (0)))] Px4
def Qk4 : T := (.w (.chk (.fit 2 (.v 0))) (.w (.chk (.fit 16 (.v 1))) (.blk 0 l0_u72 (.ret [(.c (.b true))]))))
theorem Rv8 : type_of% (And.intro (tev_eq @Ww4.eq_1) (And.intro (tev_eq @Wj1.eq_1) (And.intro (tev_eq @Vw0.eq_1) (And.intro (tev_eq @Vk1.eq_1) (And.intro (tev_eq @Uy7.eq_1) (And.intro (tev_eq @Uw2.eq_1) (And.intro (tev_eq @Uk8.eq_1) (And.intro (tev_eq @Px4.eq_1) (tev_eq @Qk4.eq_1))))))))) := (And.intro (tev_eq @Ww4.eq_1) (And.intro (tev_eq @Wj1.eq_1) (And.intro (tev_eq @Vw0.eq_1) (And.intro (tev_eq @Vk1.eq_1) (And.intro (tev_eq @Uy7.eq_1) (And.intro (tev_eq @Uw2.eq_1) (And.intro (tev_eq @Uk8.eq_1) (And.intro (tev_eq @Px4.eq_1) (tev_eq @Qk4.eq_1)))))))))
def Ww3 : T := (.yld 1 [(.bin .add (.v 3) (.c (.i .i64 (1))))])
def Wj0 : T := (.ite (.ite (.ite (.ite (.ite (.bin .eql (.proj 1 (.sub 0 16 (.idx 16 (.proj 1 (.v 0)) (.v 3)))) (.c (.i .i64 (2)))) (.v 5) (.c (.b false))) (.v 6) (.c (.b false))) (.bin .neq (.proj 1 (.v 1)) (.c (.i .i64 (1)))) (.c (.b false))) (.bin .neq (.proj 1 (.v 1)) (.c (.i .i64 (28)))) (.c (.b false))) (.ret [(.c (.b false))]) Ww3)
def Vv9 : T := (.w (.chk (.ite (.ite (.bin .eql (.proj 1 (.sub 0 16 (.idx 16 (.proj 1 (.v 0)) (.v 3)))) (.c (.i .i64 (2)))) (.v 5) (.c (.b false))) (.c .u) (.c .u))) (.w (.call (some (.ite (.bin .eql (.proj 1 (.sub 0 16 (.idx 16 (.proj 1 (.v 0)) (.v 3)))) (.c (.i .i64 (2)))) (.v 5) (.c (.b false)))) true Gj3 [(.proj 0 (.v 1)), (.proj 0 (.sub 0 16 (.idx 16 (.proj 1 (.v 0)) (.v 3))))] 1) Wj0))
def Vk0 : T := (.w (.call (some (.bin .eql (.proj 1 (.sub 0 16 (.idx 16 (.proj 1 (.v 0)) (.v 3)))) (.c (.i .i64 (2))))) true Gj3 [(.proj 0 (.sub 0 16 (.idx 16 (.proj 1 (.v 0)) (.v 3)))), (.proj 0 (.v 0))] 1) Vv9)
def Uy6 : T := (.ite (.ite (.bin .eql (.proj 1 (.sub 0 16 (.idx 16 (.proj 1 (.v 0)) (.v 3)))) (.c (.i .i64 (39)))) (.v 4) (.c (.b false))) (.ret [(.c (.b false))]) Vk0)
def Uw1 : T := (.w (.chk (.fit 16 (.sub 0 16 (.idx 16 (.proj 1 (.v 0)) (.v 3))))) (.w (.call (some (.bin .eql (.proj 1 (.sub 0 16 (.idx 16 (.proj 1 (.v 0)) (.v 3)))) (.c (.i .i64 (39))))) true Gj3 [(.proj 0 (.v 1)), (.proj 0 (.sub 0 16 (.idx 16 (.proj 1 (.v 0)) (.v 3))))] 1) Uy6))
def Px3 : T := (.ite (.bin .lss (.v 3) (.len (.proj 1 (.v 0)))) Uw1 (.yld 0 []))
def l0_u73 : T := .loop 1 [(.c (.i .i64 (0)))] Px3
def Uk7 : T := (.ite (.bin .eql (.proj 1 (.v 1)) (.c (.i .i64 (2)))) (.ret [(.c (.b true))]) (.ret [(.c (.b false))]))
def Tz8 : T := (.ite (.bin .eql (.proj 1 (.v 1)) (.c (.i .i64 (43)))) (.ret [(.c (.b true))]) (.ret [(.c (.b false))]))
def Ty4 : T := (.ite (.bin .eql (.proj 1 (.v 1)) (.c (.i .i64 (47)))) (.ret [(.c (.b true))]) (.ret [(.c (.b false))]))
def Tw9 : T := (.ite (.bin .eql (.proj 1 (.v 1)) (.c (.i .i64 (46)))) (.ret [(.c (.b true))]) (.ret [(.c (.b false))]))
def Nx2 : T := (.ite (.bin .eql (.proj 1 (.v 1)) (.c (.i .i64 (1)))) (.ret [(.c (.b true))]) (.ret [(.c (.b false))]))
def Nw2 : T := (.ite (.bin .eql (.proj 1 (.v 1)) (.c (.i .i64 (28)))) (.ret [(.c (.b true))]) (.ret [(.c (.b false))]))
def Nv6 : T := (.ite (.bin .eql (.proj 1 (.v 1)) (.c (.i .i64 (1)))) Nx2 Nw2)
def Nv0 : T := (.ite (.bin .eql (.proj 1 (.v 1)) (.c (.i .i64 (46)))) Tw9 Nv6)
def Nq6 : T := (.ite (.bin .eql (.proj 1 (.v 1)) (.c (.i .i64 (47)))) Ty4 Nv0)
def Nq1 : T := (.ite (.bin .eql (.proj 1 (.v 1)) (.c (.i .i64 (43)))) Tz8 Nq6)
def Nk6 : T := (.ite (.bin .eql (.proj 1 (.v 1)) (.c (.i .i64 (2)))) Uk7 Nq1)
def Nk2 : T := (.ret [(.bin .neq (.proj 1 (.v 1)) (.c (.i .i64 (43))))])
def Nj9 : T := (.ite (.ite (.v 3) (.v 4) (.c (.b false))) Nk6 Nk2)
def Nj6 : T := (.w (.chk (.ite (.v 3) (.c .u) (.c .u))) (.w (.call (some (.v 3)) true Qz7 [(.proj 1 (.v 0)), (.proj 0 (.v 1)), (.c (.i .i64 (2)))] 1) Nj9))
def Mx7 : T := (.w (.call none true Gj3 [(.proj 0 (.v 1)), (.proj 0 (.v 0))] 1) Nj6)
def Hv6 : T := (.blk 0 l0_u73 Mx7)
def Mx3 : T := (.w (.chk (.ite (.ite (.ite (.bin .gtr (.len (.v 2)) (.c (.i .i64 (0)))) (.bin .eql (.proj 0 (.idx 1 (.v 2) (.c (.i .i64 (0))))) (.c (.s [42]))) (.c (.b false))) (.un .not (.bin .eql (.proj 1 (.v 1)) (.c (.i .i64 (2))))) (.c (.b false))) (.bin .eql (.proj 1 (.v 1)) (.c (.i .i64 (39)))) (.c .u))) (.ite (.ite (.ite (.bin .gtr (.len (.v 2)) (.c (.i .i64 (0)))) (.bin .eql (.proj 0 (.idx 1 (.v 2) (.c (.i .i64 (0))))) (.c (.s [42]))) (.c (.b false))) (.ite (.bin .eql (.proj 1 (.v 1)) (.c (.i .i64 (2)))) (.c (.b true)) (.bin .eql (.proj 1 (.v 1)) (.c (.i .i64 (39))))) (.c (.b false))) (.ret [(.c (.b false))]) Hv6))
def Qk3 : T := (.w (.chk (.fit 2 (.v 0))) (.w (.chk (.fit 16 (.v 1))) (.w (.call none false Eq0 [(.proj 0 (.v 1))] 1) Mx3)))
theorem Fx4 : type_of% (And.intro (tev_eq @Ww3.eq_1) (And.intro (tev_eq @Wj0.eq_1) (And.intro (tev_eq @Vv9.eq_1) (And.intro (tev_eq @Vk0.eq_1) (And.intro (tev_eq @Uy6.eq_1) (And.intro (tev_eq @Uw1.eq_1) (And.intro (tev_eq @Px3.eq_1) (And.intro (tev_eq @Uk7.eq_1) (And.intro (tev_eq @Tz8.eq_1) (And.intro (tev_eq @Ty4.eq_1) (And.intro (tev_eq @Tw9.eq_1) (And.intro (tev_eq @Nx2.eq_1) (And.intro (tev_eq @Nw2.eq_1) (And.intro (tev_eq @Nv6.eq_1) (And.intro (tev_eq @Nv0.eq_1) (And.intro (tev_eq @Nq6.eq_1) (And.intro (tev_eq @Nq1.eq_1) (And.intro (tev_eq @Nk6.eq_1) (And.intro (tev_eq @Nk2.eq_1) (And.intro (tev_eq @Nj9.eq_1) (And.intro (tev_eq @Nj6.eq_1) (And.intro (tev_eq @Mx7.eq_1) (And.intro (tev_eq @Hv6.eq_1) (And.intro (tev_eq @Mx3.eq_1) (tev_eq @Qk3.eq_1))))))))))))))))))))))))) := (And.intro (tev_eq @Ww3.eq_1) (And.intro (tev_eq @Wj0.eq_1) (And.intro (tev_eq @Vv9.eq_1) (And.intro (tev_eq @Vk0.eq_1) (And.intro (tev_eq @Uy6.eq_1) (And.intro (tev_eq @Uw1.eq_1) (And.intro (tev_eq @Px3.eq_1) (And.intro (tev_eq @Uk7.eq_1) (And.intro (tev_eq @Tz8.eq_1) (And.intro (tev_eq @Ty4.eq_1) (And.intro (tev_eq @Tw9.eq_1) (And.intro (tev_eq @Nx2.eq_1) (And.intro (tev_eq @Nw2.eq_1) (And.intro (tev_eq @Nv6.eq_1) (And.intro (tev_eq @Nv0.eq_1) (And.intro (tev_eq @Nq6.eq_1) (And.intro (tev_eq @Nq1.eq_1) (And.intro (tev_eq @Nk6.eq_1) (And.intro (tev_eq @Nk2.eq_1) (And.intro (tev_eq @Nj9.eq_1) (And.intro (tev_eq @Nj6.eq_1) (And.intro (tev_eq @Mx7.eq_1) (And.intro (tev_eq @Hv6.eq_1) (And.intro (tev_eq @Mx3.eq_1) (tev_eq @Qk3.eq_1)))))))))))))))))))))))))
def Ww2 : T := (.w (.chk (.fit 16 (.sub 0 16 (.sub 0 16 (.idx 16 (.v 0) (.v 4)))))) (.yld 1 [(.app 16 (.v 3) (.lit 16 [(.sub 0 16 (.sub 0 16 (.idx 16 (.v 0) (.v 4))))])), (.bin .add (.v 4) (.c (.i .i64 (1))))]))
def Vz9 : T := (.yld 1 [(.v 3), (.bin .add (.v 4) (.c (.i .i64 (1))))])
def Vv8 : T := (.w (.chk (.fit 16 (.sub 0 16 (.idx 16 (.v 0) (.v 4))))) (.ite (.ite (.bin .eql (.proj 1 (.sub 0 16 (.idx 16 (.v 0) (.v 4)))) (.v 2)) (.bin .eql (.proj 0 (.sub 0 16 (.idx 16 (.v 0) (.v 4)))) (.v 1)) (.c (.b false))) Ww2 Vz9))
def Xk8 : T := (.ite (.bin .lss (.v 4) (.len (.v 0))) Vv8 (.yld 0 [(.v 3)]))
def l0_u74 : T := .loop 1 [(.c (.l 16 [])), (.c (.i .i64 (0)))] Xk8
def Qk2 : T := (.w (.chk (.len (.v 0))) (.blk 0 l0_u74 (.ret [(.v 3)])))
theorem Rv7 : type_of% (And.intro (tev_eq @Ww2.eq_1) (And.intro (tev_eq @Vz9.eq_1) (And.intro (tev_eq @Vv8.eq_1) (And.intro (tev_eq @Xk8.eq_1) (tev_eq @Qk2.eq_1))))) := (And.intro (tev_eq @Ww2.eq_1) (And.intro (tev_eq @Vz9.eq_1) (And.intro (tev_eq @Vv8.eq_1) (And.intro (tev_eq @Xk8.eq_1) (tev_eq @Qk2.eq_1)))))
def Ww1 : T := (.ret [(.c (.s [])), (.c (.b false))])
def Vz8 : T := (.ret [(.c (.s [46])), (.c (.b true))])
def Vv7 : T := (.ret [(.ssl (.v 0) (.bin .add (.v 2) (.c (.i .i64 (1)))) (.slen (.v 0))), (.c (.b true))])
def Vj9 : T := (.ite (.bin .eql (.ssl (.v 0) (.bin .add (.v 2) (.c (.i .i64 (1)))) (.slen (.v 0))) (.c (.s []))) Vz8 Vv7)
def Uy5 : T := (.w (.call none true Kj2 [(.v 0), (.c (.i .u8 (46)))] 1) Vj9)
def Uw0 : T := (.ite (.ite (.bin .eql (.v 0) (.c (.s [46]))) (.c (.b true)) (.un .not (.v 1))) Ww1 Uy5)
def Qk1 : T := (.w (.call (some (.un .not (.bin .eql (.v 0) (.c (.s [46]))))) true Cq1 [(.v 0)] 1) Uw0)
theorem x_u75 : type_of% (And.intro (tev_eq @Ww1.eq_1) (And.intro (tev_eq @Vz8.eq_1) (And.intro (tev_eq @Vv7.eq_1) (And.intro (tev_eq @Vj9.eq_1) (And.intro (tev_eq @Uy5.eq_1) (And.intro (tev_eq @Uw0.eq_1) (tev_eq @Qk1.eq_1))))))) := (And.intro (tev_eq @Ww1.eq_1) (And.intro (tev_eq @Vz8.eq_1) (And.intro (tev_eq @Vv7.eq_1) (And.intro (tev_eq @Vj9.eq_1) (And.intro (tev_eq @Uy5.eq_1) (And.intro (tev_eq @Uw0.eq_1) (tev_eq @Qk1.eq_1)))))))
def Ww0 : T := (.ret [(.c (.s [])), (.c (.i .i64 (2)))])
def Vz7 : T := (.ret [(.c (.s [])), (.c (.i .i64 (1)))])
def Vv6 : T := (.w (.call none true Kj1 [(.v 0), (.v 1)] 1) (.yld 0 [(.v 7)]))
def Pw5 : T := (.ite (.bin .neq (.v 1) (.c (.s [46]))) Vv6 (.yld 0 [(.v 0)]))
def Uy4 : T := (.yld 0 [(.bin .add (.v 7) (.v 2))])
def Uv9 : T := (.ite (.bin .eql (.v 2) (.c (.s [46]))) (.yld 0 [(.v 7)]) Uy4)
def Uk6 : T := (.ret [(.c (.s [])), (.c (.i .i64 (9)))])
def Tz7 : T := (.ret [(.v 8), (.c (.i .i64 (0)))])
def Ty3 : T := (.ite (.bin .geq (.slen (.v 8)) (.c (.i .i64 (255)))) Uk6 Tz7)
def Tw8 : T := (.w (.chk (.bin .add (.v 7) (.v 2))) (.blk 0 Uv9 Ty3))
def Nx1 : T := (.blk 0 Pw5 Tw8)
def Nw1 : T := (.ite (.ite (.bin .eql (.v 0) (.v 1)) (.c (.b true)) (.un .not (.v 6))) Vz7 Nx1)
def Nv5 : T := (.w (.call (some (.un .not (.bin .eql (.v 0) (.v 1)))) true Qz8 [(.v 0), (.v 1)] 1) Nw1)
def Nq9 : T := (.ite (.ite (.ite (.ite (.un .not (.v 3)) (.c (.b true)) (.un .not (.v 4))) (.c (.b true)) (.un .not (.v 5))) (.c (.b true)) (.bin .eql (.sidx (.v 2) (.c (.i .i64 (0)))) (.c (.i .u8 (42))))) Ww0 Nv5)
def Nq5 : T := (.w (.chk (.ite (.un .not (.ite (.un .not (.v 3)) (.c (.b true)) (.un .not (.v 4)))) (.c .u) (.c .u))) (.w (.call (some (.un .not (.ite (.un .not (.v 3)) (.c (.b true)) (.un .not (.v 4))))) true Cq1 [(.v 2)] 1) Nq9))
def Nq0 : T := (.w (.chk (.ite (.un .not (.un .not (.v 3))) (.c .u) (.c .u))) (.w (.call (some (.un .not (.un .not (.v 3)))) true Cq1 [(.v 1)] 1) Nq5))
def Qk0 : T := (.w (.call none true Cq1 [(.v 0)] 1) Nq0)
theorem Dv6 : type_of% (And.intro (tev_eq @Ww0.eq_1) (And.intro (tev_eq @Vz7.eq_1) (And.intro (tev_eq @Vv6.eq_1) (And.intro (tev_eq @Pw5.eq_1) (And.intro (tev_eq @Uy4.eq_1) (And.intro (tev_eq @Uv9.eq_1) (And.intro (tev_eq @Uk6.eq_1) (And.intro (tev_eq @Tz7.eq_1) (And.intro (tev_eq @Ty3.eq_1) (And.intro (tev_eq @Tw8.eq_1) (And.intro (tev_eq @Nx1.eq_1) (And.intro (tev_eq @Nw1.eq_1) (And.intro (tev_eq @Nv5.eq_1) (And.intro (tev_eq @Nq9.eq_1) (And.intro (tev_eq @Nq5.eq_1) (And.intro (tev_eq @Nq0.eq_1) (tev_eq @Qk0.eq_1))))))))))))))))) := (And.intro (tev_eq @Ww0.eq_1) (And.intro (tev_eq @Vz7.eq_1) (And.intro (tev_eq @Vv6.eq_1) (And.intro (tev_eq @Pw5.eq_1) (And.intro (tev_eq @Uy4.eq_1) (And.intro (tev_eq @Uv9.eq_1) (And.intro (tev_eq @Uk6.eq_1) (And.intro (tev_eq @Tz7.eq_1) (And.intro (tev_eq @Ty3.eq_1) (And.intro (tev_eq @Tw8.eq_1) (And.intro (tev_eq @Nx1.eq_1) (And.intro (tev_eq @Nw1.eq_1) (And.intro (tev_eq @Nv5.eq_1) (And.intro (tev_eq @Nq9.eq_1) (And.intro (tev_eq @Nq5.eq_1) (And.intro (tev_eq @Nq0.eq_1) (tev_eq @Qk0.eq_1)))))))))))))))))
def Wv9 : T := (.yld 1 [(.v 3), (.bin .add (.v 4) (.c (.i .i64 (1))))])
def Vz6 : T := (.yld 2 [(.app 1 (.v 7) (.lit 1 [(.v 8)]))])
def Vv5 : T := (.yld 3 [(.app 1 (.v 7) (.lit 1 [(.v 8)])), (.v 9)])
def Vj8 : T := (.w (.call none true Kz3 [(.v 8)] 2) Vv5)
def Pw9 : T := (.w (.chk (.scal (.v 8))) (.w (.chk (.app 1 (.v 7) (.lit 1 [(.v 8)]))) (.ite (.bin .eql (.v 8) (.proj 0 (.v 0))) Vz6 Vj8)))
def Sy5 : T := .loop 3 [(.v 3), (.proj 0 (.idx 1 (.v 2) (.v 4)))] Pw9
def Uy3 : T := (.yld 1 [(.v 7), (.bin .add (.v 4) (.c (.i .i64 (1))))])
def Uv8 : T := (.blk 2 Sy5 Uy3)
def Uk5 : T := (.ite (.ite (.un .not (.v 5)) (.c (.b true)) (.v 6)) Wv9 Uv8)
def Tz6 : T := (.w (.chk (.ite (.un .not (.un .not (.v 5))) (.c .u) (.c .u))) (.w (.call (some (.un .not (.un .not (.v 5)))) true Jz8 [(.v 1), (.clo Fv4 [(.proj 0 (.idx 1 (.v 2) (.v 4)))])] 1) Uk5))
def Ty2 : T := (.w (.chk (.scal (.proj 0 (.idx 1 (.v 2) (.v 4))))) (.w (.call none true Dy6 [(.proj 0 (.idx 1 (.v 2) (.v 4))), (.proj 0 (.v 0))] 1) Tz6))
def Xk7 : T := (.ite (.bin .lss (.v 4) (.len (.v 2))) Ty2 (.yld 0 [(.v 3)]))
def l0_u77 : T := .loop 1 [(.c (.l 1 [])), (.c (.i .i64 (0)))] Xk7
def Tw7 : T := (.w (.mcall Dz0 [(.v 4)]) (.ret [(.v 5)]))
def Nx0 : T := (.w (.mcall Cw3 [(.v 3), (.c (.f Bx2 []))]) Tw7)
def Nw0 : T := (.w (.chk (.len (.v 2))) (.blk 0 l0_u77 Nx0))
def Nv4 : T := (.w (.call none false Jz9 [(.proj 1 (.v 0))] 1) Nw0)
def Qj9 : T := (.w (.chk (.fit 2 (.v 0))) (.w (.call none false Kj0 [(.sub 0 2 (.v 0))] 1) Nv4))
theorem Kw7 : type_of% (And.intro (tev_eq @Wv9.eq_1) (And.intro (tev_eq @Vz6.eq_1) (And.intro (tev_eq @Vv5.eq_1) (And.intro (tev_eq @Vj8.eq_1) (And.intro (tev_eq @Pw9.eq_1) (And.intro (tev_eq @Uy3.eq_1) (And.intro (tev_eq @Uv8.eq_1) (And.intro (tev_eq @Uk5.eq_1) (And.intro (tev_eq @Tz6.eq_1) (And.intro (tev_eq @Ty2.eq_1) (And.intro (tev_eq @Xk7.eq_1) (And.intro (tev_eq @Tw7.eq_1) (And.intro (tev_eq @Nx0.eq_1) (And.intro (tev_eq @Nw0.eq_1) (And.intro (tev_eq @Nv4.eq_1) (tev_eq @Qj9.eq_1)))))))))))))))) := (And.intro (tev_eq @Wv9.eq_1) (And.intro (tev_eq @Vz6.eq_1) (And.intro (tev_eq @Vv5.eq_1) (And.intro (tev_eq @Vj8.eq_1) (And.intro (tev_eq @Pw9.eq_1) (And.intro (tev_eq @Uy3.eq_1) (And.intro (tev_eq @Uv8.eq_1) (And.intro (tev_eq @Uk5.eq_1) (And.intro (tev_eq @Tz6.eq_1) (And.intro (tev_eq @Ty2.eq_1) (And.intro (tev_eq @Xk7.eq_1) (And.intro (tev_eq @Tw7.eq_1) (And.intro (tev_eq @Nx0.eq_1) (And.intro (tev_eq @Nw0.eq_1) (And.intro (tev_eq @Nv4.eq_1) (tev_eq @Qj9.eq_1))))))))))))))))
def Wv8 : T := (.w (.mcall Jz7 [(.v 2), (.clo Fv3 [(.v 1)])]) (.ret [(.v 3)]))
def Vz5 : T := (.w (.call none false Sq1 [(.v 0)] 1) Wv8)
def Qj8 : T := (.w (.chk (.scal (.v 1))) (.ite (.bin .eql (.v 1) (.c (.i .i64 (255)))) (.ret [(.v 0)]) Vz5))
theorem x_u78 : type_of% (And.intro (tev_eq @Wv8.eq_1) (And.intro (tev_eq @Vz5.eq_1) (tev_eq @Qj8.eq_1))) := (And.intro (tev_eq @Wv8.eq_1) (And.intro (tev_eq @Vz5.eq_1) (tev_eq @Qj8.eq_1)))
def Wv7 : T := (.ite (.bin .eql (.v 0) (.c (.i .i64 (5)))) (.ret [(.c (.b true))]) (.ret [(.c (.b false))]))
def Vz4 : T := (.ite (.bin .eql (.v 0) (.c (.i .i64 (47)))) (.ret [(.c (.b true))]) (.ret [(.c (.b false))]))
def Vv4 : T := (.ite (.bin .eql (.v 0) (.c (.i .i64 (46)))) (.ret [(.c (.b true))]) (.ret [(.c (.b false))]))
def Vj7 : T := (.ite (.bin .eql (.v 0) (.c (.i .i64 (255)))) (.ret [(.c (.b true))]) (.ret [(.c (.b false))]))
def Uy2 : T := (.ite (.bin .eql (.v 0) (.c (.i .i64 (46)))) Vv4 Vj7)
def Uv7 : T := (.ite (.bin .eql (.v 0) (.c (.i .i64 (47)))) Vz4 Uy2)
def Qj7 : T := (.ite (.bin .eql (.v 0) (.c (.i .i64 (5)))) Wv7 Uv7)
theorem Rv6 : type_of% (And.intro (tev_eq @Wv7.eq_1) (And.intro (tev_eq @Vz4.eq_1) (And.intro (tev_eq @Vv4.eq_1) (And.intro (tev_eq @Vj7.eq_1) (And.intro (tev_eq @Uy2.eq_1) (And.intro (tev_eq @Uv7.eq_1) (tev_eq @Qj7.eq_1))))))) := (And.intro (tev_eq @Wv7.eq_1) (And.intro (tev_eq @Vz4.eq_1) (And.intro (tev_eq @Vv4.eq_1) (And.intro (tev_eq @Vj7.eq_1) (And.intro (tev_eq @Uy2.eq_1) (And.intro (tev_eq @Uv7.eq_1) (tev_eq @Qj7.eq_1)))))))
def Wv6 : T := (.ret [(.c (.s [])), (.c (.b false))])
def Vz3 : T := (.ret [(.c (.s [])), (.c (.b false))])
def Vv3 : T := (.w (.call none true Kz3 [(.v 4)] 2) (.yld 1 [(.v 6)]))
def Vj6 : T := (.ite (.bin .eql (.v 4) (.proj 0 (.v 0))) Vz3 Vv3)
def Uy1 : T := (.ite (.un .not (.v 5)) Vj6 (.yld 0 [(.v 4)]))
def Px2 : T := (.w (.call none true Kz4 [(.v 3), (.v 4)] 1) Uy1)
def l0_u80 : T := .loop 1 [(.v 1)] Px2
def Uv6 : T := (.ret [(.v 4), (.c (.b true))])
def Uk4 : T := (.blk 0 l0_u80 Uv6)
def Tz5 : T := (.w (.call none false Qz6 [(.sub 0 2 (.v 0))] 1) Uk4)
def Ty1 : T := (.ite (.un .not (.v 2)) Wv6 Tz5)
def Qj6 : T := (.w (.chk (.fit 2 (.v 0))) (.w (.call none true Dy6 [(.v 1), (.proj 0 (.v 0))] 1) Ty1))
theorem Kw6 : type_of% (And.intro (tev_eq @Wv6.eq_1) (And.intro (tev_eq @Vz3.eq_1) (And.intro (tev_eq @Vv3.eq_1) (And.intro (tev_eq @Vj6.eq_1) (And.intro (tev_eq @Uy1.eq_1) (And.intro (tev_eq @Px2.eq_1) (And.intro (tev_eq @Uv6.eq_1) (And.intro (tev_eq @Uk4.eq_1) (And.intro (tev_eq @Tz5.eq_1) (And.intro (tev_eq @Ty1.eq_1) (tev_eq @Qj6.eq_1))))))))))) := (And.intro (tev_eq @Wv6.eq_1) (And.intro (tev_eq @Vz3.eq_1) (And.intro (tev_eq @Vv3.eq_1) (And.intro (tev_eq @Vj6.eq_1) (And.intro (tev_eq @Uy1.eq_1) (And.intro (tev_eq @Px2.eq_1) (And.intro (tev_eq @Uv6.eq_1) (And.intro (tev_eq @Uk4.eq_1) (And.intro (tev_eq @Tz5.eq_1) (And.intro (tev_eq @Ty1.eq_1) (tev_eq @Qj6.eq_1)))))))))))
def Wv5 : T := (.yld 0 [(.c (.s [42, 46]))])
def Vz2 : T := (.yld 0 [(.bin .add (.c (.s [42, 46])) (.v 0))])
def Vv2 : T := (.ite (.bin .eql (.v 0) (.c (.s [46]))) Wv5 Vz2)
def Vj5 : T := (.ret [(.c (.s [])), (.c (.b false))])
def Uy0 : T := (.ret [(.v 1), (.c (.b true))])
def Uv5 : T := (.ite (.ite (.ite (.un .not (.v 2)) (.c (.b true)) (.bin .eql (.sidx (.v 0) (.c (.i .i64 (0)))) (.c (.i .u8 (42))))) (.c (.b true)) (.un .not (.v 3))) Vj5 Uy0)
def Uk3 : T := (.w (.call (some (.un .not (.ite (.un .not (.v 2)) (.c (.b true)) (.bin .eql (.sidx (.v 0) (.c (.i .i64 (0)))) (.c (.i .u8 (42))))))) true Cq1 [(.v 1)] 1) Uv5)
def Pw3 : T := (.w (.call none true Cq1 [(.v 0)] 1) Uk3)
def Qj5 : T := (.w (.chk (.bin .add (.c (.s [42, 46])) (.v 0))) (.blk 0 Vv2 Pw3))
theorem x_u81 : type_of% (And.intro (tev_eq @Wv5.eq_1) (And.intro (tev_eq @Vz2.eq_1) (And.intro (tev_eq @Vv2.eq_1) (And.intro (tev_eq @Vj5.eq_1) (And.intro (tev_eq @Uy0.eq_1) (And.intro (tev_eq @Uv5.eq_1) (And.intro (tev_eq @Uk3.eq_1) (And.intro (tev_eq @Pw3.eq_1) (tev_eq @Qj5.eq_1))))))))) := (And.intro (tev_eq @Wv5.eq_1) (And.intro (tev_eq @Vz2.eq_1) (And.intro (tev_eq @Vv2.eq_1) (And.intro (tev_eq @Vj5.eq_1) (And.intro (tev_eq @Uy0.eq_1) (And.intro (tev_eq @Uv5.eq_1) (And.intro (tev_eq @Uk3.eq_1) (And.intro (tev_eq @Pw3.eq_1) (tev_eq @Qj5.eq_1)))))))))
def Wv4 : T := (.ret [(.c (.l 1 [])), (.c (.b true))])
def Vz1 : T := (.ret [(.c (.l 1 [])), (.c (.b false))])
def Vv1 : T := (.yld 1 [(.v 1), (.v 2), (.bin .add (.v 3) (.c (.i .i64 (1))))])
def Vj4 : T := (.ret [(.c (.l 1 [])), (.c (.b false))])
def Ux9 : T := (.w (.chk (.scal (.ssl (.v 0) (.v 2) (.v 3)))) (.yld 1 [(.app 1 (.v 1) (.lit 1 [(.ssl (.v 0) (.v 2) (.v 3))])), (.bin .add (.v 3) (.c (.i .i64 (1)))), (.bin .add (.v 3) (.c (.i .i64 (1))))]))
def Uv4 : T := (.w (.chk (.ite (.ite (.un .not (.un .not (.v 4))) (.bin .eql (.ssl (.v 0) (.v 2) (.v 3)) (.c (.s [42]))) (.c (.b false))) (.bin .gtr (.v 2) (.c (.i .i64 (0)))) (.c .u))) (.ite (.ite (.un .not (.v 4)) (.c (.b true)) (.ite (.bin .eql (.ssl (.v 0) (.v 2) (.v 3)) (.c (.s [42]))) (.bin .gtr (.v 2) (.c (.i .i64 (0)))) (.c (.b false)))) Vj4 Ux9))
def Uk2 : T := (.w (.call none true Jz6 [(.ssl (.v 0) (.v 2) (.v 3))] 1) Uv4)
def Tz4 : T := (.ite (.bin .neq (.sidx (.v 0) (.v 3)) (.c (.i .u8 (46)))) Vv1 Uk2)
def Xk6 : T := (.ite (.bin .lss (.v 3) (.slen (.v 0))) Tz4 (.yld 0 [(.v 1)]))
def l0_u82 : T := .loop 1 [(.c (.l 1 [])), (.c (.i .i64 (0))), (.c (.i .i64 (0)))] Xk6
def Ty0 : T := (.ret [(.v 1), (.c (.b true))])
def Tw6 : T := (.blk 0 l0_u82 Ty0)
def Nw9 : T := (.ite (.ite (.ite (.bin .lss (.slen (.v 0)) (.c (.i .i64 (2)))) (.c (.b true)) (.bin .gtr (.slen (.v 0)) (.c (.i .i64 (254))))) (.c (.b true)) (.bin .neq (.sidx (.v 0) (.bin .sub (.slen (.v 0)) (.c (.i .i64 (1))))) (.c (.i .u8 (46))))) Vz1 Tw6)
def Qj4 : T := (.ite (.bin .eql (.v 0) (.c (.s [46]))) Wv4 Nw9)
theorem Iv0 : type_of% (And.intro (tev_eq @Wv4.eq_1) (And.intro (tev_eq @Vz1.eq_1) (And.intro (tev_eq @Vv1.eq_1) (And.intro (tev_eq @Vj4.eq_1) (And.intro (tev_eq @Ux9.eq_1) (And.intro (tev_eq @Uv4.eq_1) (And.intro (tev_eq @Uk2.eq_1) (And.intro (tev_eq @Tz4.eq_1) (And.intro (tev_eq @Xk6.eq_1) (And.intro (tev_eq @Ty0.eq_1) (And.intro (tev_eq @Tw6.eq_1) (And.intro (tev_eq @Nw9.eq_1) (tev_eq @Qj4.eq_1))))))))))))) := (And.intro (tev_eq @Wv4.eq_1) (And.intro (tev_eq @Vz1.eq_1) (And.intro (tev_eq @Vv1.eq_1) (And.intro (tev_eq @Vj4.eq_1) (And.intro (tev_eq @Ux9.eq_1) (And.intro (tev_eq @Uv4.eq_1) (And.intro (tev_eq @Uk2.eq_1) (And.intro (tev_eq @Tz4.eq_1) (And.intro (tev_eq @Xk6.eq_1) (And.intro (tev_eq @Ty0.eq_1) (And.intro (tev_eq @Tw6.eq_1) (And.intro (tev_eq @Nw9.eq_1) (tev_eq @Qj4.eq_1)))))))))))))
def Wv3 : T := (.yld 1 [(.bin .add (.v 2) (.c (.i .i64 (1))))])
def Px1 : T := (.ite (.ite (.ite (.bin .lss (.v 2) (.len (.v 0))) (.bin .lss (.v 2) (.len (.v 1))) (.c (.b false))) (.bin .eql (.proj 0 (.idx 1 (.v 0) (.bin .sub (.bin .sub (.len (.v 0)) (.c (.i .i64 (1)))) (.v 2)))) (.proj 0 (.idx 1 (.v 1) (.bin .sub (.bin .sub (.len (.v 1)) (.c (.i .i64 (1)))) (.v 2))))) (.c (.b false))) Wv3 (.yld 0 [(.v 2)]))
def Sz2 : T := .loop 1 [(.c (.i .i64 (0)))] Px1
def Qj3 : T := (.blk 0 Sz2 (.ret [(.v 2)]))
theorem x_u83 : type_of% (And.intro (tev_eq @Wv3.eq_1) (And.intro (tev_eq @Px1.eq_1) (tev_eq @Qj3.eq_1))) := (And.intro (tev_eq @Wv3.eq_1) (And.intro (tev_eq @Px1.eq_1) (tev_eq @Qj3.eq_1)))
def Wv2 : T := (.ret [(.ite (.bin .neq (.v 0) (.v 1)) (.v 2) (.c (.b false)))])
def Qj2 : T := (.w (.call (some (.bin .neq (.v 0) (.v 1))) true Dy5 [(.v 0), (.v 1)] 1) Wv2)
theorem x_u84 : type_of% (And.intro (tev_eq @Wv2.eq_1) (tev_eq @Qj2.eq_1)) := (And.intro (tev_eq @Wv2.eq_1) (tev_eq @Qj2.eq_1))
def Qj1 : T := (.w (.call none false Cq0 [(.v 0)] 2) (.ret [(.v 1)]))
theorem x_u85 : type_of% (tev_eq @Qj1.eq_1) := (tev_eq @Qj1.eq_1)
def Wv1 : T := (.ret [(.c (.s [])), (.c (.b false))])
def Vz0 : T := (.ret [(.v 3), (.c (.b true))])
def Vv0 : T := (.w (.call none true Qz2 [(.lsl 1 (.v 1) (.c (.i .i64 (1))) (.len (.v 1)))] 1) Vz0)
def Vj3 : T := (.ite (.bin .eql (.len (.v 1)) (.c (.i .i64 (0)))) Wv1 Vv0)
def Qj0 : T := (.w (.call none false Cq0 [(.v 0)] 2) Vj3)
theorem x_u86 : type_of% (And.intro (tev_eq @Wv1.eq_1) (And.intro (tev_eq @Vz0.eq_1) (And.intro (tev_eq @Vv0.eq_1) (And.intro (tev_eq @Vj3.eq_1) (tev_eq @Qj0.eq_1))))) := (And.intro (tev_eq @Wv1.eq_1) (And.intro (tev_eq @Vz0.eq_1) (And.intro (tev_eq @Vv0.eq_1) (And.intro (tev_eq @Vj3.eq_1) (tev_eq @Qj0.eq_1)))))
def Wv0 : T := (.yld 1 [(.bin .add (.bin .add (.v 1) (.proj 0 (.idx 1 (.v 0) (.v 2)))) (.c (.s [46]))), (.bin .add (.v 2) (.c (.i .i64 (1))))])
def Xk5 : T := (.ite (.bin .lss (.v 2) (.len (.v 0))) Wv0 (.yld 0 [(.v 1)]))
def Sz1 : T := .loop 1 [(.c (.s [])), (.c (.i .i64 (0)))] Xk5
def Vy9 : T := (.blk 0 Sz1 (.ret [(.v 1)]))
def Pz9 : T := (.ite (.bin .eql (.len (.v 0)) (.c (.i .i64 (0)))) (.ret [(.c (.s [46]))]) Vy9)
theorem x_u87 : type_of% (And.intro (tev_eq @Wv0.eq_1) (And.intro (tev_eq @Xk5.eq_1) (And.intro (tev_eq @Vy9.eq_1) (tev_eq @Pz9.eq_1)))) := (And.intro (tev_eq @Wv0.eq_1) (And.intro (tev_eq @Xk5.eq_1) (And.intro (tev_eq @Vy9.eq_1) (tev_eq @Pz9.eq_1))))
def Wq9 : T := (.yld 1 [(.v 1), (.bin .add (.v 2) (.c (.i .i64 (1))))])
def Vy8 : T := (.yld 2 [(.app 16 (.v 5) (.lit 16 [(.agg [(.v 6), (.c (.i .i64 (0))), (.c (.i .i64 (0))), (.c (.b false)), (.c (.i .u64 (0))), (.c (.i .u64 (0))), (.c (.s [])), (.c (.s [])), (.c (.s [])), (.c (.i .i64 (0))), (.c (.i .i64 (0))), (.c (.i .i64 (0))), (.c (.i .i64 (0))), (.c (.i .i64 (0))), (.c (.i .i64 (0))), (.c (.i .u64 (0)))])]))])
def Vq9 : T := (.yld 3 [(.app 16 (.v 5) (.lit 16 [(.agg [(.v 6), (.c (.i .i64 (0))), (.c (.i .i64 (0))), (.c (.b false)), (.c (.i .u64 (0))), (.c (.i .u64 (0))), (.c (.s [])), (.c (.s [])), (.c (.s [])), (.c (.i .i64 (0))), (.c (.i .i64 (0))), (.c (.i .i64 (0))), (.c (.i .i64 (0))), (.c (.i .i64 (0))), (.c (.i .i64 (0))), (.c (.i .u64 (0)))])])), (.v 9), (.bin .add (.v 7) (.c (.i .i64 (1))))])
def Vj2 : T := (.ite (.un .not (.v 10)) Vy8 Vq9)
def Ux8 : T := (.w (.chk (.scal (.v 6))) (.w (.chk (.app 16 (.v 5) (.lit 16 [(.agg [(.v 6), (.c (.i .i64 (0))), (.c (.i .i64 (0))), (.c (.b false)), (.c (.i .u64 (0))), (.c (.i .u64 (0))), (.c (.s [])), (.c (.s [])), (.c (.s [])), (.c (.i .i64 (0))), (.c (.i .i64 (0))), (.c (.i .i64 (0))), (.c (.i .i64 (0))), (.c (.i .i64 (0))), (.c (.i .i64 (0))), (.c (.i .u64 (0)))])]))) (.w (.call none true Qz3 [(.v 6)] 2) Vj2)))
def Uv3 : T := (.ite (.ite (.bin .leq (.v 7) (.c (.i .i64 (255)))) (.v 8) (.c (.b false))) Ux8 (.yld 2 [(.v 5)]))
def Kq9 : T := (.w (.call (some (.bin .leq (.v 7) (.c (.i .i64 (255))))) true Dy5 [(.v 6), (.proj 0 (.v 0))] 1) Uv3)
def Sy4 : T := .loop 3 [(.v 1), (.proj 0 (.idx 16 (.proj 1 (.v 0)) (.v 2))), (.c (.i .i64 (0)))] Kq9
def Uk1 : T := (.yld 1 [(.v 5), (.bin .add (.v 2) (.c (.i .i64 (1))))])
def Tz3 : T := (.blk 2 Sy4 Uk1)
def Tx9 : T := (.ite (.ite (.v 4) (.bin .neq (.v 3) (.proj 0 (.idx 16 (.proj 1 (.v 0)) (.v 2)))) (.c (.b false))) Wq9 Tz3)
def Tw5 : T := (.w (.call none true Rj1 [(.sub 0 2 (.v 0)), (.proj 0 (.idx 16 (.proj 1 (.v 0)) (.v 2)))] 2) Tx9)
def Xk4 : T := (.ite (.bin .lss (.v 2) (.len (.proj 1 (.v 0)))) Tw5 (.yld 0 [(.v 1)]))
def l0_u88 : T := .loop 1 [(.c (.l 16 [])), (.c (.i .i64 (0)))] Xk4
def Nw8 : T := (.w (.call none false Jz5 [(.v 1)] 1) (.ret [(.v 2)]))
def Pz8 : T := (.w (.chk (.fit 2 (.v 0))) (.blk 0 l0_u88 Nw8))
theorem Dv5 : type_of% (And.intro (tev_eq @Wq9.eq_1) (And.intro (tev_eq @Vy8.eq_1) (And.intro (tev_eq @Vq9.eq_1) (And.intro (tev_eq @Vj2.eq_1) (And.intro (tev_eq @Ux8.eq_1) (And.intro (tev_eq @Uv3.eq_1) (And.intro (tev_eq @Kq9.eq_1) (And.intro (tev_eq @Uk1.eq_1) (And.intro (tev_eq @Tz3.eq_1) (And.intro (tev_eq @Tx9.eq_1) (And.intro (tev_eq @Tw5.eq_1) (And.intro (tev_eq @Xk4.eq_1) (And.intro (tev_eq @Nw8.eq_1) (tev_eq @Pz8.eq_1)))))))))))))) := (And.intro (tev_eq @Wq9.eq_1) (And.intro (tev_eq @Vy8.eq_1) (And.intro (tev_eq @Vq9.eq_1) (And.intro (tev_eq @Vj2.eq_1) (And.intro (tev_eq @Ux8.eq_1) (And.intro (tev_eq @Uv3.eq_1) (And.intro (tev_eq @Kq9.eq_1) (And.intro (tev_eq @Uk1.eq_1) (And.intro (tev_eq @Tz3.eq_1) (And.intro (tev_eq @Tx9.eq_1) (And.intro (tev_eq @Tw5.eq_1) (And.intro (tev_eq @Xk4.eq_1) (And.intro (tev_eq @Nw8.eq_1) (tev_eq @Pz8.eq_1))))))))))))))
def Wq8 : T := (.yld 1 [(.bin .add (.v 2) (.c (.i .i64 (1))))])
def Vy7 : T := (.ite (.bin .eql (.v 1) (.proj 0 (.idx 1 (.v 0) (.v 2)))) (.ret [(.v 2)]) Wq8)
def Xk3 : T := (.ite (.bin .lss (.v 2) (.len (.v 0))) Vy7 (.yld 0 []))
def l0_u89 : T := .loop 1 [(.c (.i .i64 (0)))] Xk3
def Pz7 : T := (.w (.chk (.len (.v 0))) (.blk 0 l0_u89 (.ret [(.c (.i .i64 (-1)))])))
theorem Rv5 : type_of% (And.intro (tev_eq @Wq8.eq_1) (And.intro (tev_eq @Vy7.eq_1) (And.intro (tev_eq @Xk3.eq_1) (tev_eq @Pz7.eq_1)))) := (And.intro (tev_eq @Wq8.eq_1) (And.intro (tev_eq @Vy7.eq_1) (And.intro (tev_eq @Xk3.eq_1) (tev_eq @Pz7.eq_1))))
def Pz6 : T := (.w (.call none true Fv2 [(.v 0), (.v 1)] 1) (.ret [(.v 2)]))
theorem x_u90 : type_of% (tev_eq @Pz6.eq_1) := (tev_eq @Pz6.eq_1)
def Pz5 : T := (.w (.call none false Jz4 [(.v 0), (.v 1), (.c (.i .i64 (0))), (.c (.i .i64 (-1)))] 1) (.ret [(.v 2)]))
theorem x_u91 : type_of% (tev_eq @Pz5.eq_1) := (tev_eq @Pz5.eq_1)
def Wq7 : T := (.yld 1 [(.bin .add (.v 1) (.c (.i .i64 (1))))])
def Vy6 : T := (.w (.chk (.ite (.ite (.ite (.bin .lss (.sidx (.v 0) (.v 1)) (.c (.i .u8 (97)))) (.c (.b true)) (.bin .gtr (.sidx (.v 0) (.v 1)) (.c (.i .u8 (122))))) (.un .not (.bin .lss (.sidx (.v 0) (.v 1)) (.c (.i .u8 (48))))) (.c (.b false))) (.bin .gtr (.sidx (.v 0) (.v 1)) (.c (.i .u8 (57)))) (.c .u))) (.ite (.ite (.ite (.ite (.ite (.bin .lss (.sidx (.v 0) (.v 1)) (.c (.i .u8 (97)))) (.c (.b true)) (.bin .gtr (.sidx (.v 0) (.v 1)) (.c (.i .u8 (122))))) (.ite (.bin .lss (.sidx (.v 0) (.v 1)) (.c (.i .u8 (48)))) (.c (.b true)) (.bin .gtr (.sidx (.v 0) (.v 1)) (.c (.i .u8 (57))))) (.c (.b false))) (.bin .neq (.sidx (.v 0) (.v 1)) (.c (.i .u8 (45)))) (.c (.b false))) (.bin .neq (.sidx (.v 0) (.v 1)) (.c (.i .u8 (95)))) (.c (.b false))) (.ret [(.c (.b false))]) Wq7))
def Px0 : T := (.ite (.bin .lss (.v 1) (.slen (.v 0))) Vy6 (.yld 0 []))
def l0_u92 : T := .loop 1 [(.c (.i .i64 (0)))] Px0
def Vq8 : T := (.w (.chk (.slen (.v 0))) (.blk 0 l0_u92 (.ret [(.c (.b true))])))
def Pz4 : T := (.ite (.ite (.bin .eql (.v 0) (.c (.s []))) (.c (.b true)) (.bin .gtr (.slen (.v 0)) (.c (.i .i64 (63))))) (.ret [(.c (.b false))]) Vq8)
theorem Rv4 : type_of% (And.intro (tev_eq @Wq7.eq_1) (And.intro (tev_eq @Vy6.eq_1) (And.intro (tev_eq @Px0.eq_1) (And.intro (tev_eq @Vq8.eq_1) (tev_eq @Pz4.eq_1))))) := (And.intro (tev_eq @Wq7.eq_1) (And.intro (tev_eq @Vy6.eq_1) (And.intro (tev_eq @Px0.eq_1) (And.intro (tev_eq @Vq8.eq_1) (tev_eq @Pz4.eq_1)))))
def Wq6 : T := (.yld 1 [(.bin .add (.v 2) (.c (.i .i64 (1))))])
def Vy5 : T := (.ite (.v 3) (.ret [(.v 2)]) Wq6)
def Vq7 : T := (.w (.clo none true (.v 1) [(.sub 0 16 (.idx 16 (.v 0) (.v 2)))] 1) Vy5)
def Xk2 : T := (.ite (.bin .lss (.v 2) (.len (.v 0))) Vq7 (.yld 0 []))
def l0_u95 : T := .loop 1 [(.c (.i .i64 (0)))] Xk2
def Pz3 : T := (.w (.chk (.len (.v 0))) (.blk 0 l0_u95 (.ret [(.c (.i .i64 (-1)))])))
theorem Rv3 : type_of% (And.intro (tev_eq @Wq6.eq_1) (And.intro (tev_eq @Vy5.eq_1) (And.intro (tev_eq @Vq7.eq_1) (And.intro (tev_eq @Xk2.eq_1) (tev_eq @Pz3.eq_1))))) := (And.intro (tev_eq @Wq6.eq_1) (And.intro (tev_eq @Vy5.eq_1) (And.intro (tev_eq @Vq7.eq_1) (And.intro (tev_eq @Xk2.eq_1) (tev_eq @Pz3.eq_1)))))
def Pz2 : T := (.w (.chk (.len (.v 0))) (.w (.chk (.lit 16 [])) (.ret [(.app 16 (.c (.l 16 [])) (.v 0))])))
theorem x_u98 : type_of% (tev_eq @Pz2.eq_1) := (tev_eq @Pz2.eq_1)
def Oj9 : T := (.ret [(.bin .neq (.v 1) (.c (.s [])))])
def Ez1 : T := (.w (.call none true Jz3 [(.v 0)] 1) Oj9)
theorem x_u107 : type_of% (And.intro (tev_eq @Oj9.eq_1) (tev_eq @Ez1.eq_1)) := (And.intro (tev_eq @Oj9.eq_1) (tev_eq @Ez1.eq_1))
def Oj8 : T := (.ret [(.ite (.v 4) (.un .not (.proj 0 (.v 1))) (.c (.b false)))])
def Nj5 : T := (.w (.call none true Fv1 [(.sub 0 3 (.v 1))] 1) Oj8)
def Mw9 : T := (.ret [(.ite (.ite (.ite (.ite (.ite (.ite (.v 4) (.v 5) (.c (.b false))) (.v 6) (.c (.b false))) (.v 7) (.c (.b false))) (.v 8) (.c (.b false))) (.v 9) (.c (.b false))) (.v 10) (.c (.b false)))])
def Mq5 : T := (.w (.chk (.ite (.ite (.ite (.ite (.ite (.ite (.v 4) (.v 5) (.c (.b false))) (.v 6) (.c (.b false))) (.v 7) (.c (.b false))) (.v 8) (.c (.b false))) (.v 9) (.c (.b false))) (.c .u) (.c .u))) (.w (.call (some (.ite (.ite (.ite (.ite (.ite (.v 4) (.v 5) (.c (.b false))) (.v 6) (.c (.b false))) (.v 7) (.c (.b false))) (.v 8) (.c (.b false))) (.v 9) (.c (.b false)))) true Aw9 [(.proj 10 (.v 1)), (.c (.i .i64 (2147483647)))] 1) Mw9))
def Mj7 : T := (.w (.chk (.ite (.ite (.ite (.ite (.ite (.v 4) (.v 5) (.c (.b false))) (.v 6) (.c (.b false))) (.v 7) (.c (.b false))) (.v 8) (.c (.b false))) (.c .u) (.c .u))) (.w (.call (some (.ite (.ite (.ite (.ite (.v 4) (.v 5) (.c (.b false))) (.v 6) (.c (.b false))) (.v 7) (.c (.b false))) (.v 8) (.c (.b false)))) true Aw9 [(.proj 9 (.v 1)), (.c (.i .i64 (2147483647)))] 1) Mq5))
def Lz1 : T := (.w (.chk (.ite (.ite (.ite (.ite (.v 4) (.v 5) (.c (.b false))) (.v 6) (.c (.b false))) (.v 7) (.c (.b false))) (.c .u) (.c .u))) (.w (.call (some (.ite (.ite (.ite (.v 4) (.v 5) (.c (.b false))) (.v 6) (.c (.b false))) (.v 7) (.c (.b false)))) true Aw9 [(.proj 8 (.v 1)), (.c (.i .i64 (2147483647)))] 1) Mj7))
def Lx6 : T := (.w (.chk (.ite (.ite (.ite (.v 4) (.v 5) (.c (.b false))) (.v 6) (.c (.b false))) (.c .u) (.c .u))) (.w (.call (some (.ite (.ite (.v 4) (.v 5) (.c (.b false))) (.v 6) (.c (.b false)))) true Aw9 [(.proj 7 (.v 1)), (.c (.i .i64 (2147483647)))] 1) Lz1))
def Lw5 : T := (.w (.chk (.ite (.ite (.v 4) (.v 5) (.c (.b false))) (.c .u) (.c .u))) (.w (.call (some (.ite (.v 4) (.v 5) (.c (.b false)))) true Jz1 [(.proj 6 (.v 1))] 1) Lx6))
def Lv6 : T := (.w (.chk (.ite (.v 4) (.c .u) (.c .u))) (.w (.call (some (.v 4)) true Ck4 [(.proj 4 (.v 1))] 1) Lw5))
def Lq9 : T := (.w (.call none true Ck4 [(.proj 3 (.v 1))] 1) Lv6)
def Ik1 : T := (.ret [(.ite (.v 4) (.v 5) (.c (.b false)))])
def Ij5 : T := (.w (.chk (.ite (.v 4) (.c .u) (.c .u))) (.w (.call (some (.v 4)) true Aw9 [(.proj 6 (.v 1)), (.c (.i .i64 (65535)))] 1) Ik1))
def Hz9 : T := (.w (.call none true Ck4 [(.proj 3 (.v 1))] 1) Ij5)
def Hz3 : T := (.ret [(.bin .leq (.slen (.proj 5 (.v 1))) (.c (.i .i64 (255))))])
def Hy9 : T := (.ret [(.ite (.ite (.ite (.v 4) (.v 5) (.c (.b false))) (.v 6) (.c (.b false))) (.v 7) (.c (.b false)))])
def Hy4 : T := (.w (.chk (.ite (.ite (.ite (.v 4) (.v 5) (.c (.b false))) (.v 6) (.c (.b false))) (.c .u) (.c .u))) (.w (.call (some (.ite (.ite (.v 4) (.v 5) (.c (.b false))) (.v 6) (.c (.b false)))) true Aw9 [(.proj 8 (.v 1)), (.c (.i .i64 (65535)))] 1) Hy9))
def Hy0 : T := (.w (.chk (.ite (.ite (.v 4) (.v 5) (.c (.b false))) (.c .u) (.c .u))) (.w (.call (some (.ite (.v 4) (.v 5) (.c (.b false)))) true Aw9 [(.proj 7 (.v 1)), (.c (.i .i64 (65535)))] 1) Hy4))
def Hx6 : T := (.w (.chk (.ite (.v 4) (.c .u) (.c .u))) (.w (.call (some (.v 4)) true Aw9 [(.proj 6 (.v 1)), (.c (.i .i64 (65535)))] 1) Hy0))
def Hx2 : T := (.w (.call none true Ck4 [(.proj 3 (.v 1))] 1) Hx6)
def Hw8 : T := (.ret [(.ite (.ite (.ite (.v 4) (.v 5) (.c (.b false))) (.v 6) (.c (.b false))) (.v 7) (.c (.b false)))])
def Hw4 : T := (.w (.chk (.ite (.ite (.ite (.v 4) (.v 5) (.c (.b false))) (.v 6) (.c (.b false))) (.c .u) (.c .u))) (.w (.call (some (.ite (.ite (.v 4) (.v 5) (.c (.b false))) (.v 6) (.c (.b false)))) true Dy9 [(.proj 5 (.v 1))] 1) Hw8))
def Hw0 : T := (.w (.chk (.ite (.ite (.v 4) (.v 5) (.c (.b false))) (.c .u) (.c .u))) (.w (.call (some (.ite (.v 4) (.v 5) (.c (.b false)))) true Aw9 [(.proj 8 (.v 1)), (.c (.i .i64 (255)))] 1) Hw4))
def Hv5 : T := (.w (.chk (.ite (.v 4) (.c .u) (.c .u))) (.w (.call (some (.v 4)) true Aw9 [(.proj 7 (.v 1)), (.c (.i .i64 (255)))] 1) Hw0))
def Hv1 : T := (.w (.call none true Aw9 [(.proj 6 (.v 1)), (.c (.i .i64 (65535)))] 1) Hv5)
def Hq6 : T := (.ret [(.ite (.ite (.ite (.ite (.ite (.ite (.ite (.ite (.v 4) (.bin .neq (.proj 6 (.v 1)) (.c (.i .i64 (46)))) (.c (.b false))) (.v 5) (.c (.b false))) (.v 6) (.c (.b false))) (.v 7) (.c (.b false))) (.v 8) (.c (.b false))) (.v 9) (.c (.b false))) (.v 10) (.c (.b false))) (.v 11) (.c (.b false)))])
def Hq2 : T := (.w (.chk (.ite (.ite (.ite (.ite (.ite (.ite (.ite (.ite (.v 4) (.bin .neq (.proj 6 (.v 1)) (.c (.i .i64 (46)))) (.c (.b false))) (.v 5) (.c (.b false))) (.v 6) (.c (.b false))) (.v 7) (.c (.b false))) (.v 8) (.c (.b false))) (.v 9) (.c (.b false))) (.v 10) (.c (.b false))) (.c .u) (.c .u))) (.w (.call (some (.ite (.ite (.ite (.ite (.ite (.ite (.ite (.v 4) (.bin .neq (.proj 6 (.v 1)) (.c (.i .i64 (46)))) (.c (.b false))) (.v 5) (.c (.b false))) (.v 6) (.c (.b false))) (.v 7) (.c (.b false))) (.v 8) (.c (.b false))) (.v 9) (.c (.b false))) (.v 10) (.c (.b false)))) true Dy9 [(.proj 5 (.v 1))] 1) Hq6))
def Hk8 : T := (.w (.chk (.ite (.ite (.ite (.ite (.ite (.ite (.ite (.v 4) (.bin .neq (.proj 6 (.v 1)) (.c (.i .i64 (46)))) (.c (.b false))) (.v 5) (.c (.b false))) (.v 6) (.c (.b false))) (.v 7) (.c (.b false))) (.v 8) (.c (.b false))) (.v 9) (.c (.b false))) (.c .u) (.c .u))) (.w (.call (some (.ite (.ite (.ite (.ite (.ite (.ite (.v 4) (.bin .neq (.proj 6 (.v 1)) (.c (.i .i64 (46)))) (.c (.b false))) (.v 5) (.c (.b false))) (.v 6) (.c (.b false))) (.v 7) (.c (.b false))) (.v 8) (.c (.b false))) (.v 9) (.c (.b false)))) true Ck4 [(.proj 3 (.v 1))] 1) Hq2))
def Hk5 : T := (.w (.chk (.ite (.ite (.ite (.ite (.ite (.ite (.v 4) (.bin .neq (.proj 6 (.v 1)) (.c (.i .i64 (46)))) (.c (.b false))) (.v 5) (.c (.b false))) (.v 6) (.c (.b false))) (.v 7) (.c (.b false))) (.v 8) (.c (.b false))) (.c .u) (.c .u))) (.w (.call (some (.ite (.ite (.ite (.ite (.ite (.v 4) (.bin .neq (.proj 6 (.v 1)) (.c (.i .i64 (46)))) (.c (.b false))) (.v 5) (.c (.b false))) (.v 6) (.c (.b false))) (.v 7) (.c (.b false))) (.v 8) (.c (.b false)))) true Aw9 [(.proj 11 (.v 1)), (.c (.i .i64 (65535)))] 1) Hk8))
def Hk2 : T := (.w (.chk (.ite (.ite (.ite (.ite (.ite (.v 4) (.bin .neq (.proj 6 (.v 1)) (.c (.i .i64 (46)))) (.c (.b false))) (.v 5) (.c (.b false))) (.v 6) (.c (.b false))) (.v 7) (.c (.b false))) (.c .u) (.c .u))) (.w (.call (some (.ite (.ite (.ite (.ite (.v 4) (.bin .neq (.proj 6 (.v 1)) (.c (.i .i64 (46)))) (.c (.b false))) (.v 5) (.c (.b false))) (.v 6) (.c (.b false))) (.v 7) (.c (.b false)))) true Aw9 [(.proj 10 (.v 1)), (.c (.i .i64 (4294967295)))] 1) Hk5))
def Hj9 : T := (.w (.chk (.ite (.ite (.ite (.ite (.v 4) (.bin .neq (.proj 6 (.v 1)) (.c (.i .i64 (46)))) (.c (.b false))) (.v 5) (.c (.b false))) (.v 6) (.c (.b false))) (.c .u) (.c .u))) (.w (.call (some (.ite (.ite (.ite (.v 4) (.bin .neq (.proj 6 (.v 1)) (.c (.i .i64 (46)))) (.c (.b false))) (.v 5) (.c (.b false))) (.v 6) (.c (.b false)))) true Aw9 [(.proj 9 (.v 1)), (.c (.i .i64 (4294967295)))] 1) Hk2))
def Hj6 : T := (.w (.chk (.ite (.ite (.ite (.v 4) (.bin .neq (.proj 6 (.v 1)) (.c (.i .i64 (46)))) (.c (.b false))) (.v 5) (.c (.b false))) (.c .u) (.c .u))) (.w (.call (some (.ite (.ite (.v 4) (.bin .neq (.proj 6 (.v 1)) (.c (.i .i64 (46)))) (.c (.b false))) (.v 5) (.c (.b false)))) true Aw9 [(.proj 8 (.v 1)), (.c (.i .i64 (2147483647)))] 1) Hj9))
def Hj3 : T := (.w (.call (some (.ite (.v 4) (.bin .neq (.proj 6 (.v 1)) (.c (.i .i64 (46)))) (.c (.b false)))) true Aw9 [(.proj 7 (.v 1)), (.c (.i .i64 (127)))] 1) Hj6)
def Hj0 : T := (.w (.call none true Cw4 [(.proj 6 (.v 1))] 1) Hj3)
def Gz7 : T := (.ret [(.ite (.ite (.v 4) (.bin .neq (.proj 12 (.v 1)) (.c (.i .u64 (0)))) (.c (.b false))) (.v 5) (.c (.b false)))])
def Gz4 : T := (.w (.call (some (.ite (.v 4) (.bin .neq (.proj 12 (.v 1)) (.c (.i .u64 (0)))) (.c (.b false)))) true Jz0 [(.proj 12 (.v 1))] 1) Gz7)
def Gz1 : T := (.w (.call none true Eq1 [(.proj 3 (.v 1))] 1) Gz4)
def Gy8 : T := (.ret [(.ite (.ite (.ite (.ite (.bin .eql (.proj 6 (.v 1)) (.c (.i .i64 (256)))) (.c (.b true)) (.bin .eql (.proj 6 (.v 1)) (.c (.i .i64 (257))))) (.bin .eql (.proj 7 (.v 1)) (.c (.i .i64 (3)))) (.c (.b false))) (.v 4) (.c (.b false))) (.v 5) (.c (.b false)))])
def Gy5 : T := (.w (.chk (.ite (.ite (.ite (.ite (.bin .eql (.proj 6 (.v 1)) (.c (.i .i64 (256)))) (.c (.b true)) (.bin .eql (.proj 6 (.v 1)) (.c (.i .i64 (257))))) (.bin .eql (.proj 7 (.v 1)) (.c (.i .i64 (3)))) (.c (.b false))) (.v 4) (.c (.b false))) (.c .u) (.c .u))) (.w (.call (some (.ite (.ite (.ite (.bin .eql (.proj 6 (.v 1)) (.c (.i .i64 (256)))) (.c (.b true)) (.bin .eql (.proj 6 (.v 1)) (.c (.i .i64 (257))))) (.bin .eql (.proj 7 (.v 1)) (.c (.i .i64 (3)))) (.c (.b false))) (.v 4) (.c (.b false)))) true Dy9 [(.proj 5 (.v 1))] 1) Gy8))
def Gy2 : T := (.w (.call (some (.ite (.ite (.bin .eql (.proj 6 (.v 1)) (.c (.i .i64 (256)))) (.c (.b true)) (.bin .eql (.proj 6 (.v 1)) (.c (.i .i64 (257))))) (.bin .eql (.proj 7 (.v 1)) (.c (.i .i64 (3)))) (.c (.b false)))) true Aw9 [(.proj 8 (.v 1)), (.c (.i .i64 (255)))] 1) Gy5)
def Gx9 : T := (.w (.call none true Ck4 [(.proj 3 (.v 1))] 1) (.ret [(.v 4)]))
def Gx6 : T := (.ite (.bin .eql (.v 0) (.c (.i .i64 (48)))) Gy2 Gx9)
def Gx3 : T := (.ite (.bin .eql (.v 0) (.c (.i .i64 (47)))) Gz1 Gx6)
def Gx0 : T := (.ite (.bin .eql (.v 0) (.c (.i .i64 (46)))) Hj0 Gx3)
def Gw8 : T := (.ite (.bin .eql (.v 0) (.c (.i .i64 (43)))) Hv1 Gx0)
def Gw6 : T := (.ite (.bin .eql (.v 0) (.c (.i .i64 (33)))) Hx2 Gw8)
def Gw4 : T := (.ite (.bin .eql (.v 0) (.c (.i .i64 (16)))) Hz3 Gw6)
def Gw2 : T := (.ite (.bin .eql (.v 0) (.c (.i .i64 (15)))) Hz9 Gw4)
def Gw0 : T := (.ite (.bin .eql (.v 0) (.c (.i .i64 (6)))) Lq9 Gw2)
def Gv8 : T := (.ite (.bin .eql (.v 0) (.c (.i .i64 (28)))) (.ret [(.proj 0 (.v 1))]) Gw0)
def Gv6 : T := (.ite (.bin .eql (.v 0) (.c (.i .i64 (1)))) Nj5 Gv8)
def Gv4 : T := (.ite (.ite (.un .not (.v 2)) (.c (.b true)) (.eqs true true [.b, (.i .u64), (.i .u64), .s, .s, .s, (.i .i64), (.i .i64), (.i .i64), (.i .i64), (.i .i64), (.i .i64), (.i .u64)] (.v 3) (.sub 0 13 (.v 1)))) (.ret [(.c (.b false))]) Gv6)
def Gv2 : T := (.w (.chk (.ite (.un .not (.un .not (.v 2))) (.c .u) (.c .u))) (.w (.call (some (.un .not (.un .not (.v 2)))) true Jz2 [(.v 0), (.sub 0 13 (.v 1))] 1) Gv4))
def Ez0 : T := (.w (.chk (.fit 13 (.v 1))) (.w (.call none true Cw4 [(.v 0)] 1) Gv2))
theorem Az8 : type_of% (And.intro (tev_eq @Oj8.eq_1) (And.intro (tev_eq @Nj5.eq_1) (And.intro (tev_eq @Mw9.eq_1) (And.intro (tev_eq @Mq5.eq_1) (And.intro (tev_eq @Mj7.eq_1) (And.intro (tev_eq @Lz1.eq_1) (And.intro (tev_eq @Lx6.eq_1) (And.intro (tev_eq @Lw5.eq_1) (And.intro (tev_eq @Lv6.eq_1) (And.intro (tev_eq @Lq9.eq_1) (And.intro (tev_eq @Ik1.eq_1) (And.intro (tev_eq @Ij5.eq_1) (And.intro (tev_eq @Hz9.eq_1) (And.intro (tev_eq @Hz3.eq_1) (And.intro (tev_eq @Hy9.eq_1) (And.intro (tev_eq @Hy4.eq_1) (And.intro (tev_eq @Hy0.eq_1) (And.intro (tev_eq @Hx6.eq_1) (And.intro (tev_eq @Hx2.eq_1) (And.intro (tev_eq @Hw8.eq_1) (And.intro (tev_eq @Hw4.eq_1) (And.intro (tev_eq @Hw0.eq_1) (And.intro (tev_eq @Hv5.eq_1) (And.intro (tev_eq @Hv1.eq_1) (And.intro (tev_eq @Hq6.eq_1) (And.intro (tev_eq @Hq2.eq_1) (And.intro (tev_eq @Hk8.eq_1) (And.intro (tev_eq @Hk5.eq_1) (And.intro (tev_eq @Hk2.eq_1) (And.intro (tev_eq @Hj9.eq_1) (And.intro (tev_eq @Hj6.eq_1) (And.intro (tev_eq @Hj3.eq_1) (And.intro (tev_eq @Hj0.eq_1) (And.intro (tev_eq @Gz7.eq_1) (And.intro (tev_eq @Gz4.eq_1) (And.intro (tev_eq @Gz1.eq_1) (And.intro (tev_eq @Gy8.eq_1) (And.intro (tev_eq @Gy5.eq_1) (And.intro (tev_eq @Gy2.eq_1) (And.intro (tev_eq @Gx9.eq_1) (And.intro (tev_eq @Gx6.eq_1) (And.intro (tev_eq @Gx3.eq_1) (And.intro (tev_eq @Gx0.eq_1) (And.intro (tev_eq @Gw8.eq_1) (And.intro (tev_eq @Gw6.eq_1) (And.intro (tev_eq @Gw4.eq_1) (And.intro (tev_eq @Gw2.eq_1) (And.intro (tev_eq @Gw0.eq_1) (And.intro (tev_eq @Gv8.eq_1) (And.intro (tev_eq @Gv6.eq_1) (And.intro (tev_eq @Gv4.eq_1) (And.intro (tev_eq @Gv2.eq_1) (tev_eq @Ez0.eq_1))))))))))))))))))))))))))))))))))))))))))))))))))))) := (And.intro (tev_eq @Oj8.eq_1) (And.intro (tev_eq @Nj5.eq_1) (And.intro (tev_eq @Mw9.eq_1) (And.intro (tev_eq @Mq5.eq_1) (And.intro (tev_eq @Mj7.eq_1) (And.intro (tev_eq @Lz1.eq_1) (And.intro (tev_eq @Lx6.eq_1) (And.intro (tev_eq @Lw5.eq_1) (And.intro (tev_eq @Lv6.eq_1) (And.intro (tev_eq @Lq9.eq_1) (And.intro (tev_eq @Ik1.eq_1) (And.intro (tev_eq @Ij5.eq_1) (And.intro (tev_eq @Hz9.eq_1) (And.intro (tev_eq @Hz3.eq_1) (And.intro (tev_eq @Hy9.eq_1) (And.intro (tev_eq @Hy4.eq_1) (And.intro (tev_eq @Hy0.eq_1) (And.intro (tev_eq @Hx6.eq_1) (And.intro (tev_eq @Hx2.eq_1) (And.intro (tev_eq @Hw8.eq_1) (And.intro (tev_eq @Hw4.eq_1) (And.intro (tev_eq @Hw0.eq_1) (And.intro (tev_eq @Hv5.eq_1) (And.intro (tev_eq @Hv1.eq_1) (And.intro (tev_eq @Hq6.eq_1) (And.intro (tev_eq @Hq2.eq_1) (And.intro (tev_eq @Hk8.eq_1) (And.intro (tev_eq @Hk5.eq_1) (And.intro (tev_eq @Hk2.eq_1) (And.intro (tev_eq @Hj9.eq_1) (And.intro (tev_eq @Hj6.eq_1) (And.intro (tev_eq @Hj3.eq_1) (And.intro (tev_eq @Hj0.eq_1) (And.intro (tev_eq @Gz7.eq_1) (And.intro (tev_eq @Gz4.eq_1) (And.intro (tev_eq @Gz1.eq_1) (And.intro (tev_eq @Gy8.eq_1) (And.intro (tev_eq @Gy5.eq_1) (And.intro (tev_eq @Gy2.eq_1) (And.intro (tev_eq @Gx9.eq_1) (And.intro (tev_eq @Gx6.eq_1) (And.intro (tev_eq @Gx3.eq_1) (And.intro (tev_eq @Gx0.eq_1) (And.intro (tev_eq @Gw8.eq_1) (And.intro (tev_eq @Gw6.eq_1) (And.intro (tev_eq @Gw4.eq_1) (And.intro (tev_eq @Gw2.eq_1) (And.intro (tev_eq @Gw0.eq_1) (And.intro (tev_eq @Gv8.eq_1) (And.intro (tev_eq @Gv6.eq_1) (And.intro (tev_eq @Gv4.eq_1) (And.intro (tev_eq @Gv2.eq_1) (tev_eq @Ez0.eq_1)))))))))))))))))))))))))))))))))))))))))))))))))))))
def Oj7 : T := (.w (.call none true Jy8 [(.proj 1 (.v 0)), (.agg [(.proj 3 (.v 0)), (.proj 4 (.v 0)), (.proj 5 (.v 0)), (.proj 6 (.v 0)), (.proj 7 (.v 0)), (.proj 8 (.v 0)), (.proj 9 (.v 0)), (.proj 10 (.v 0)), (.proj 11 (.v 0)), (.proj 12 (.v 0)), (.proj 13 (.v 0)), (.proj 14 (.v 0)), (.proj 15 (.v 0))]), (.agg [(.proj 3 (.v 1)), (.proj 4 (.v 1)), (.proj 5 (.v 1)), (.proj 6 (.v 1)), (.proj 7 (.v 1)), (.proj 8 (.v 1)), (.proj 9 (.v 1)), (.proj 10 (.v 1)), (.proj 11 (.v 1)), (.proj 12 (.v 1)), (.proj 13 (.v 1)), (.proj 14 (.v 1)), (.proj 15 (.v 1))])] 1) (.ret [(.v 4)]))
def Nj4 : T := (.ite (.bin .neq (.v 3) (.c (.i .i64 (0)))) (.ret [(.v 3)]) Oj7)
def Mw8 : T := (.w (.call none true Jy9 [(.proj 1 (.v 0)), (.proj 1 (.v 1))] 1) Nj4)
def Mq4 : T := (.ite (.bin .neq (.v 2) (.c (.i .i64 (0)))) (.ret [(.v 2)]) Mw8)
def Ey9 : T := (.w (.chk (.fit 16 (.v 0))) (.w (.chk (.fit 16 (.v 1))) (.w (.call none true Fv0 [(.proj 0 (.v 0)), (.proj 0 (.v 1))] 1) Mq4)))
theorem x_u109 : type_of% (And.intro (tev_eq @Oj7.eq_1) (And.intro (tev_eq @Nj4.eq_1) (And.intro (tev_eq @Mw8.eq_1) (And.intro (tev_eq @Mq4.eq_1) (tev_eq @Ey9.eq_1))))) := (And.intro (tev_eq @Oj7.eq_1) (And.intro (tev_eq @Nj4.eq_1) (And.intro (tev_eq @Mw8.eq_1) (And.intro (tev_eq @Mq4.eq_1) (tev_eq @Ey9.eq_1)))))
def Ey8 : T := (.ret [(.ite (.ite (.bin .eql (.v 0) (.c (.i .i64 (6)))) (.c (.b true)) (.bin .eql (.v 0) (.c (.i .i64 (5))))) (.c (.b true)) (.bin .eql (.v 0) (.c (.i .i64 (39)))))])
theorem x_u110 : type_of% (tev_eq @Ey8.eq_1) := (tev_eq @Ey8.eq_1)
def Ey7 : T := (.w (.call none true Fq9 [(.v 0), (.v 1)] 1) (.ret [(.v 2)]))
theorem x_u111 : type_of% (tev_eq @Ey7.eq_1) := (tev_eq @Ey7.eq_1)
def Ey6 : T := (.w (.call none true Jy7 [(.v 0), (.v 1)] 1) (.ret [(.v 2)]))
theorem x_u112 : type_of% (tev_eq @Ey6.eq_1) := (tev_eq @Ey6.eq_1)
def Oj6 : T := (.w (.chk (.scal (.proj 0 (.sub 0 16 (.idx 16 (.proj 1 (.v 0)) (.v 2)))))) (.yld 1 [(.app 1 (.v 1) (.lit 1 [(.proj 0 (.sub 0 16 (.idx 16 (.proj 1 (.v 0)) (.v 2))))])), (.bin .add (.v 2) (.c (.i .i64 (1))))]))
def Nj3 : T := (.yld 1 [(.v 1), (.bin .add (.v 2) (.c (.i .i64 (1))))])
def Mw7 : T := (.ite (.ite (.ite (.bin .eql (.proj 1 (.sub 0 16 (.idx 16 (.proj 1 (.v 0)) (.v 2)))) (.c (.i .i64 (2)))) (.bin .neq (.proj 0 (.sub 0 16 (.idx 16 (.proj 1 (.v 0)) (.v 2)))) (.proj 0 (.v 0))) (.c (.b false))) (.v 3) (.c (.b false))) Oj6 Nj3)
def Mq3 : T := (.w (.chk (.fit 16 (.sub 0 16 (.idx 16 (.proj 1 (.v 0)) (.v 2))))) (.w (.call (some (.ite (.bin .eql (.proj 1 (.sub 0 16 (.idx 16 (.proj 1 (.v 0)) (.v 2)))) (.c (.i .i64 (2)))) (.bin .neq (.proj 0 (.sub 0 16 (.idx 16 (.proj 1 (.v 0)) (.v 2)))) (.proj 0 (.v 0))) (.c (.b false)))) true Dy6 [(.proj 0 (.sub 0 16 (.idx 16 (.proj 1 (.v 0)) (.v 2)))), (.proj 0 (.v 0))] 1) Mw7))
def Oq4 : T := (.ite (.bin .lss (.v 2) (.len (.proj 1 (.v 0)))) Mq3 (.yld 0 [(.v 1)]))
def Tj1 : T := .loop 1 [(.c (.l 1 [])), (.c (.i .i64 (0)))] Oq4
def Mj6 : T := (.w (.mcall Dz0 [(.v 2)]) (.ret [(.v 3)]))
def Lz0 : T := (.w (.mcall Cw3 [(.v 1), (.c (.f Bx2 []))]) Mj6)
def Ey5 : T := (.w (.chk (.fit 2 (.v 0))) (.w (.chk (.len (.proj 1 (.v 0)))) (.blk 0 Tj1 Lz0)))
theorem Eq4 : type_of% (And.intro (tev_eq @Oj6.eq_1) (And.intro (tev_eq @Nj3.eq_1) (And.intro (tev_eq @Mw7.eq_1) (And.intro (tev_eq @Mq3.eq_1) (And.intro (tev_eq @Oq4.eq_1) (And.intro (tev_eq @Mj6.eq_1) (And.intro (tev_eq @Lz0.eq_1) (tev_eq @Ey5.eq_1)))))))) := (And.intro (tev_eq @Oj6.eq_1) (And.intro (tev_eq @Nj3.eq_1) (And.intro (tev_eq @Mw7.eq_1) (And.intro (tev_eq @Mq3.eq_1) (And.intro (tev_eq @Oq4.eq_1) (And.intro (tev_eq @Mj6.eq_1) (And.intro (tev_eq @Lz0.eq_1) (tev_eq @Ey5.eq_1))))))))
def Oj5 : T := (.w (.chk (.fit 16 (.sub 0 16 (.idx 16 (.v 0) (.v 2))))) (.w (.chk (.scal (.proj 0 (.sub 0 16 (.idx 16 (.v 0) (.v 2)))))) (.yld 1 [(.app 1 (.v 1) (.lit 1 [(.proj 0 (.sub 0 16 (.idx 16 (.v 0) (.v 2))))])), (.bin .add (.v 2) (.c (.i .i64 (1))))])))
def Oq3 : T := (.ite (.bin .lss (.v 2) (.len (.v 0))) Oj5 (.yld 0 [(.v 1)]))
def Tj0 : T := .loop 1 [(.c (.l 1 [])), (.c (.i .i64 (0)))] Oq3
def Nj2 : T := (.w (.mcall Dz0 [(.v 2)]) (.ret [(.v 3)]))
def Mw6 : T := (.w (.mcall Cw3 [(.v 1), (.c (.f Bx2 []))]) Nj2)
def Ey4 : T := (.w (.chk (.len (.v 0))) (.blk 0 Tj0 Mw6))
theorem Rw8 : type_of% (And.intro (tev_eq @Oj5.eq_1) (And.intro (tev_eq @Oq3.eq_1) (And.intro (tev_eq @Nj2.eq_1) (And.intro (tev_eq @Mw6.eq_1) (tev_eq @Ey4.eq_1))))) := (And.intro (tev_eq @Oj5.eq_1) (And.intro (tev_eq @Oq3.eq_1) (And.intro (tev_eq @Nj2.eq_1) (And.intro (tev_eq @Mw6.eq_1) (tev_eq @Ey4.eq_1)))))
def Oj4 : T := (.ret [(.ite (.bin .neq (.v 0) (.proj 0 (.v 1))) (.v 2) (.c (.b false)))])
def Ey3 : T := (.w (.chk (.ite (.bin .neq (.v 0) (.proj 0 (.v 1))) (.proj 0 (.v 1)) (.c .u))) (.w (.call (some (.bin .neq (.v 0) (.proj 0 (.v 1)))) true Dy6 [(.proj 0 (.v 1)), (.v 0)] 1) Oj4))
theorem x_u115 : type_of% (And.intro (tev_eq @Oj4.eq_1) (tev_eq @Ey3.eq_1)) := (And.intro (tev_eq @Oj4.eq_1) (tev_eq @Ey3.eq_1))
def Oj3 : T := (.ret [(.bin .geq (.v 2) (.c (.i .i64 (0))))])
def Ey2 : T := (.w (.call none true Jy6 [(.v 0), (.v 1)] 1) Oj3)
theorem x_u116 : type_of% (And.intro (tev_eq @Oj3.eq_1) (tev_eq @Ey2.eq_1)) := (And.intro (tev_eq @Oj3.eq_1) (tev_eq @Ey2.eq_1))
def Oj2 : T := (.w (.call none true Dy8 [(.v 0), (.v 1)] 1) (.ret [(.v 4)]))
def Nj1 : T := (.yld 1 [(.bin .add (.v 6) (.c (.i .i64 (1))))])
def Mw5 : T := (.ite (.bin .neq (.v 7) (.c (.i .i64 (0)))) (.ret [(.v 7)]) Nj1)
def Mq2 : T := (.w (.call none true Dy8 [(.proj 0 (.idx 1 (.v 4) (.bin .sub (.len (.v 4)) (.v 6)))), (.proj 0 (.idx 1 (.v 5) (.bin .sub (.len (.v 5)) (.v 6))))] 1) Mw5)
def Ik9 : T := (.ite (.ite (.bin .leq (.v 6) (.len (.v 4))) (.bin .leq (.v 6) (.len (.v 5))) (.c (.b false))) Mq2 (.yld 0 []))
def Lj5 : T := .loop 1 [(.c (.i .i64 (1)))] Ik9
def Mj5 : T := (.ite (.bin .gtr (.len (.v 4)) (.len (.v 5))) (.ret [(.c (.i .i64 (1)))]) (.ret [(.c (.i .i64 (0)))]))
def Ly9 : T := (.ite (.bin .lss (.len (.v 4)) (.len (.v 5))) (.ret [(.c (.i .i64 (-1)))]) Mj5)
def Lx5 : T := (.blk 0 Lj5 Ly9)
def Lw4 : T := (.w (.call none false Fq8 [(.v 1)] 1) Lx5)
def Lv5 : T := (.w (.call none false Fq8 [(.v 0)] 1) Lw4)
def Lq8 : T := (.ite (.un .not (.v 2)) Oj2 Lv5)
def Ik0 : T := (.ite (.ite (.v 3) (.un .not (.v 2)) (.c (.b false))) (.ret [(.c (.i .i64 (1)))]) Lq8)
def Ij4 : T := (.ite (.ite (.v 2) (.un .not (.v 3)) (.c (.b false))) (.ret [(.c (.i .i64 (-1)))]) Ik0)
def Hz8 : T := (.w (.call none true Cq1 [(.v 1)] 1) Ij4)
def Ey1 : T := (.w (.call none true Cq1 [(.v 0)] 1) Hz8)
theorem Dv8 : type_of% (And.intro (tev_eq @Oj2.eq_1) (And.intro (tev_eq @Nj1.eq_1) (And.intro (tev_eq @Mw5.eq_1) (And.intro (tev_eq @Mq2.eq_1) (And.intro (tev_eq @Ik9.eq_1) (And.intro (tev_eq @Mj5.eq_1) (And.intro (tev_eq @Ly9.eq_1) (And.intro (tev_eq @Lx5.eq_1) (And.intro (tev_eq @Lw4.eq_1) (And.intro (tev_eq @Lv5.eq_1) (And.intro (tev_eq @Lq8.eq_1) (And.intro (tev_eq @Ik0.eq_1) (And.intro (tev_eq @Ij4.eq_1) (And.intro (tev_eq @Hz8.eq_1) (tev_eq @Ey1.eq_1))))))))))))))) := (And.intro (tev_eq @Oj2.eq_1) (And.intro (tev_eq @Nj1.eq_1) (And.intro (tev_eq @Mw5.eq_1) (And.intro (tev_eq @Mq2.eq_1) (And.intro (tev_eq @Ik9.eq_1) (And.intro (tev_eq @Mj5.eq_1) (And.intro (tev_eq @Ly9.eq_1) (And.intro (tev_eq @Lx5.eq_1) (And.intro (tev_eq @Lw4.eq_1) (And.intro (tev_eq @Lv5.eq_1) (And.intro (tev_eq @Lq8.eq_1) (And.intro (tev_eq @Ik0.eq_1) (And.intro (tev_eq @Ij4.eq_1) (And.intro (tev_eq @Hz8.eq_1) (tev_eq @Ey1.eq_1)))))))))))))))
def Oj1 : T := (.w (.chk (.idx 1 (.lsl 1 (.v 5) (.v 1) (.len (.v 5))) (.v 4))) (.w (.chk (.bin .add (.v 1) (.c (.i .i64 (0))))) (.w (.chk (.idx 1 (.v 5) (.v 3))) (.w (.chk (.scal (.proj 0 (.idx 1 (.v 5) (.bin .add (.v 1) (.v 4)))))) (.yld 3 [(.bin .add (.v 3) (.c (.i .i64 (1)))), (.bin .add (.v 4) (.c (.i .i64 (1)))), (.set 1 (.v 5) (.v 3) 0 [(.proj 0 (.idx 1 (.v 5) (.bin .add (.v 1) (.v 4))))])])))))
def Nj0 : T := (.yld 3 [(.v 3), (.bin .add (.v 4) (.c (.i .i64 (1)))), (.v 5)])
def Mw4 : T := (.w (.chk (.idx 1 (.lsl 1 (.v 5) (.v 1) (.len (.v 5))) (.v 4))) (.w (.chk (.idx 1 (.lsl 1 (.v 5) (.v 1) (.len (.v 5))) (.bin .sub (.v 4) (.c (.i .i64 (1)))))) (.w (.chk (.bin .add (.v 1) (.c (.i .i64 (0))))) (.ite (.bin .neq (.proj 0 (.idx 1 (.v 5) (.bin .add (.v 1) (.v 4)))) (.proj 0 (.idx 1 (.v 5) (.bin .add (.v 1) (.bin .sub (.v 4) (.c (.i .i64 (1)))))))) Oj1 Nj0))))
def Ik3 : T := (.ite (.bin .lss (.v 4) (.bin .sub (.len (.v 5)) (.v 1))) Mw4 (.yld 2 [(.v 3), (.v 5)]))
def Sz0 : T := .loop 3 [(.v 1), (.c (.i .i64 (1))), (.v 2)] Ik3
def Mq1 : T := (.w (.chk (.lsl 1 (.v 4) (.v 3) (.len (.v 4)))) (.ret [(.lsl 1 (.app 1 (.lsl 1 (.v 4) (.c (.i .i64 (0))) (.v 3)) (.rep 1 (.bin .sub (.len (.v 4)) (.v 3)) (.c (.s [])))) (.c (.i .i64 (0))) (.v 3))]))
def Mj4 : T := (.w (.chk (.lsl 1 (.v 2) (.v 1) (.len (.v 2)))) (.blk 2 Sz0 Mq1))
def Ly8 : T := (.yld 1 [(.bin .add (.v 1) (.c (.i .i64 (1)))), (.v 2)])
def Lx4 : T := (.ite (.bin .eql (.proj 0 (.idx 1 (.v 2) (.v 1))) (.proj 0 (.idx 1 (.v 2) (.bin .sub (.v 1) (.c (.i .i64 (1))))))) Mj4 Ly8)
def Ik8 : T := (.ite (.bin .lss (.v 1) (.len (.v 2))) Lx4 (.yld 0 [(.v 2)]))
def Sz9 : T := .loop 1 [(.c (.i .i64 (1))), (.v 0)] Ik8
def Lw3 : T := (.blk 0 Sz9 (.ret [(.v 1)]))
def Ey0 : T := (.ite (.bin .lss (.len (.v 0)) (.c (.i .i64 (2)))) (.ret [(.v 0)]) Lw3)
theorem Cq9 : type_of% (And.intro (tev_eq @Oj1.eq_1) (And.intro (tev_eq @Nj0.eq_1) (And.intro (tev_eq @Mw4.eq_1) (And.intro (tev_eq @Ik3.eq_1) (And.intro (tev_eq @Mq1.eq_1) (And.intro (tev_eq @Mj4.eq_1) (And.intro (tev_eq @Ly8.eq_1) (And.intro (tev_eq @Lx4.eq_1) (And.intro (tev_eq @Ik8.eq_1) (And.intro (tev_eq @Lw3.eq_1) (tev_eq @Ey0.eq_1))))))))))) := (And.intro (tev_eq @Oj1.eq_1) (And.intro (tev_eq @Nj0.eq_1) (And.intro (tev_eq @Mw4.eq_1) (And.intro (tev_eq @Ik3.eq_1) (And.intro (tev_eq @Mq1.eq_1) (And.intro (tev_eq @Mj4.eq_1) (And.intro (tev_eq @Ly8.eq_1) (And.intro (tev_eq @Lx4.eq_1) (And.intro (tev_eq @Ik8.eq_1) (And.intro (tev_eq @Lw3.eq_1) (tev_eq @Ey0.eq_1)))))))))))
def Oj0 : T := (.w (.chk (.idx 16 (.v 5) (.v 3))) (.w (.chk (.fit 16 (.sub 0 16 (.sub 0 16 (.idx 16 (.v 5) (.v 4)))))) (.yld 1 [(.bin .add (.v 3) (.c (.i .i64 (1)))), (.bin .add (.v 4) (.c (.i .i64 (1)))), (.set 16 (.v 5) (.v 3) 0 [(.proj 0 (.sub 0 16 (.sub 0 16 (.idx 16 (.v 5) (.v 4))))), (.proj 1 (.sub 0 16 (.sub 0 16 (.idx 16 (.v 5) (.v 4))))), (.proj 2 (.sub 0 16 (.sub 0 16 (.idx 16 (.v 5) (.v 4))))), (.proj 3 (.sub 0 16 (.sub 0 16 (.idx 16 (.v 5) (.v 4))))), (.proj 4 (.sub 0 16 (.sub 0 16 (.idx 16 (.v 5) (.v 4))))), (.proj 5 (.sub 0 16 (.sub 0 16 (.idx 16 (.v 5) (.v 4))))), (.proj 6 (.sub 0 16 (.sub 0 16 (.idx 16 (.v 5) (.v 4))))), (.proj 7 (.sub 0 16 (.sub 0 16 (.idx 16 (.v 5) (.v 4))))), (.proj 8 (.sub 0 16 (.sub 0 16 (.idx 16 (.v 5) (.v 4))))), (.proj 9 (.sub 0 16 (.sub 0 16 (.idx 16 (.v 5) (.v 4))))), (.proj 10 (.sub 0 16 (.sub 0 16 (.idx 16 (.v 5) (.v 4))))), (.proj 11 (.sub 0 16 (.sub 0 16 (.idx 16 (.v 5) (.v 4))))), (.proj 12 (.sub 0 16 (.sub 0 16 (.idx 16 (.v 5) (.v 4))))), (.proj 13 (.sub 0 16 (.sub 0 16 (.idx 16 (.v 5) (.v 4))))), (.proj 14 (.sub 0 16 (.sub 0 16 (.idx 16 (.v 5) (.v 4))))), (.proj 15 (.sub 0 16 (.sub 0 16 (.idx 16 (.v 5) (.v 4)))))])])))
def Mz9 : T := (.yld 1 [(.v 3), (.bin .add (.v 4) (.c (.i .i64 (1)))), (.v 5)])
def Mw3 : T := (.ite (.un .not (.v 6)) Oj0 Mz9)
def Mq0 : T := (.w (.chk (.fit 16 (.sub 0 16 (.idx 16 (.v 5) (.v 4))))) (.w (.clo none true (.v 1) [(.sub 0 16 (.sub 0 16 (.idx 16 (.v 5) (.v 4))))] 1) Mw3))
def Oq2 : T := (.ite (.bin .lss (.v 4) (.len (.v 5))) Mq0 (.yld 0 [(.v 3), (.v 5)]))
def Sz8 : T := .loop 1 [(.v 2), (.bin .add (.v 2) (.c (.i .i64 (1)))), (.v 0)] Oq2
def Mj3 : T := (.w (.chk (.lsl 16 (.v 4) (.v 3) (.len (.v 4)))) (.ret [(.lsl 16 (.app 16 (.lsl 16 (.v 4) (.c (.i .i64 (0))) (.v 3)) (.rep 16 (.bin .sub (.len (.v 4)) (.v 3)) (.agg [(.c (.s [])), (.c (.i .i64 (0))), (.c (.i .i64 (0))), (.c (.b false)), (.c (.i .u64 (0))), (.c (.i .u64 (0))), (.c (.s [])), (.c (.s [])), (.c (.s [])), (.c (.i .i64 (0))), (.c (.i .i64 (0))), (.c (.i .i64 (0))), (.c (.i .i64 (0))), (.c (.i .i64 (0))), (.c (.i .i64 (0))), (.c (.i .u64 (0)))]))) (.c (.i .i64 (0))) (.v 3))]))
def Ly7 : T := (.blk 0 Sz8 Mj3)
def Lx3 : T := (.ite (.bin .eql (.v 2) (.c (.i .i64 (-1)))) (.ret [(.v 0)]) Ly7)
def Ex9 : T := (.w (.call none true Qy8 [(.v 0), (.v 1)] 1) Lx3)
theorem Iv6 : type_of% (And.intro (tev_eq @Oj0.eq_1) (And.intro (tev_eq @Mz9.eq_1) (And.intro (tev_eq @Mw3.eq_1) (And.intro (tev_eq @Mq0.eq_1) (And.intro (tev_eq @Oq2.eq_1) (And.intro (tev_eq @Mj3.eq_1) (And.intro (tev_eq @Ly7.eq_1) (And.intro (tev_eq @Lx3.eq_1) (tev_eq @Ex9.eq_1))))))))) := (And.intro (tev_eq @Oj0.eq_1) (And.intro (tev_eq @Mz9.eq_1) (And.intro (tev_eq @Mw3.eq_1) (And.intro (tev_eq @Mq0.eq_1) (And.intro (tev_eq @Oq2.eq_1) (And.intro (tev_eq @Mj3.eq_1) (And.intro (tev_eq @Ly7.eq_1) (And.intro (tev_eq @Lx3.eq_1) (tev_eq @Ex9.eq_1)))))))))
def Ex8 : T := (.w (.chk (.fit 16 (.v 0))) (.ret [(.bin .neq (.proj 1 (.v 0)) (.proj 0 (.v 1)))]))
theorem x_u121 : type_of% (tev_eq @Ex8.eq_1) := (tev_eq @Ex8.eq_1)
def Nz9 : T := (.yld 1 [(.bin .add (.v 1) (.c (.i .i64 (1))))])
def Mz8 : T := (.w (.chk (.ite (.ite (.un .not (.ite (.bin .geq (.sidx (.v 0) (.v 1)) (.c (.i .u8 (97)))) (.bin .leq (.sidx (.v 0) (.v 1)) (.c (.i .u8 (122)))) (.c (.b false)))) (.bin .geq (.sidx (.v 0) (.v 1)) (.c (.i .u8 (48)))) (.c (.b false))) (.bin .leq (.sidx (.v 0) (.v 1)) (.c (.i .u8 (57)))) (.c .u))) (.ite (.un .not (.ite (.ite (.ite (.ite (.bin .geq (.sidx (.v 0) (.v 1)) (.c (.i .u8 (97)))) (.bin .leq (.sidx (.v 0) (.v 1)) (.c (.i .u8 (122)))) (.c (.b false))) (.c (.b true)) (.ite (.bin .geq (.sidx (.v 0) (.v 1)) (.c (.i .u8 (48)))) (.bin .leq (.sidx (.v 0) (.v 1)) (.c (.i .u8 (57)))) (.c (.b false)))) (.c (.b true)) (.bin .eql (.sidx (.v 0) (.v 1)) (.c (.i .u8 (45))))) (.c (.b true)) (.bin .eql (.sidx (.v 0) (.v 1)) (.c (.i .u8 (95)))))) (.ret [(.c (.b false))]) Nz9))
def Oq1 : T := (.ite (.bin .lss (.v 1) (.slen (.v 0))) Mz8 (.yld 0 []))
def Sz7 : T := .loop 1 [(.c (.i .i64 (0)))] Oq1
def Mw2 : T := (.blk 0 Sz7 (.ret [(.c (.b true))]))
def Mk9 : T := (.ite (.ite (.bin .lss (.slen (.v 0)) (.c (.i .i64 (1)))) (.c (.b true)) (.bin .gtr (.slen (.v 0)) (.c (.i .i64 (63))))) (.ret [(.c (.b false))]) Mw2)
def Ex7 : T := (.ite (.bin .eql (.v 0) (.c (.s [42]))) (.ret [(.c (.b true))]) Mk9)
theorem Rw7 : type_of% (And.intro (tev_eq @Nz9.eq_1) (And.intro (tev_eq @Mz8.eq_1) (And.intro (tev_eq @Oq1.eq_1) (And.intro (tev_eq @Mw2.eq_1) (And.intro (tev_eq @Mk9.eq_1) (tev_eq @Ex7.eq_1)))))) := (And.intro (tev_eq @Nz9.eq_1) (And.intro (tev_eq @Mz8.eq_1) (And.intro (tev_eq @Oq1.eq_1) (And.intro (tev_eq @Mw2.eq_1) (And.intro (tev_eq @Mk9.eq_1) (tev_eq @Ex7.eq_1))))))
def Nz8 : T := (.yld 3 [(.bin .add (.v 3) (.c (.i .i64 (1))))])
def Mz7 : T := (.ite (.ite (.bin .lss (.v 3) (.len (.v 1))) (.bin .lss (.v 4) (.c (.i .i64 (0)))) (.c (.b false))) Nz8 (.yld 2 [(.v 3)]))
def Ok5 : T := (.w (.chk (.ite (.bin .lss (.v 3) (.len (.v 1))) (.proj 0 (.idx 1 (.v 1) (.v 3))) (.c .u))) (.w (.chk (.ite (.bin .lss (.v 3) (.len (.v 1))) (.proj 0 (.idx 16 (.v 0) (.v 2))) (.c .u))) (.w (.call (some (.bin .lss (.v 3) (.len (.v 1)))) true Fv0 [(.proj 0 (.idx 1 (.v 1) (.v 3))), (.proj 0 (.idx 16 (.v 0) (.v 2)))] 1) Mz7)))
def Lj0 : T := .loop 3 [(.c (.i .i64 (0)))] Ok5
def Mw1 : T := (.yld 1 [(.v 1), (.bin .add (.v 2) (.c (.i .i64 (1))))])
def Mk8 : T := (.w (.chk (.scal (.proj 0 (.idx 16 (.v 0) (.v 2))))) (.yld 1 [(.app 1 (.app 1 (.app 1 (.c (.l 1 [])) (.lsl 1 (.v 1) (.c (.i .i64 (0))) (.v 3))) (.lit 1 [(.proj 0 (.idx 16 (.v 0) (.v 2)))])) (.lsl 1 (.v 1) (.v 3) (.len (.v 1)))), (.bin .add (.v 2) (.c (.i .i64 (1))))]))
def Mj2 : T := (.ite (.ite (.bin .lss (.v 3) (.len (.v 1))) (.bin .eql (.proj 0 (.idx 1 (.v 1) (.v 3))) (.proj 0 (.idx 16 (.v 0) (.v 2)))) (.c (.b false))) Mw1 Mk8)
def Ly6 : T := (.blk 2 Lj0 Mj2)
def Oq0 : T := (.ite (.bin .lss (.v 2) (.len (.v 0))) Ly6 (.yld 0 [(.v 1)]))
def Sz6 : T := .loop 1 [(.c (.l 1 [])), (.c (.i .i64 (0)))] Oq0
def Ex6 : T := (.blk 0 Sz6 (.ret [(.v 1)]))
theorem Dj4 : type_of% (And.intro (tev_eq @Nz8.eq_1) (And.intro (tev_eq @Mz7.eq_1) (And.intro (tev_eq @Ok5.eq_1) (And.intro (tev_eq @Mw1.eq_1) (And.intro (tev_eq @Mk8.eq_1) (And.intro (tev_eq @Mj2.eq_1) (And.intro (tev_eq @Ly6.eq_1) (And.intro (tev_eq @Oq0.eq_1) (tev_eq @Ex6.eq_1))))))))) := (And.intro (tev_eq @Nz8.eq_1) (And.intro (tev_eq @Mz7.eq_1) (And.intro (tev_eq @Ok5.eq_1) (And.intro (tev_eq @Mw1.eq_1) (And.intro (tev_eq @Mk8.eq_1) (And.intro (tev_eq @Mj2.eq_1) (And.intro (tev_eq @Ly6.eq_1) (And.intro (tev_eq @Oq0.eq_1) (tev_eq @Ex6.eq_1)))))))))
def Ex5 : T := (.ret [(.ite (.bin .geq (.slen (.v 0)) (.slen (.v 1))) (.bin .eql (.ssl (.v 0) (.bin .sub (.slen (.v 0)) (.slen (.v 1))) (.slen (.v 0))) (.v 1)) (.c (.b false)))])
theorem x_u124 : type_of% (tev_eq @Ex5.eq_1) := (tev_eq @Ex5.eq_1)
def Nz7 : T := (.w (.call none false Sw7 [(.v 0), (.v 3)] 1) (.ret [(.v 4)]))
def Mz6 : T := (.yld 0 [(.bin .add (.v 4) (.c (.i .i64 (1))))])
def Mw0 : T := (.w (.call none true Jy5 [(.v 0), (.v 1)] 1) Mz6)
def Mk7 : T := (.ite (.bin .lss (.v 3) (.c (.i .i64 (0)))) Mw0 (.yld 0 [(.v 3)]))
def Mj1 : T := (.yld 0 [(.v 5), (.v 6), (.v 7)])
def Ly5 : T := (.w (.chk (.idx 1 (.v 6) (.v 7))) (.w (.chk (.scal (.ssl (.v 5) (.c (.i .i64 (0))) (.bin .add (.v 8) (.v 2))))) (.yld 1 [(.ssl (.v 5) (.bin .add (.v 8) (.slen (.v 1))) (.slen (.v 5))), (.set 1 (.v 6) (.v 7) 0 [(.ssl (.v 5) (.c (.i .i64 (0))) (.bin .add (.v 8) (.v 2)))]), (.bin .add (.v 7) (.c (.i .i64 (1))))])))
def Lx2 : T := (.ite (.bin .lss (.v 8) (.c (.i .i64 (0)))) Mj1 Ly5)
def Lw2 : T := (.w (.call none true Fq7 [(.v 5), (.v 1)] 1) Lx2)
def Lv4 : T := (.yld 0 [(.v 5), (.v 6), (.v 7)])
def Ik7 : T := (.ite (.bin .lss (.v 7) (.bin .sub (.mn (.v 4) (.bin .add (.slen (.v 0)) (.c (.i .i64 (1))))) (.c (.i .i64 (1))))) Lw2 Lv4)
def Lj4 : T := .loop 1 [(.v 0), (.rep 1 (.mn (.v 4) (.bin .add (.slen (.v 0)) (.c (.i .i64 (1))))) (.c (.s []))), (.c (.i .i64 (0)))] Ik7
def Lq7 : T := (.w (.chk (.idx 1 (.v 6) (.v 7))) (.w (.chk (.scal (.v 5))) (.ret [(.lsl 1 (.set 1 (.v 6) (.v 7) 0 [(.v 5)]) (.c (.i .i64 (0))) (.bin .add (.v 7) (.c (.i .i64 (1)))))])))
def Ij9 : T := (.w (.chk (.bin .sub (.mn (.v 4) (.bin .add (.slen (.v 0)) (.c (.i .i64 (1))))) (.c (.i .i64 (1))))) (.blk 0 Lj4 Lq7))
def Ij3 : T := (.blk 0 Mk7 Ij9)
def Hz7 : T := (.ite (.bin .eql (.v 1) (.c (.s []))) Nz7 Ij3)
def Ex4 : T := (.ite (.bin .eql (.v 3) (.c (.i .i64 (0)))) (.ret [(.c (.l 1 []))]) Hz7)
theorem Rw6 : type_of% (And.intro (tev_eq @Nz7.eq_1) (And.intro (tev_eq @Mz6.eq_1) (And.intro (tev_eq @Mw0.eq_1) (And.intro (tev_eq @Mk7.eq_1) (And.intro (tev_eq @Mj1.eq_1) (And.intro (tev_eq @Ly5.eq_1) (And.intro (tev_eq @Lx2.eq_1) (And.intro (tev_eq @Lw2.eq_1) (And.intro (tev_eq @Lv4.eq_1) (And.intro (tev_eq @Ik7.eq_1) (And.intro (tev_eq @Lq7.eq_1) (And.intro (tev_eq @Ij9.eq_1) (And.intro (tev_eq @Ij3.eq_1) (And.intro (tev_eq @Hz7.eq_1) (tev_eq @Ex4.eq_1))))))))))))))) := (And.intro (tev_eq @Nz7.eq_1) (And.intro (tev_eq @Mz6.eq_1) (And.intro (tev_eq @Mw0.eq_1) (And.intro (tev_eq @Mk7.eq_1) (And.intro (tev_eq @Mj1.eq_1) (And.intro (tev_eq @Ly5.eq_1) (And.intro (tev_eq @Lx2.eq_1) (And.intro (tev_eq @Lw2.eq_1) (And.intro (tev_eq @Lv4.eq_1) (And.intro (tev_eq @Ik7.eq_1) (And.intro (tev_eq @Lq7.eq_1) (And.intro (tev_eq @Ij9.eq_1) (And.intro (tev_eq @Ij3.eq_1) (And.intro (tev_eq @Hz7.eq_1) (tev_eq @Ex4.eq_1)))))))))))))))
def Nz6 : T := (.ret [(.c (.s [78, 83]))])
def Mz5 : T := (.ret [(.c (.s [67, 78, 65, 77, 69]))])
def Mv9 : T := (.ret [(.c (.s [83, 79, 65]))])
def Mk6 : T := (.ret [(.c (.s [80, 84, 82]))])
def Mj0 : T := (.ret [(.c (.s [77, 88]))])
def Ly4 : T := (.ret [(.c (.s [84, 88, 84]))])
def Lx1 : T := (.ret [(.c (.s [65, 65, 65, 65]))])
def Lw1 : T := (.ret [(.c (.s [83, 82, 86]))])
def Lv3 : T := (.ret [(.c (.s [68, 78, 65, 77, 69]))])
def Lq6 : T := (.ret [(.c (.s [68, 83]))])
def Ij8 : T := (.ret [(.c (.s [82, 82, 83, 73, 71]))])
def Ij2 : T := (.ret [(.c (.s [78, 83, 69, 67]))])
def Hz6 : T := (.ret [(.c (.s [68, 78, 83, 75, 69, 89]))])
def Hz2 : T := (.ite (.bin .eql (.v 0) (.c (.i .i64 (48)))) Hz6 (.ret [(.c (.s []))]))
def Hy7 : T := (.ite (.bin .eql (.v 0) (.c (.i .i64 (47)))) Ij2 Hz2)
def Hy3 : T := (.ite (.bin .eql (.v 0) (.c (.i .i64 (46)))) Ij8 Hy7)
def Hx9 : T := (.ite (.bin .eql (.v 0) (.c (.i .i64 (43)))) Lq6 Hy3)
def Hx5 : T := (.ite (.bin .eql (.v 0) (.c (.i .i64 (39)))) Lv3 Hx9)
def Hx1 : T := (.ite (.bin .eql (.v 0) (.c (.i .i64 (33)))) Lw1 Hx5)
def Hw7 : T := (.ite (.bin .eql (.v 0) (.c (.i .i64 (28)))) Lx1 Hx1)
def Hw3 : T := (.ite (.bin .eql (.v 0) (.c (.i .i64 (16)))) Ly4 Hw7)
def Hv9 : T := (.ite (.bin .eql (.v 0) (.c (.i .i64 (15)))) Mj0 Hw3)
def Hv4 : T := (.ite (.bin .eql (.v 0) (.c (.i .i64 (12)))) Mk6 Hv9)
def Hq9 : T := (.ite (.bin .eql (.v 0) (.c (.i .i64 (6)))) Mv9 Hv4)
def Hq5 : T := (.ite (.bin .eql (.v 0) (.c (.i .i64 (5)))) Mz5 Hq9)
def Hq1 : T := (.ite (.bin .eql (.v 0) (.c (.i .i64 (2)))) Nz6 Hq5)
def Ex3 : T := (.ite (.bin .eql (.v 0) (.c (.i .i64 (1)))) (.ret [(.c (.s [65]))]) Hq1)
theorem x_u141 : type_of% (And.intro (tev_eq @Nz6.eq_1) (And.intro (tev_eq @Mz5.eq_1) (And.intro (tev_eq @Mv9.eq_1) (And.intro (tev_eq @Mk6.eq_1) (And.intro (tev_eq @Mj0.eq_1) (And.intro (tev_eq @Ly4.eq_1) (And.intro (tev_eq @Lx1.eq_1) (And.intro (tev_eq @Lw1.eq_1) (And.intro (tev_eq @Lv3.eq_1) (And.intro (tev_eq @Lq6.eq_1) (And.intro (tev_eq @Ij8.eq_1) (And.intro (tev_eq @Ij2.eq_1) (And.intro (tev_eq @Hz6.eq_1) (And.intro (tev_eq @Hz2.eq_1) (And.intro (tev_eq @Hy7.eq_1) (And.intro (tev_eq @Hy3.eq_1) (And.intro (tev_eq @Hx9.eq_1) (And.intro (tev_eq @Hx5.eq_1) (And.intro (tev_eq @Hx1.eq_1) (And.intro (tev_eq @Hw7.eq_1) (And.intro (tev_eq @Hw3.eq_1) (And.intro (tev_eq @Hv9.eq_1) (And.intro (tev_eq @Hv4.eq_1) (And.intro (tev_eq @Hq9.eq_1) (And.intro (tev_eq @Hq5.eq_1) (And.intro (tev_eq @Hq1.eq_1) (tev_eq @Ex3.eq_1))))))))))))))))))))))))))) := (And.intro (tev_eq @Nz6.eq_1) (And.intro (tev_eq @Mz5.eq_1) (And.intro (tev_eq @Mv9.eq_1) (And.intro (tev_eq @Mk6.eq_1) (And.intro (tev_eq @Mj0.eq_1) (And.intro (tev_eq @Ly4.eq_1) (And.intro (tev_eq @Lx1.eq_1) (And.intro (tev_eq @Lw1.eq_1) (And.intro (tev_eq @Lv3.eq_1) (And.intro (tev_eq @Lq6.eq_1) (And.intro (tev_eq @Ij8.eq_1) (And.intro (tev_eq @Ij2.eq_1) (And.intro (tev_eq @Hz6.eq_1) (And.intro (tev_eq @Hz2.eq_1) (And.intro (tev_eq @Hy7.eq_1) (And.intro (tev_eq @Hy3.eq_1) (And.intro (tev_eq @Hx9.eq_1) (And.intro (tev_eq @Hx5.eq_1) (And.intro (tev_eq @Hx1.eq_1) (And.intro (tev_eq @Hw7.eq_1) (And.intro (tev_eq @Hw3.eq_1) (And.intro (tev_eq @Hv9.eq_1) (And.intro (tev_eq @Hv4.eq_1) (And.intro (tev_eq @Hq9.eq_1) (And.intro (tev_eq @Hq5.eq_1) (And.intro (tev_eq @Hq1.eq_1) (tev_eq @Ex3.eq_1)))))))))))))))))))))))))))
def Nz5 : T := (.yld 0 [(.bin .eql (.v 0) (.c (.i .i64 (1)))), (.c (.b false)), (.c (.i .u64 (0))), (.c (.i .u64 (0))), (.c (.s [])), (.c (.s [])), (.c (.s [])), (.c (.i .i64 (0))), (.c (.i .i64 (0))), (.c (.i .i64 (0))), (.c (.i .i64 (0))), (.c (.i .i64 (0))), (.c (.i .i64 (0))), (.c (.i .u64 (0)))])
def Mz4 : T := (.yld 0 [(.bin .eql (.v 0) (.c (.i .i64 (28)))), (.c (.b false)), (.c (.i .u64 (0))), (.c (.i .u64 (0))), (.c (.s [])), (.c (.s [])), (.c (.s [])), (.c (.i .i64 (0))), (.c (.i .i64 (0))), (.c (.i .i64 (0))), (.c (.i .i64 (0))), (.c (.i .i64 (0))), (.c (.i .i64 (0))), (.c (.i .u64 (0)))])
def Mv8 : T := (.ite (.bin .eql (.v 0) (.c (.i .i64 (1)))) Nz5 Mz4)
def Mk5 : T := (.w (.chk (.fit 3 (.sub 0 3 (.v 1)))) (.ret [(.agg [(.proj 0 (.sub 0 3 (.v 1))), (.proj 1 (.sub 0 3 (.v 1))), (.proj 2 (.sub 0 3 (.v 1))), (.c (.s [])), (.c (.s [])), (.c (.s [])), (.c (.i .i64 (0))), (.c (.i .i64 (0))), (.c (.i .i64 (0))), (.c (.i .i64 (0))), (.c (.i .i64 (0))), (.c (.i .i64 (0))), (.c (.i .u64 (0)))])]))
def Lz9 : T := (.yld 1 [(.bin .eql (.v 0) (.c (.i .i64 (2)))), (.v 3), (.v 4), (.v 5), (.v 6), (.v 7), (.v 8), (.v 9), (.v 10), (.v 11), (.v 12), (.v 13), (.v 14), (.v 15)])
def Ly3 : T := (.yld 2 [(.bin .eql (.v 0) (.c (.i .i64 (5)))), (.v 3), (.v 4), (.v 5), (.v 6), (.v 7), (.v 8), (.v 9), (.v 10), (.v 11), (.v 12), (.v 13), (.v 14), (.v 15)])
def Lx0 : T := (.yld 3 [(.bin .eql (.v 0) (.c (.i .i64 (12)))), (.v 3), (.v 4), (.v 5), (.v 6), (.v 7), (.v 8), (.v 9), (.v 10), (.v 11), (.v 12), (.v 13), (.v 14), (.v 15)])
def Lw0 : T := (.yld 3 [(.bin .eql (.v 0) (.c (.i .i64 (39)))), (.v 3), (.v 4), (.v 5), (.v 6), (.v 7), (.v 8), (.v 9), (.v 10), (.v 11), (.v 12), (.v 13), (.v 14), (.v 15)])
def Lv2 : T := (.ite (.bin .eql (.v 0) (.c (.i .i64 (12)))) Lx0 Lw0)
def Lq5 : T := (.yld 2 [(.v 16), (.v 17), (.v 18), (.v 19), (.v 20), (.v 21), (.v 22), (.v 23), (.v 24), (.v 25), (.v 26), (.v 27), (.v 28), (.v 29)])
def Ij7 : T := (.blk 3 Lv2 Lq5)
def Ij1 : T := (.ite (.bin .eql (.v 0) (.c (.i .i64 (5)))) Ly3 Ij7)
def Hz5 : T := (.yld 1 [(.v 16), (.v 17), (.v 18), (.v 19), (.v 20), (.v 21), (.v 22), (.v 23), (.v 24), (.v 25), (.v 26), (.v 27), (.v 28), (.v 29)])
def Hz1 : T := (.blk 2 Ij1 Hz5)
def Hy6 : T := (.ite (.bin .eql (.v 0) (.c (.i .i64 (2)))) Lz9 Hz1)
def Hy2 : T := (.w (.chk (.scal (.proj 3 (.v 1)))) (.ret [(.agg [(.c (.b false)), (.c (.i .u64 (0))), (.c (.i .u64 (0))), (.proj 3 (.v 1)), (.c (.s [])), (.c (.s [])), (.c (.i .i64 (0))), (.c (.i .i64 (0))), (.c (.i .i64 (0))), (.c (.i .i64 (0))), (.c (.i .i64 (0))), (.c (.i .i64 (0))), (.c (.i .u64 (0)))])]))
def Hx8 : T := (.w (.chk (.scal (.proj 3 (.v 1)))) (.w (.chk (.scal (.proj 4 (.v 1)))) (.w (.chk (.scal (.proj 6 (.v 1)))) (.w (.chk (.scal (.proj 7 (.v 1)))) (.w (.chk (.scal (.proj 8 (.v 1)))) (.w (.chk (.scal (.proj 9 (.v 1)))) (.w (.chk (.scal (.proj 10 (.v 1)))) (.ret [(.agg [(.c (.b false)), (.c (.i .u64 (0))), (.c (.i .u64 (0))), (.proj 3 (.v 1)), (.proj 4 (.v 1)), (.c (.s [])), (.proj 6 (.v 1)), (.proj 7 (.v 1)), (.proj 8 (.v 1)), (.proj 9 (.v 1)), (.proj 10 (.v 1)), (.c (.i .i64 (0))), (.c (.i .u64 (0)))])]))))))))
def Hx4 : T := (.w (.chk (.scal (.proj 6 (.v 1)))) (.w (.chk (.scal (.proj 3 (.v 1)))) (.ret [(.agg [(.c (.b false)), (.c (.i .u64 (0))), (.c (.i .u64 (0))), (.proj 3 (.v 1)), (.c (.s [])), (.c (.s [])), (.proj 6 (.v 1)), (.c (.i .i64 (0))), (.c (.i .i64 (0))), (.c (.i .i64 (0))), (.c (.i .i64 (0))), (.c (.i .i64 (0))), (.c (.i .u64 (0)))])])))
def Hx0 : T := (.w (.chk (.scal (.proj 5 (.v 1)))) (.ret [(.agg [(.c (.b false)), (.c (.i .u64 (0))), (.c (.i .u64 (0))), (.c (.s [])), (.c (.s [])), (.proj 5 (.v 1)), (.c (.i .i64 (0))), (.c (.i .i64 (0))), (.c (.i .i64 (0))), (.c (.i .i64 (0))), (.c (.i .i64 (0))), (.c (.i .i64 (0))), (.c (.i .u64 (0)))])]))
def Hw6 : T := (.w (.chk (.scal (.proj 6 (.v 1)))) (.w (.chk (.scal (.proj 7 (.v 1)))) (.w (.chk (.scal (.proj 8 (.v 1)))) (.w (.chk (.scal (.proj 3 (.v 1)))) (.ret [(.agg [(.c (.b false)), (.c (.i .u64 (0))), (.c (.i .u64 (0))), (.proj 3 (.v 1)), (.c (.s [])), (.c (.s [])), (.proj 6 (.v 1)), (.proj 7 (.v 1)), (.proj 8 (.v 1)), (.c (.i .i64 (0))), (.c (.i .i64 (0))), (.c (.i .i64 (0))), (.c (.i .u64 (0)))])])))))
def Hw2 : T := (.yld 2 [(.bin .eql (.v 0) (.c (.i .i64 (43)))), (.v 17), (.v 18), (.v 19), (.v 20), (.v 21), (.v 22), (.v 23), (.v 24), (.v 25), (.v 26), (.v 27), (.v 28), (.v 29)])
def Hv8 : T := (.yld 2 [(.bin .eql (.v 0) (.c (.i .i64 (48)))), (.v 17), (.v 18), (.v 19), (.v 20), (.v 21), (.v 22), (.v 23), (.v 24), (.v 25), (.v 26), (.v 27), (.v 28), (.v 29)])
def Hv3 : T := (.ite (.bin .eql (.v 0) (.c (.i .i64 (43)))) Hw2 Hv8)
def Hq8 : T := (.w (.chk (.scal (.proj 6 (.v 1)))) (.w (.chk (.scal (.proj 7 (.v 1)))) (.w (.chk (.scal (.proj 8 (.v 1)))) (.w (.chk (.scal (.proj 5 (.v 1)))) (.ret [(.agg [(.c (.b false)), (.c (.i .u64 (0))), (.c (.i .u64 (0))), (.c (.s [])), (.c (.s [])), (.proj 5 (.v 1)), (.proj 6 (.v 1)), (.proj 7 (.v 1)), (.proj 8 (.v 1)), (.c (.i .i64 (0))), (.c (.i .i64 (0))), (.c (.i .i64 (0))), (.c (.i .u64 (0)))])])))))
def Hq4 : T := (.w (.chk (.scal (.proj 6 (.v 1)))) (.w (.chk (.scal (.proj 7 (.v 1)))) (.w (.chk (.scal (.proj 8 (.v 1)))) (.w (.chk (.scal (.proj 9 (.v 1)))) (.w (.chk (.scal (.proj 10 (.v 1)))) (.w (.chk (.scal (.proj 11 (.v 1)))) (.w (.chk (.scal (.proj 3 (.v 1)))) (.w (.chk (.scal (.proj 5 (.v 1)))) (.ret [(.agg [(.c (.b false)), (.c (.i .u64 (0))), (.c (.i .u64 (0))), (.proj 3 (.v 1)), (.c (.s [])), (.proj 5 (.v 1)), (.proj 6 (.v 1)), (.proj 7 (.v 1)), (.proj 8 (.v 1)), (.proj 9 (.v 1)), (.proj 10 (.v 1)), (.proj 11 (.v 1)), (.c (.i .u64 (0)))])])))))))))
def Hq0 : T := (.yld 2 [(.v 30), (.v 31), (.v 32), (.v 33), (.v 34), (.v 35), (.v 36), (.v 37), (.v 38), (.v 39), (.v 40), (.v 41), (.v 42), (.v 43)])
def Hk7 : T := (.ite (.bin .eql (.v 0) (.c (.i .i64 (46)))) Hq4 Hq0)
def Hk4 : T := (.ite (.v 30) Hq8 Hk7)
def Hk1 : T := (.yld 1 [(.v 16), (.v 45), (.v 46), (.v 47), (.v 48), (.v 49), (.v 50), (.v 51), (.v 52), (.v 53), (.v 54), (.v 55), (.v 56), (.v 57)])
def Hj8 : T := (.blk 2 Hk4 Hk1)
def Hj5 : T := (.blk 2 Hv3 Hj8)
def Hj2 : T := (.ite (.bin .eql (.v 0) (.c (.i .i64 (33)))) Hw6 Hj5)
def Gz9 : T := (.ite (.bin .eql (.v 0) (.c (.i .i64 (16)))) Hx0 Hj2)
def Gz6 : T := (.ite (.bin .eql (.v 0) (.c (.i .i64 (15)))) Hx4 Gz9)
def Gz3 : T := (.ite (.bin .eql (.v 0) (.c (.i .i64 (6)))) Hx8 Gz6)
def Gz0 : T := (.ite (.v 16) Hy2 Gz3)
def Gy7 : T := (.yld 0 [(.v 2), (.v 31), (.v 32), (.v 33), (.v 34), (.v 35), (.v 36), (.v 37), (.v 38), (.v 39), (.v 40), (.v 41), (.v 42), (.v 43)])
def Gy4 : T := (.blk 1 Gz0 Gy7)
def Gy1 : T := (.blk 1 Hy6 Gy4)
def Gx8 : T := (.ite (.v 2) Mk5 Gy1)
def Gx5 : T := (.w (.chk (.scal (.proj 3 (.v 1)))) (.w (.chk (.scal (.proj 12 (.v 1)))) (.ret [(.agg [(.c (.b false)), (.c (.i .u64 (0))), (.c (.i .u64 (0))), (.proj 3 (.v 1)), (.c (.s [])), (.c (.s [])), (.c (.i .i64 (0))), (.c (.i .i64 (0))), (.c (.i .i64 (0))), (.c (.i .i64 (0))), (.c (.i .i64 (0))), (.c (.i .i64 (0))), (.proj 12 (.v 1))])])))
def Gx2 : T := (.blk 0 Gx8 Gx5)
def Ex2 : T := (.w (.chk (.fit 13 (.v 1))) (.blk 0 Mv8 Gx2))
theorem x_u142 : type_of% (And.intro (tev_eq @Nz5.eq_1) (And.intro (tev_eq @Mz4.eq_1) (And.intro (tev_eq @Mv8.eq_1) (And.intro (tev_eq @Mk5.eq_1) (And.intro (tev_eq @Lz9.eq_1) (And.intro (tev_eq @Ly3.eq_1) (And.intro (tev_eq @Lx0.eq_1) (And.intro (tev_eq @Lw0.eq_1) (And.intro (tev_eq @Lv2.eq_1) (And.intro (tev_eq @Lq5.eq_1) (And.intro (tev_eq @Ij7.eq_1) (And.intro (tev_eq @Ij1.eq_1) (And.intro (tev_eq @Hz5.eq_1) (And.intro (tev_eq @Hz1.eq_1) (And.intro (tev_eq @Hy6.eq_1) (And.intro (tev_eq @Hy2.eq_1) (And.intro (tev_eq @Hx8.eq_1) (And.intro (tev_eq @Hx4.eq_1) (And.intro (tev_eq @Hx0.eq_1) (And.intro (tev_eq @Hw6.eq_1) (And.intro (tev_eq @Hw2.eq_1) (And.intro (tev_eq @Hv8.eq_1) (And.intro (tev_eq @Hv3.eq_1) (And.intro (tev_eq @Hq8.eq_1) (And.intro (tev_eq @Hq4.eq_1) (And.intro (tev_eq @Hq0.eq_1) (And.intro (tev_eq @Hk7.eq_1) (And.intro (tev_eq @Hk4.eq_1) (And.intro (tev_eq @Hk1.eq_1) (And.intro (tev_eq @Hj8.eq_1) (And.intro (tev_eq @Hj5.eq_1) (And.intro (tev_eq @Hj2.eq_1) (And.intro (tev_eq @Gz9.eq_1) (And.intro (tev_eq @Gz6.eq_1) (And.intro (tev_eq @Gz3.eq_1) (And.intro (tev_eq @Gz0.eq_1) (And.intro (tev_eq @Gy7.eq_1) (And.intro (tev_eq @Gy4.eq_1) (And.intro (tev_eq @Gy1.eq_1) (And.intro (tev_eq @Gx8.eq_1) (And.intro (tev_eq @Gx5.eq_1) (And.intro (tev_eq @Gx2.eq_1) (tev_eq @Ex2.eq_1))))))))))))))))))))))))))))))))))))))))))) := (And.intro (tev_eq @Nz5.eq_1) (And.intro (tev_eq @Mz4.eq_1) (And.intro (tev_eq @Mv8.eq_1) (And.intro (tev_eq @Mk5.eq_1) (And.intro (tev_eq @Lz9.eq_1) (And.intro (tev_eq @Ly3.eq_1) (And.intro (tev_eq @Lx0.eq_1) (And.intro (tev_eq @Lw0.eq_1) (And.intro (tev_eq @Lv2.eq_1) (And.intro (tev_eq @Lq5.eq_1) (And.intro (tev_eq @Ij7.eq_1) (And.intro (tev_eq @Ij1.eq_1) (And.intro (tev_eq @Hz5.eq_1) (And.intro (tev_eq @Hz1.eq_1) (And.intro (tev_eq @Hy6.eq_1) (And.intro (tev_eq @Hy2.eq_1) (And.intro (tev_eq @Hx8.eq_1) (And.intro (tev_eq @Hx4.eq_1) (And.intro (tev_eq @Hx0.eq_1) (And.intro (tev_eq @Hw6.eq_1) (And.intro (tev_eq @Hw2.eq_1) (And.intro (tev_eq @Hv8.eq_1) (And.intro (tev_eq @Hv3.eq_1) (And.intro (tev_eq @Hq8.eq_1) (And.intro (tev_eq @Hq4.eq_1) (And.intro (tev_eq @Hq0.eq_1) (And.intro (tev_eq @Hk7.eq_1) (And.intro (tev_eq @Hk4.eq_1) (And.intro (tev_eq @Hk1.eq_1) (And.intro (tev_eq @Hj8.eq_1) (And.intro (tev_eq @Hj5.eq_1) (And.intro (tev_eq @Hj2.eq_1) (And.intro (tev_eq @Gz9.eq_1) (And.intro (tev_eq @Gz6.eq_1) (And.intro (tev_eq @Gz3.eq_1) (And.intro (tev_eq @Gz0.eq_1) (And.intro (tev_eq @Gy7.eq_1) (And.intro (tev_eq @Gy4.eq_1) (And.intro (tev_eq @Gy1.eq_1) (And.intro (tev_eq @Gx8.eq_1) (And.intro (tev_eq @Gx5.eq_1) (And.intro (tev_eq @Gx2.eq_1) (tev_eq @Ex2.eq_1)))))))))))))))))))))))))))))))))))))))))))
def Ex1 : T := (.w (.chk (.fit 3 (.v 0))) (.w (.chk (.ite (.ite (.un .not (.proj 0 (.v 0))) (.bin .eql (.proj 1 (.v 0)) (.c (.i .u64 (0)))) (.c (.b false))) (.bin .lss (.proj 2 (.v 0)) (.c (.i .u64 (4294967296)))) (.c .u))) (.ret [(.ite (.proj 0 (.v 0)) (.c (.b true)) (.ite (.bin .eql (.proj 1 (.v 0)) (.c (.i .u64 (0)))) (.bin .lss (.proj 2 (.v 0)) (.c (.i .u64 (4294967296)))) (.c (.b false))))])))
theorem x_u143 : type_of% (tev_eq @Ex1.eq_1) := (tev_eq @Ex1.eq_1)
def Nz4 : T := (.ret [(.ite (.v 1) (.bin .neq (.sidx (.v 0) (.c (.i .i64 (0)))) (.c (.i .u8 (42)))) (.c (.b false)))])
def Ex0 : T := (.w (.call none true Eq1 [(.v 0)] 1) Nz4)
theorem x_u144 : type_of% (And.intro (tev_eq @Nz4.eq_1) (tev_eq @Ex0.eq_1)) := (And.intro (tev_eq @Nz4.eq_1) (tev_eq @Ex0.eq_1))
def Ew9 : T := (.ret [(.ite (.bin .geq (.v 0) (.c (.i .i64 (0)))) (.bin .lss (.v 0) (.c (.i .i64 (4294967296)))) (.c (.b false)))])
theorem x_u145 : type_of% (tev_eq @Ew9.eq_1) := (tev_eq @Ew9.eq_1)
def Ew8 : T := (.ret [(.ite (.bin .geq (.v 0) (.c (.i .i64 (0)))) (.bin .leq (.v 0) (.v 1)) (.c (.b false)))])
theorem x_u146 : type_of% (tev_eq @Ew8.eq_1) := (tev_eq @Ew8.eq_1)
def Ew7 : T := (.ret [(.ite (.bin .geq (.slen (.v 0)) (.c (.i .i64 (1)))) (.bin .leq (.slen (.v 0)) (.c (.i .i64 (255)))) (.c (.b false)))])
theorem x_u147 : type_of% (tev_eq @Ew7.eq_1) := (tev_eq @Ew7.eq_1)
def Nz3 : T := (.yld 1 [(.bin .add (.v 1) (.c (.i .i64 (1))))])
def Mz3 : T := (.ite (.ite (.bin .eql (.bin .and (.bin .shr (.v 0) (.conv .u64 (.v 1))) (.c (.i .u64 (1)))) (.c (.i .u64 (1)))) (.un .not (.v 2)) (.c (.b false))) (.ret [(.c (.b false))]) Nz3)
def Mv7 : T := (.w (.call (some (.bin .eql (.bin .and (.bin .shr (.v 0) (.conv .u64 (.v 1))) (.c (.i .u64 (1)))) (.c (.i .u64 (1))))) true Cw4 [(.v 1)] 1) Mz3)
def Ok9 : T := (.ite (.bin .lss (.v 1) (.c (.i .i64 (64)))) Mv7 (.yld 0 []))
def Sz5 : T := .loop 1 [(.c (.i .i64 (0)))] Ok9
def Ew6 : T := (.blk 0 Sz5 (.ret [(.c (.b true))]))
theorem Rw5 : type_of% (And.intro (tev_eq @Nz3.eq_1) (And.intro (tev_eq @Mz3.eq_1) (And.intro (tev_eq @Mv7.eq_1) (And.intro (tev_eq @Ok9.eq_1) (tev_eq @Ew6.eq_1))))) := (And.intro (tev_eq @Nz3.eq_1) (And.intro (tev_eq @Mz3.eq_1) (And.intro (tev_eq @Mv7.eq_1) (And.intro (tev_eq @Ok9.eq_1) (tev_eq @Ew6.eq_1)))))
def Nz2 : T := (.w (.call none true Fq6 [(.v 0), (.v 1)] 1) (.ret [(.v 6)]))
def Mz2 : T := (.ite (.v 5) (.ret [(.c (.i .i64 (1)))]) Nz2)
def Mv6 : T := (.ite (.v 3) (.ret [(.c (.i .i64 (-1)))]) Mz2)
def Mk4 : T := (.w (.call none true Fq6 [(.proj 0 (.idx 1 (.v 2) (.bin .sub (.bin .sub (.len (.v 2)) (.c (.i .i64 (1)))) (.v 6)))), (.proj 0 (.idx 1 (.v 4) (.bin .sub (.bin .sub (.len (.v 4)) (.c (.i .i64 (1)))) (.v 6))))] 1) (.ret [(.v 7)]))
def Lz8 : T := (.ite (.bin .gtr (.len (.v 2)) (.len (.v 4))) (.ret [(.c (.i .i64 (1)))]) (.ret [(.c (.i .i64 (0)))]))
def Ly2 : T := (.ite (.bin .lss (.len (.v 2)) (.len (.v 4))) (.ret [(.c (.i .i64 (-1)))]) Lz8)
def Lw9 : T := (.ite (.ite (.bin .lss (.v 6) (.len (.v 2))) (.bin .lss (.v 6) (.len (.v 4))) (.c (.b false))) Mk4 Ly2)
def Lv9 : T := (.w (.call none true Qz4 [(.v 2), (.v 4)] 1) Lw9)
def Lv1 : T := (.ite (.ite (.un .not (.v 3)) (.c (.b true)) (.un .not (.v 5))) Mv6 Lv9)
def Lq4 : T := (.w (.call none false Cq0 [(.v 1)] 2) Lv1)
def Ew5 : T := (.w (.call none false Cq0 [(.v 0)] 2) Lq4)
theorem Iv5 : type_of% (And.intro (tev_eq @Nz2.eq_1) (And.intro (tev_eq @Mz2.eq_1) (And.intro (tev_eq @Mv6.eq_1) (And.intro (tev_eq @Mk4.eq_1) (And.intro (tev_eq @Lz8.eq_1) (And.intro (tev_eq @Ly2.eq_1) (And.intro (tev_eq @Lw9.eq_1) (And.intro (tev_eq @Lv9.eq_1) (And.intro (tev_eq @Lv1.eq_1) (And.intro (tev_eq @Lq4.eq_1) (tev_eq @Ew5.eq_1))))))))))) := (And.intro (tev_eq @Nz2.eq_1) (And.intro (tev_eq @Mz2.eq_1) (And.intro (tev_eq @Mv6.eq_1) (And.intro (tev_eq @Mk4.eq_1) (And.intro (tev_eq @Lz8.eq_1) (And.intro (tev_eq @Ly2.eq_1) (And.intro (tev_eq @Lw9.eq_1) (And.intro (tev_eq @Lv9.eq_1) (And.intro (tev_eq @Lv1.eq_1) (And.intro (tev_eq @Lq4.eq_1) (tev_eq @Ew5.eq_1)))))))))))
def Nz1 : T := (.ite (.bin .gtr (.v 0) (.v 1)) (.ret [(.c (.i .i64 (1)))]) (.ret [(.c (.i .i64 (0)))]))
def Ew4 : T := (.ite (.bin .lss (.v 0) (.v 1)) (.ret [(.c (.i .i64 (-1)))]) Nz1)
theorem x_u150 : type_of% (And.intro (tev_eq @Nz1.eq_1) (tev_eq @Ew4.eq_1)) := (And.intro (tev_eq @Nz1.eq_1) (tev_eq @Ew4.eq_1))
def Nz0 : T := (.ite (.bin .eql (.v 6) (.c (.i .i64 (0)))) (.ret [(.c (.i .i64 (1)))]) (.ret [(.c (.i .i64 (0)))]))
def Mz1 : T := (.ite (.bin .eql (.v 4) (.c (.i .i64 (0)))) (.ret [(.c (.i .i64 (-1)))]) Nz0)
def Mv5 : T := (.ite (.bin .gtr (.v 3) (.v 5)) (.ret [(.c (.i .i64 (1)))]) (.ret [(.c (.i .i64 (0)))]))
def Mk3 : T := (.ite (.bin .lss (.v 3) (.v 5)) (.ret [(.c (.i .i64 (-1)))]) Mv5)
def Lz7 : T := (.ite (.ite (.bin .neq (.v 4) (.c (.i .i64 (0)))) (.c (.b true)) (.bin .neq (.v 6) (.c (.i .i64 (0))))) Mz1 Mk3)
def Ly1 : T := (.w (.call none true Fq5 [(.v 0), (.sub 0 13 (.v 2))] 2) Lz7)
def Ew3 : T := (.w (.chk (.fit 13 (.v 1))) (.w (.chk (.fit 13 (.v 2))) (.w (.call none true Fq5 [(.v 0), (.sub 0 13 (.v 1))] 2) Ly1)))
theorem x_u151 : type_of% (And.intro (tev_eq @Nz0.eq_1) (And.intro (tev_eq @Mz1.eq_1) (And.intro (tev_eq @Mv5.eq_1) (And.intro (tev_eq @Mk3.eq_1) (And.intro (tev_eq @Lz7.eq_1) (And.intro (tev_eq @Ly1.eq_1) (tev_eq @Ew3.eq_1))))))) := (And.intro (tev_eq @Nz0.eq_1) (And.intro (tev_eq @Mz1.eq_1) (And.intro (tev_eq @Mv5.eq_1) (And.intro (tev_eq @Mk3.eq_1) (And.intro (tev_eq @Lz7.eq_1) (And.intro (tev_eq @Ly1.eq_1) (tev_eq @Ew3.eq_1)))))))
def Ew2 : T := (.w (.call none true Oz6 [(.v 0), (.v 1)] 1) (.ret [(.v 2)]))
theorem x_u152 : type_of% (tev_eq @Ew2.eq_1) := (tev_eq @Ew2.eq_1)
def Ny9 : T := (.ret [(.ssl (.v 0) (.c (.i .i64 (0))) (.bin .sub (.slen (.v 0)) (.slen (.v 1))))])
def Mz0 : T := (.ite (.v 2) Ny9 (.ret [(.v 0)]))
def Ew1 : T := (.w (.call none true Fv2 [(.v 0), (.v 1)] 1) Mz0)
theorem x_u153 : type_of% (And.intro (tev_eq @Ny9.eq_1) (And.intro (tev_eq @Mz0.eq_1) (tev_eq @Ew1.eq_1))) := (And.intro (tev_eq @Ny9.eq_1) (And.intro (tev_eq @Mz0.eq_1) (tev_eq @Ew1.eq_1)))
def Ny8 : T := (.yld 1 [(.bin .add (.v 2) (.c (.i .i64 (1))))])
def My9 : T := (.ite (.v 3) (.ret [(.v 2)]) Ny8)
def Mv4 : T := (.w (.clo none true (.v 1) [(.proj 0 (.idx 1 (.v 0) (.v 2)))] 1) My9)
def Ok8 : T := (.ite (.bin .lss (.v 2) (.len (.v 0))) Mv4 (.yld 0 []))
def Sz4 : T := .loop 1 [(.c (.i .i64 (0)))] Ok8
def Ew0 : T := (.w (.chk (.len (.v 0))) (.blk 0 Sz4 (.ret [(.c (.i .i64 (-1)))])))
theorem Iv4 : type_of% (And.intro (tev_eq @Ny8.eq_1) (And.intro (tev_eq @My9.eq_1) (And.intro (tev_eq @Mv4.eq_1) (And.intro (tev_eq @Ok8.eq_1) (tev_eq @Ew0.eq_1))))) := (And.intro (tev_eq @Ny8.eq_1) (And.intro (tev_eq @My9.eq_1) (And.intro (tev_eq @Mv4.eq_1) (And.intro (tev_eq @Ok8.eq_1) (tev_eq @Ew0.eq_1)))))
def Ev9 : T := (.w (.call none true Jy4 [(.v 0), (.v 1)] 1) (.ret [(.v 2)]))
theorem x_u156 : type_of% (tev_eq @Ev9.eq_1) := (tev_eq @Ev9.eq_1)
def Ny7 : T := (.w (.call none false Qy9 [(.ssl (.v 0) (.c (.i .i64 (0))) (.bin .sub (.slen (.v 0)) (.c (.i .i64 (1))))), (.c (.s [46]))] 1) (.ret [(.v 2)]))
def My8 : T := (.ite (.ite (.bin .eql (.v 0) (.c (.s [46]))) (.c (.b true)) (.un .not (.v 1))) (.ret [(.c (.l 1 []))]) Ny7)
def Ev8 : T := (.w (.call (some (.un .not (.bin .eql (.v 0) (.c (.s [46]))))) true Cq1 [(.v 0)] 1) My8)
theorem Rw4 : type_of% (And.intro (tev_eq @Ny7.eq_1) (And.intro (tev_eq @My8.eq_1) (tev_eq @Ev8.eq_1))) := (And.intro (tev_eq @Ny7.eq_1) (And.intro (tev_eq @My8.eq_1) (tev_eq @Ev8.eq_1)))
def c0_u158 : T := (.ite (.ite (.bin .lss (.v 1) (.c (.i .i64 (0)))) (.c (.b true)) (.bin .gtr (.v 1) (.v 2))) (.yld 0 [(.v 2)]) (.yld 0 [(.v 1)]))
def c1_u158 : T := (.w (.chk (.idx 1 (.v 5) (.v 6))) (.w (.chk (.scal (.ssl (.v 4) (.c (.i .i64 (0))) (.v 8)))) (.yld 1 [(.ssl (.v 4) (.v 8) (.slen (.v 4))), (.set 1 (.v 5) (.v 6) 0 [(.ssl (.v 4) (.c (.i .i64 (0))) (.v 8))]), (.bin .add (.v 6) (.c (.i .i64 (1))))])))
def c2_u158 : T := (.w (.call none true Sw5 [(.v 4)] 2) c1_u158)
def b0_u158 : T := (.ite (.bin .lss (.v 6) (.bin .sub (.v 3) (.c (.i .i64 (1))))) c2_u158 (.yld 0 [(.v 4), (.v 5)]))
def l0_u158 : T := .loop 1 [(.v 0), (.rep 1 (.v 3) (.c (.s []))), (.c (.i .i64 (0)))] b0_u158
def c3_u158 : T := (.w (.chk (.idx 1 (.v 5) (.bin .sub (.v 3) (.c (.i .i64 (1)))))) (.w (.chk (.scal (.v 4))) (.ret [(.set 1 (.v 5) (.bin .sub (.v 3) (.c (.i .i64 (1)))) 0 [(.v 4)])])))
def c4_u158 : T := (.ite (.bin .gtr (.v 3) (.c (.i .i64 (0)))) c3_u158 (.ret [(.v 5)]))
def c5_u158 : T := (.blk 0 l0_u158 c4_u158)
def c6_u158 : T := (.blk 0 c0_u158 c5_u158)
def t_u158 : T := (.w (.call none true Oz5 [(.v 0)] 1) c6_u158)
def Ny6 : T := (.ret [(.bin .add (.v 2) (.c (.i .i64 (1))))])
def My7 : T := (.w (.call none true Oz5 [(.v 0)] 1) Ny6)
def Mv3 : T := (.w (.call none true Oz4 [(.v 0), (.sidx (.v 1) (.c (.i .i64 (0))))] 1) (.ret [(.v 2)]))
def Mk2 : T := (.yld 1 [(.ssl (.v 2) (.bin .add (.v 4) (.slen (.v 1))) (.slen (.v 2))), (.bin .add (.v 3) (.c (.i .i64 (1))))])
def Lz6 : T := (.ite (.bin .eql (.v 4) (.c (.i .i64 (-1)))) (.ret [(.v 3)]) Mk2)
def Ok7 : T := (.w (.call none true Fq7 [(.v 2), (.v 1)] 1) Lz6)
def l0_u159 : T := .loop 1 [(.v 0), (.c (.i .i64 (0)))] Ok7
def Ly0 : T := (.blk 0 l0_u159 (.ret [(.c .u)]))
def Lw8 : T := (.ite (.bin .eql (.slen (.v 1)) (.c (.i .i64 (1)))) Mv3 Ly0)
def Ev7 : T := (.ite (.bin .eql (.slen (.v 1)) (.c (.i .i64 (0)))) My7 Lw8)
theorem x_u159 : type_of% (And.intro (tev_eq @Ny6.eq_1) (And.intro (tev_eq @My7.eq_1) (And.intro (tev_eq @Mv3.eq_1) (And.intro (tev_eq @Mk2.eq_1) (And.intro (tev_eq @Lz6.eq_1) (And.intro (tev_eq @Ok7.eq_1) (And.intro (tev_eq @Ly0.eq_1) (And.intro (tev_eq @Lw8.eq_1) (tev_eq @Ev7.eq_1))))))))) := (And.intro (tev_eq @Ny6.eq_1) (And.intro (tev_eq @My7.eq_1) (And.intro (tev_eq @Mv3.eq_1) (And.intro (tev_eq @Mk2.eq_1) (And.intro (tev_eq @Lz6.eq_1) (And.intro (tev_eq @Ok7.eq_1) (And.intro (tev_eq @Ly0.eq_1) (And.intro (tev_eq @Lw8.eq_1) (tev_eq @Ev7.eq_1)))))))))
def Ev6 : T := (.w (.call none true Jy3 [(.v 0), (.v 1)] 1) (.ret [(.v 2)]))
theorem x_u160 : type_of% (tev_eq @Ev6.eq_1) := (tev_eq @Ev6.eq_1)
def Ny5 : T := (.ite (.bin .gtr (.v 0) (.v 1)) (.ret [(.c (.i .i64 (1)))]) (.ret [(.c (.i .i64 (0)))]))
def Ev5 : T := (.ite (.bin .lss (.v 0) (.v 1)) (.ret [(.c (.i .i64 (-1)))]) Ny5)
theorem x_u178 : type_of% (And.intro (tev_eq @Ny5.eq_1) (tev_eq @Ev5.eq_1)) := (And.intro (tev_eq @Ny5.eq_1) (tev_eq @Ev5.eq_1))
def Ny4 : T := (.ret [(.c (.s [])), (.c (.i .i64 (4)))])
def My6 : T := (.ret [(.c (.s [])), (.c (.i .i64 (5)))])
def Mv2 : T := (.yld 0 [(.bin .eql (.v 0) (.c (.i .i64 (1))))])
def Mk1 : T := (.yld 0 [(.bin .eql (.v 0) (.c (.i .i64 (28))))])
def Lz5 : T := (.ite (.bin .eql (.v 0) (.c (.i .i64 (1)))) Mv2 Mk1)
def Lx9 : T := (.w (.call none true Jy2 [(.sub 0 3 (.v 1))] 2) (.ret [(.v 5), (.v 6)]))
def Lw7 : T := (.ret [(.bin .add (.bin .add (.bin .add (.bin .add (.bin .add (.bin .add (.v 5) (.v 6)) (.v 7)) (.v 8)) (.v 9)) (.v 10)) (.v 11)), (.c (.i .i64 (0)))])
def Lv8 : T := (.w (.chk (.bin .add (.bin .add (.bin .add (.bin .add (.bin .add (.v 5) (.v 6)) (.v 7)) (.v 8)) (.v 9)) (.v 10))) (.w (.call none true Aq8 [(.proj 10 (.v 1)), (.c (.i .i64 (4)))] 1) Lw7))
def Lv0 : T := (.w (.chk (.bin .add (.bin .add (.bin .add (.bin .add (.v 5) (.v 6)) (.v 7)) (.v 8)) (.v 9))) (.w (.call none true Aq8 [(.proj 9 (.v 1)), (.c (.i .i64 (4)))] 1) Lv8))
def Lq3 : T := (.w (.chk (.bin .add (.bin .add (.bin .add (.v 5) (.v 6)) (.v 7)) (.v 8))) (.w (.call none true Aq8 [(.proj 8 (.v 1)), (.c (.i .i64 (4)))] 1) Lv0))
def Ij6 : T := (.w (.chk (.bin .add (.bin .add (.v 5) (.v 6)) (.v 7))) (.w (.call none true Aq8 [(.proj 7 (.v 1)), (.c (.i .i64 (4)))] 1) Lq3))
def Ij0 : T := (.w (.chk (.bin .add (.v 5) (.v 6))) (.w (.call none true Aq8 [(.proj 6 (.v 1)), (.c (.i .i64 (4)))] 1) Ij6))
def Hz4 : T := (.w (.call none true By4 [(.proj 4 (.v 1))] 1) Ij0)
def Hz0 : T := (.w (.call none true By4 [(.proj 3 (.v 1))] 1) Hz4)
def Hy5 : T := (.ret [(.bin .add (.v 5) (.v 6)), (.c (.i .i64 (0)))])
def Hy1 : T := (.w (.call none true By4 [(.proj 3 (.v 1))] 1) Hy5)
def Hx7 : T := (.w (.call none true Aq8 [(.proj 6 (.v 1)), (.c (.i .i64 (2)))] 1) Hy1)
def Hx3 : T := (.ret [(.bin .add (.v 5) (.proj 5 (.v 1))), (.c (.i .i64 (0)))])
def Hw9 : T := (.w (.call none true Aq8 [(.slen (.proj 5 (.v 1))), (.c (.i .i64 (1)))] 1) Hx3)
def Hw5 : T := (.ret [(.bin .add (.bin .add (.bin .add (.v 5) (.v 6)) (.v 7)) (.v 8)), (.c (.i .i64 (0)))])
def Hw1 : T := (.w (.chk (.bin .add (.bin .add (.v 5) (.v 6)) (.v 7))) (.w (.call none true By4 [(.proj 3 (.v 1))] 1) Hw5))
def Hv7 : T := (.w (.chk (.bin .add (.v 5) (.v 6))) (.w (.call none true Aq8 [(.proj 8 (.v 1)), (.c (.i .i64 (2)))] 1) Hw1))
def Hv2 : T := (.w (.call none true Aq8 [(.proj 7 (.v 1)), (.c (.i .i64 (2)))] 1) Hv7)
def Hq7 : T := (.w (.call none true Aq8 [(.proj 6 (.v 1)), (.c (.i .i64 (2)))] 1) Hv2)
def Hq3 : T := (.yld 1 [(.bin .eql (.v 0) (.c (.i .i64 (43))))])
def Hk9 : T := (.yld 1 [(.bin .eql (.v 0) (.c (.i .i64 (48))))])
def Hk6 : T := (.ite (.bin .eql (.v 0) (.c (.i .i64 (43)))) Hq3 Hk9)
def Hk3 : T := (.ret [(.bin .add (.bin .add (.bin .add (.v 6) (.v 7)) (.v 8)) (.proj 5 (.v 1))), (.c (.i .i64 (0)))])
def Hk0 : T := (.w (.chk (.bin .add (.v 6) (.v 7))) (.w (.call none true Aq8 [(.proj 8 (.v 1)), (.c (.i .i64 (1)))] 1) Hk3))
def Hj7 : T := (.w (.call none true Aq8 [(.proj 7 (.v 1)), (.c (.i .i64 (1)))] 1) Hk0)
def Hj4 : T := (.w (.call none true Aq8 [(.proj 6 (.v 1)), (.c (.i .i64 (2)))] 1) Hj7)
def Hj1 : T := (.ret [(.bin .add (.bin .add (.bin .add (.bin .add (.bin .add (.bin .add (.bin .add (.bin .add (.v 6) (.v 7)) (.v 8)) (.v 9)) (.v 10)) (.v 11)) (.v 12)) (.v 13)) (.proj 5 (.v 1))), (.c (.i .i64 (0)))])
def Gz8 : T := (.w (.chk (.bin .add (.bin .add (.bin .add (.bin .add (.bin .add (.bin .add (.v 6) (.v 7)) (.v 8)) (.v 9)) (.v 10)) (.v 11)) (.v 12))) (.w (.call none true By4 [(.proj 3 (.v 1))] 1) Hj1))
def Gz5 : T := (.w (.chk (.bin .add (.bin .add (.bin .add (.bin .add (.bin .add (.v 6) (.v 7)) (.v 8)) (.v 9)) (.v 10)) (.v 11))) (.w (.call none true Aq8 [(.proj 11 (.v 1)), (.c (.i .i64 (2)))] 1) Gz8))
def Gz2 : T := (.w (.chk (.bin .add (.bin .add (.bin .add (.bin .add (.v 6) (.v 7)) (.v 8)) (.v 9)) (.v 10))) (.w (.call none true Aq8 [(.proj 10 (.v 1)), (.c (.i .i64 (4)))] 1) Gz5))
def Gy9 : T := (.w (.chk (.bin .add (.bin .add (.bin .add (.v 6) (.v 7)) (.v 8)) (.v 9))) (.w (.call none true Aq8 [(.proj 9 (.v 1)), (.c (.i .i64 (4)))] 1) Gz2))
def Gy6 : T := (.w (.chk (.bin .add (.bin .add (.v 6) (.v 7)) (.v 8))) (.w (.call none true Aq8 [(.proj 8 (.v 1)), (.c (.i .i64 (4)))] 1) Gy9))
def Gy3 : T := (.w (.chk (.bin .add (.v 6) (.v 7))) (.w (.call none true Aq8 [(.proj 7 (.v 1)), (.c (.i .i64 (1)))] 1) Gy6))
def Gy0 : T := (.w (.call none true Aq8 [(.c (.i .i64 (253))), (.c (.i .i64 (1)))] 1) Gy3)
def Gx7 : T := (.w (.call none true Aq8 [(.proj 6 (.v 1)), (.c (.i .i64 (2)))] 1) Gy0)
def Gx4 : T := (.ret [(.bin .add (.bin .add (.bin .add (.v 7) (.v 8)) (.v 9)) (.v 6)), (.c (.i .i64 (0)))])
def Gx1 : T := (.w (.chk (.bin .add (.v 7) (.v 8))) (.w (.call none true Aq8 [(.slen (.v 6)), (.c (.i .i64 (1)))] 1) Gx4))
def Gw9 : T := (.w (.call none true Aq8 [(.c (.i .i64 (0))), (.c (.i .i64 (1)))] 1) Gx1)
def Gw7 : T := (.w (.call none true By4 [(.proj 3 (.v 1))] 1) Gw9)
def Gw5 : T := (.w (.call none true Jy1 [(.proj 12 (.v 1))] 1) Gw7)
def Gw3 : T := (.ite (.bin .eql (.v 0) (.c (.i .i64 (47)))) Gw5 (.yld 1 [(.v 5)]))
def Gw1 : T := (.ite (.bin .eql (.v 0) (.c (.i .i64 (46)))) Gx7 Gw3)
def Gv9 : T := (.ite (.v 5) Hj4 Gw1)
def Gv7 : T := (.blk 1 Gv9 (.yld 0 [(.v 4)]))
def Gv5 : T := (.blk 1 Hk6 Gv7)
def Gv3 : T := (.ite (.bin .eql (.v 0) (.c (.i .i64 (33)))) Hq7 Gv5)
def Gv1 : T := (.ite (.bin .eql (.v 0) (.c (.i .i64 (16)))) Hw9 Gv3)
def Gv0 : T := (.ite (.bin .eql (.v 0) (.c (.i .i64 (15)))) Hx7 Gv1)
def Gq9 : T := (.ite (.bin .eql (.v 0) (.c (.i .i64 (6)))) Hz0 Gv0)
def Gq8 : T := (.ite (.v 4) Lx9 Gq9)
def Gq7 : T := (.ret [(.v 6), (.c (.i .i64 (0)))])
def Gq6 : T := (.w (.call none true By4 [(.proj 3 (.v 1))] 1) Gq7)
def Gq5 : T := (.blk 0 Gq8 Gq6)
def Gq4 : T := (.blk 0 Lz5 Gq5)
def Gq3 : T := (.ite (.un .not (.v 3)) My6 Gq4)
def Gq2 : T := (.w (.call none true Fv6 [(.v 0), (.sub 0 13 (.v 1))] 1) Gq3)
def Gq1 : T := (.ite (.un .not (.v 2)) Ny4 Gq2)
def Ev4 : T := (.w (.chk (.fit 13 (.v 1))) (.w (.call none true Cw4 [(.v 0)] 1) Gq1))
theorem Az7 : type_of% (And.intro (tev_eq @Ny4.eq_1) (And.intro (tev_eq @My6.eq_1) (And.intro (tev_eq @Mv2.eq_1) (And.intro (tev_eq @Mk1.eq_1) (And.intro (tev_eq @Lz5.eq_1) (And.intro (tev_eq @Lx9.eq_1) (And.intro (tev_eq @Lw7.eq_1) (And.intro (tev_eq @Lv8.eq_1) (And.intro (tev_eq @Lv0.eq_1) (And.intro (tev_eq @Lq3.eq_1) (And.intro (tev_eq @Ij6.eq_1) (And.intro (tev_eq @Ij0.eq_1) (And.intro (tev_eq @Hz4.eq_1) (And.intro (tev_eq @Hz0.eq_1) (And.intro (tev_eq @Hy5.eq_1) (And.intro (tev_eq @Hy1.eq_1) (And.intro (tev_eq @Hx7.eq_1) (And.intro (tev_eq @Hx3.eq_1) (And.intro (tev_eq @Hw9.eq_1) (And.intro (tev_eq @Hw5.eq_1) (And.intro (tev_eq @Hw1.eq_1) (And.intro (tev_eq @Hv7.eq_1) (And.intro (tev_eq @Hv2.eq_1) (And.intro (tev_eq @Hq7.eq_1) (And.intro (tev_eq @Hq3.eq_1) (And.intro (tev_eq @Hk9.eq_1) (And.intro (tev_eq @Hk6.eq_1) (And.intro (tev_eq @Hk3.eq_1) (And.intro (tev_eq @Hk0.eq_1) (And.intro (tev_eq @Hj7.eq_1) (And.intro (tev_eq @Hj4.eq_1) (And.intro (tev_eq @Hj1.eq_1) (And.intro (tev_eq @Gz8.eq_1) (And.intro (tev_eq @Gz5.eq_1) (And.intro (tev_eq @Gz2.eq_1) (And.intro (tev_eq @Gy9.eq_1) (And.intro (tev_eq @Gy6.eq_1) (And.intro (tev_eq @Gy3.eq_1) (And.intro (tev_eq @Gy0.eq_1) (And.intro (tev_eq @Gx7.eq_1) (And.intro (tev_eq @Gx4.eq_1) (And.intro (tev_eq @Gx1.eq_1) (And.intro (tev_eq @Gw9.eq_1) (And.intro (tev_eq @Gw7.eq_1) (And.intro (tev_eq @Gw5.eq_1) (And.intro (tev_eq @Gw3.eq_1) (And.intro (tev_eq @Gw1.eq_1) (And.intro (tev_eq @Gv9.eq_1) (And.intro (tev_eq @Gv7.eq_1) (And.intro (tev_eq @Gv5.eq_1) (And.intro (tev_eq @Gv3.eq_1) (And.intro (tev_eq @Gv1.eq_1) (And.intro (tev_eq @Gv0.eq_1) (And.intro (tev_eq @Gq9.eq_1) (And.intro (tev_eq @Gq8.eq_1) (And.intro (tev_eq @Gq7.eq_1) (And.intro (tev_eq @Gq6.eq_1) (And.intro (tev_eq @Gq5.eq_1) (And.intro (tev_eq @Gq4.eq_1) (And.intro (tev_eq @Gq3.eq_1) (And.intro (tev_eq @Gq2.eq_1) (And.intro (tev_eq @Gq1.eq_1) (tev_eq @Ev4.eq_1))))))))))))))))))))))))))))))))))))))))))))))))))))))))))))))) := (And.intro (tev_eq @Ny4.eq_1) (And.intro (tev_eq @My6.eq_1) (And.intro (tev_eq @Mv2.eq_1) (And.intro (tev_eq @Mk1.eq_1) (And.intro (tev_eq @Lz5.eq_1) (And.intro (tev_eq @Lx9.eq_1) (And.intro (tev_eq @Lw7.eq_1) (And.intro (tev_eq @Lv8.eq_1) (And.intro (tev_eq @Lv0.eq_1) (And.intro (tev_eq @Lq3.eq_1) (And.intro (tev_eq @Ij6.eq_1) (And.intro (tev_eq @Ij0.eq_1) (And.intro (tev_eq @Hz4.eq_1) (And.intro (tev_eq @Hz0.eq_1) (And.intro (tev_eq @Hy5.eq_1) (And.intro (tev_eq @Hy1.eq_1) (And.intro (tev_eq @Hx7.eq_1) (And.intro (tev_eq @Hx3.eq_1) (And.intro (tev_eq @Hw9.eq_1) (And.intro (tev_eq @Hw5.eq_1) (And.intro (tev_eq @Hw1.eq_1) (And.intro (tev_eq @Hv7.eq_1) (And.intro (tev_eq @Hv2.eq_1) (And.intro (tev_eq @Hq7.eq_1) (And.intro (tev_eq @Hq3.eq_1) (And.intro (tev_eq @Hk9.eq_1) (And.intro (tev_eq @Hk6.eq_1) (And.intro (tev_eq @Hk3.eq_1) (And.intro (tev_eq @Hk0.eq_1) (And.intro (tev_eq @Hj7.eq_1) (And.intro (tev_eq @Hj4.eq_1) (And.intro (tev_eq @Hj1.eq_1) (And.intro (tev_eq @Gz8.eq_1) (And.intro (tev_eq @Gz5.eq_1) (And.intro (tev_eq @Gz2.eq_1) (And.intro (tev_eq @Gy9.eq_1) (And.intro (tev_eq @Gy6.eq_1) (And.intro (tev_eq @Gy3.eq_1) (And.intro (tev_eq @Gy0.eq_1) (And.intro (tev_eq @Gx7.eq_1) (And.intro (tev_eq @Gx4.eq_1) (And.intro (tev_eq @Gx1.eq_1) (And.intro (tev_eq @Gw9.eq_1) (And.intro (tev_eq @Gw7.eq_1) (And.intro (tev_eq @Gw5.eq_1) (And.intro (tev_eq @Gw3.eq_1) (And.intro (tev_eq @Gw1.eq_1) (And.intro (tev_eq @Gv9.eq_1) (And.intro (tev_eq @Gv7.eq_1) (And.intro (tev_eq @Gv5.eq_1) (And.intro (tev_eq @Gv3.eq_1) (And.intro (tev_eq @Gv1.eq_1) (And.intro (tev_eq @Gv0.eq_1) (And.intro (tev_eq @Gq9.eq_1) (And.intro (tev_eq @Gq8.eq_1) (And.intro (tev_eq @Gq7.eq_1) (And.intro (tev_eq @Gq6.eq_1) (And.intro (tev_eq @Gq5.eq_1) (And.intro (tev_eq @Gq4.eq_1) (And.intro (tev_eq @Gq3.eq_1) (And.intro (tev_eq @Gq2.eq_1) (And.intro (tev_eq @Gq1.eq_1) (tev_eq @Ev4.eq_1)))))))))))))))))))))))))))))))))))))))))))))))))))))))))))))))
def Ev3 : T := (.w (.call none true Oz3 [(.v 0), (.v 1)] 1) (.ret [(.v 2)]))
theorem x_u189 : type_of% (tev_eq @Ev3.eq_1) := (tev_eq @Ev3.eq_1)
def t_u190 : T := (.ret [(.scal (.c .u))])
def c0_u191 : T := (.ret [(.conv .i32 (.sidx (.v 0) (.c (.i .i64 (0))))), (.c (.i .i64 (1)))])
def c1_u191 : T := (.w (.call none true Sw4 [(.v 0)] 2) (.ret [(.v 1), (.v 2)]))
def t_u191 : T := (.ite (.ite (.bin .neq (.v 0) (.c (.s []))) (.bin .lss (.sidx (.v 0) (.c (.i .i64 (0)))) (.c (.i .u8 (128)))) (.c (.b false))) c0_u191 c1_u191)
def Ny3 : T := (.w (.call none true Fq9 [(.v 0), (.sidx (.v 1) (.c (.i .i64 (0))))] 1) (.ret [(.v 2)]))
def My5 : T := (.ite (.bin .geq (.slen (.v 1)) (.slen (.v 0))) (.ret [(.c (.i .i64 (-1)))]) (.ret [(.scal (.c .u))]))
def Mv1 : T := (.ite (.bin .eql (.slen (.v 1)) (.c (.i .i64 (1)))) Ny3 My5)
def Ev2 : T := (.ite (.ite (.bin .eql (.slen (.v 1)) (.c (.i .i64 (0)))) (.c (.b true)) (.bin .eql (.v 1) (.v 0))) (.ret [(.c (.i .i64 (0)))]) Mv1)
theorem x_u193 : type_of% (And.intro (tev_eq @Ny3.eq_1) (And.intro (tev_eq @My5.eq_1) (And.intro (tev_eq @Mv1.eq_1) (tev_eq @Ev2.eq_1)))) := (And.intro (tev_eq @Ny3.eq_1) (And.intro (tev_eq @My5.eq_1) (And.intro (tev_eq @Mv1.eq_1) (tev_eq @Ev2.eq_1))))
def Ny2 : T := (.ret [(.c (.s [])), (.c (.i .i64 (3)))])
def My4 : T := (.ret [(.bin .add (.v 2) (.v 3)), (.c (.i .i64 (0)))])
def Mv0 : T := (.w (.call none true Dy7 [(.proj 2 (.v 0)), (.c (.i .i64 (8)))] 1) My4)
def Mk0 : T := (.w (.call none true Dy7 [(.proj 1 (.v 0)), (.c (.i .i64 (8)))] 1) Mv0)
def Lz4 : T := (.ret [(.v 2), (.c (.i .i64 (0)))])
def Lx8 : T := (.w (.call none true Dy7 [(.proj 2 (.v 0)), (.c (.i .i64 (4)))] 1) Lz4)
def Lw6 : T := (.ite (.proj 0 (.v 0)) Mk0 Lx8)
def Lv7 : T := (.ite (.un .not (.v 1)) Ny2 Lw6)
def Ev1 : T := (.w (.chk (.fit 3 (.v 0))) (.w (.call none true Fv1 [(.sub 0 3 (.v 0))] 1) Lv7))
theorem x_u206 : type_of% (And.intro (tev_eq @Ny2.eq_1) (And.intro (tev_eq @My4.eq_1) (And.intro (tev_eq @Mv0.eq_1) (And.intro (tev_eq @Mk0.eq_1) (And.intro (tev_eq @Lz4.eq_1) (And.intro (tev_eq @Lx8.eq_1) (And.intro (tev_eq @Lw6.eq_1) (And.intro (tev_eq @Lv7.eq_1) (tev_eq @Ev1.eq_1))))))))) := (And.intro (tev_eq @Ny2.eq_1) (And.intro (tev_eq @My4.eq_1) (And.intro (tev_eq @Mv0.eq_1) (And.intro (tev_eq @Mk0.eq_1) (And.intro (tev_eq @Lz4.eq_1) (And.intro (tev_eq @Lx8.eq_1) (And.intro (tev_eq @Lw6.eq_1) (And.intro (tev_eq @Lv7.eq_1) (tev_eq @Ev1.eq_1)))))))))
def Ny1 : T := (.yld 1 [(.bin .add (.v 2) (.bin .add (.v 4) (.proj 0 (.idx 1 (.v 1) (.v 3))))), (.bin .add (.v 3) (.c (.i .i64 (1))))])
def My3 : T := (.w (.call none true Aq8 [(.slen (.proj 0 (.idx 1 (.v 1) (.v 3)))), (.c (.i .i64 (1)))] 1) Ny1)
def Ik6 : T := (.ite (.bin .lss (.v 3) (.len (.v 1))) My3 (.yld 0 [(.v 2)]))
def Lj3 : T := .loop 1 [(.c (.s [])), (.c (.i .i64 (0)))] Ik6
def Mq9 : T := (.ret [(.bin .add (.v 2) (.v 3))])
def Mj9 : T := (.w (.call none true Aq8 [(.c (.i .i64 (0))), (.c (.i .i64 (1)))] 1) Mq9)
def Lz3 : T := (.blk 0 Lj3 Mj9)
def Ev0 : T := (.w (.call none false Eq0 [(.v 0)] 1) Lz3)
theorem Rw3 : type_of% (And.intro (tev_eq @Ny1.eq_1) (And.intro (tev_eq @My3.eq_1) (And.intro (tev_eq @Ik6.eq_1) (And.intro (tev_eq @Mq9.eq_1) (And.intro (tev_eq @Mj9.eq_1) (And.intro (tev_eq @Lz3.eq_1) (tev_eq @Ev0.eq_1))))))) := (And.intro (tev_eq @Ny1.eq_1) (And.intro (tev_eq @My3.eq_1) (And.intro (tev_eq @Ik6.eq_1) (And.intro (tev_eq @Mq9.eq_1) (And.intro (tev_eq @Mj9.eq_1) (And.intro (tev_eq @Lz3.eq_1) (tev_eq @Ev0.eq_1)))))))
def Ny0 : T := (.yld 3 [(.bin .quo (.v 4) (.c (.i .i64 (256)))), (.bin .add (.v 5) (.c (.i .i64 (1))))])
def Ok4 : T := (.ite (.bin .lss (.v 5) (.v 3)) Ny0 (.yld 2 [(.v 4)]))
def Sy9 : T := .loop 3 [(.v 0), (.c (.i .i64 (0)))] Ok4
def My2 : T := (.w (.chk (.scal (.conv .u8 (.bin .rem (.v 4) (.c (.i .i64 (256))))))) (.yld 1 [(.app 1 (.v 2) (.lit 1 [(.conv .u8 (.bin .rem (.v 4) (.c (.i .i64 (256)))))])), (.bin .sub (.v 3) (.c (.i .i64 (1))))]))
def Mq8 : T := (.blk 2 Sy9 My2)
def Ik5 : T := (.ite (.bin .geq (.v 3) (.c (.i .i64 (0)))) Mq8 (.yld 0 [(.v 2)]))
def Lj2 : T := .loop 1 [(.c (.l 1 [])), (.bin .sub (.v 1) (.c (.i .i64 (1))))] Ik5
def Eq9 : T := (.blk 0 Lj2 (.ret [(.b2s (.v 2))]))
theorem Iv3 : type_of% (And.intro (tev_eq @Ny0.eq_1) (And.intro (tev_eq @Ok4.eq_1) (And.intro (tev_eq @My2.eq_1) (And.intro (tev_eq @Mq8.eq_1) (And.intro (tev_eq @Ik5.eq_1) (tev_eq @Eq9.eq_1)))))) := (And.intro (tev_eq @Ny0.eq_1) (And.intro (tev_eq @Ok4.eq_1) (And.intro (tev_eq @My2.eq_1) (And.intro (tev_eq @Mq8.eq_1) (And.intro (tev_eq @Ik5.eq_1) (tev_eq @Eq9.eq_1))))))
def Nx9 : T := (.yld 3 [(.bin .add (.bin .mul (.v 4) (.c (.i .i64 (2)))) (.conv .i64 (.bin .and (.bin .shr (.v 0) (.conv .u64 (.bin .add (.bin .mul (.v 3) (.c (.i .i64 (8)))) (.v 5)))) (.c (.i .u64 (1)))))), (.bin .add (.v 5) (.c (.i .i64 (1))))])
def Ok3 : T := (.ite (.bin .lss (.v 5) (.c (.i .i64 (8)))) Nx9 (.yld 2 [(.v 4)]))
def Sy8 : T := .loop 3 [(.c (.i .i64 (0))), (.c (.i .i64 (0)))] Ok3
def My1 : T := (.yld 1 [(.app 1 (.v 1) (.lit 1 [(.conv .u8 (.v 4))])), (.bin .add (.v 3) (.c (.i .i64 (1)))), (.bin .add (.v 3) (.c (.i .i64 (1))))])
def Mq7 : T := (.yld 1 [(.app 1 (.v 1) (.lit 1 [(.conv .u8 (.v 4))])), (.v 2), (.bin .add (.v 3) (.c (.i .i64 (1))))])
def Mj8 : T := (.w (.chk (.scal (.conv .u8 (.v 4)))) (.ite (.bin .neq (.v 4) (.c (.i .i64 (0)))) My1 Mq7))
def Lz2 : T := (.blk 2 Sy8 Mj8)
def Ok6 : T := (.ite (.bin .lss (.v 3) (.c (.i .i64 (8)))) Lz2 (.yld 0 [(.v 1), (.v 2)]))
def Sz3 : T := .loop 1 [(.c (.l 1 [])), (.c (.i .i64 (0))), (.c (.i .i64 (0)))] Ok6
def Lx7 : T := (.ret [(.b2s (.lsl 1 (.v 1) (.c (.i .i64 (0))) (.v 2)))])
def Eq8 : T := (.blk 0 Sz3 Lx7)
theorem Eq3 : type_of% (And.intro (tev_eq @Nx9.eq_1) (And.intro (tev_eq @Ok3.eq_1) (And.intro (tev_eq @My1.eq_1) (And.intro (tev_eq @Mq7.eq_1) (And.intro (tev_eq @Mj8.eq_1) (And.intro (tev_eq @Lz2.eq_1) (And.intro (tev_eq @Ok6.eq_1) (And.intro (tev_eq @Lx7.eq_1) (tev_eq @Eq8.eq_1))))))))) := (And.intro (tev_eq @Nx9.eq_1) (And.intro (tev_eq @Ok3.eq_1) (And.intro (tev_eq @My1.eq_1) (And.intro (tev_eq @Mq7.eq_1) (And.intro (tev_eq @Mj8.eq_1) (And.intro (tev_eq @Lz2.eq_1) (And.intro (tev_eq @Ok6.eq_1) (And.intro (tev_eq @Lx7.eq_1) (tev_eq @Eq8.eq_1)))))))))
def c0_u214 : T := (.ret [(.c (.i .i32 (65533))), (.c (.i .i64 (0)))])
def c1_u214 : T := (.w (.chk (.sidx (.v 0) (.c (.i .i64 (0))))) (.ret [(.scal (.c .u))]))
def t_u214 : T := (.ite (.bin .lss (.slen (.v 0)) (.c (.i .i64 (1)))) c0_u214 c1_u214)
def Nx8 : T := (.yld 3 [(.bin .quo (.v 4) (.c (.i .u64 (256)))), (.bin .add (.v 5) (.c (.i .i64 (1))))])
def Ok2 : T := (.ite (.bin .lss (.v 5) (.v 3)) Nx8 (.yld 2 [(.v 4)]))
def Sy7 : T := .loop 3 [(.v 0), (.c (.i .i64 (0)))] Ok2
def My0 : T := (.w (.chk (.scal (.conv .u8 (.bin .rem (.v 4) (.c (.i .u64 (256))))))) (.yld 1 [(.app 1 (.v 2) (.lit 1 [(.conv .u8 (.bin .rem (.v 4) (.c (.i .u64 (256)))))])), (.bin .sub (.v 3) (.c (.i .i64 (1))))]))
def Mq6 : T := (.blk 2 Sy7 My0)
def Ik4 : T := (.ite (.bin .geq (.v 3) (.c (.i .i64 (0)))) Mq6 (.yld 0 [(.v 2)]))
def Lj1 : T := .loop 1 [(.c (.l 1 [])), (.bin .sub (.v 1) (.c (.i .i64 (1))))] Ik4
def Eq7 : T := (.blk 0 Lj1 (.ret [(.b2s (.v 2))]))
theorem Iv2 : type_of% (And.intro (tev_eq @Nx8.eq_1) (And.intro (tev_eq @Ok2.eq_1) (And.intro (tev_eq @My0.eq_1) (And.intro (tev_eq @Mq6.eq_1) (And.intro (tev_eq @Ik4.eq_1) (tev_eq @Eq7.eq_1)))))) := (And.intro (tev_eq @Nx8.eq_1) (And.intro (tev_eq @Ok2.eq_1) (And.intro (tev_eq @My0.eq_1) (And.intro (tev_eq @Mq6.eq_1) (And.intro (tev_eq @Ik4.eq_1) (tev_eq @Eq7.eq_1))))))

abbrev sg : Nat → Option Nat := (Sx5 [(31, 56), (40, 56), (45, 824633737216), (93, 1099511627986), (98, 56), (99, 1099511627888), (101, 1099511627889), (117, 1099511627794), (119, 1099511627795), (120, 1099511627889), (135, 1099511627888), (161, 1099511627986), (173, 1099511627888), (174, 1099511627888), (181, 1099511627794), (200, 1099511627888), (219, 1099511627888)])
theorem k_u3 : FOK Go.Proofs.Tryz.prog sg n_u3 ⟨2, 0, t_u3⟩ :=
  ⟨Go.Proofs.Tryz.f3, { own := [], loops := [], blks := [], conds := [] }, by kernel_rfl, by kernel_rfl, by kernel_rfl, Nat.le_of_ble_eq_true (by kernel_rfl), by kernel_rfl, Aj5 (by kernel_rfl)⟩
theorem k_u9 : FOK Go.Proofs.Tryz.prog sg n_u9 ⟨0, 0, t_u9⟩ :=
  ⟨Go.Proofs.Tryz.f9, { own := [], loops := [], blks := [], conds := [] }, by kernel_rfl, by kernel_rfl, by kernel_rfl, Nat.le_of_ble_eq_true (by kernel_rfl), by kernel_rfl, Aj5 (by kernel_rfl)⟩
theorem k_u10 : FOK Go.Proofs.Tryz.prog sg Sx1 ⟨1, 0, Qw7⟩ :=
  ⟨Go.Proofs.Tryz.f10, { own := [], loops := [], blks := [], conds := [] }, by kernel_rfl, by kernel_rfl, by kernel_rfl, Nat.le_of_ble_eq_true (by kernel_rfl), by kernel_rfl, Aj5 (by kernel_rfl)⟩
theorem k_u11 : FOK Go.Proofs.Tryz.prog sg Sx0 ⟨2, 0, Qw6⟩ :=
  ⟨Go.Proofs.Tryz.f11, { own := [], loops := [], blks := [], conds := [] }, by kernel_rfl, by kernel_rfl, by kernel_rfl, Nat.le_of_ble_eq_true (by kernel_rfl), by kernel_rfl, Aj5 (by kernel_rfl)⟩
theorem k_u12 : FOK Go.Proofs.Tryz.prog sg Kz6 ⟨2, 0, Qw5⟩ :=
  ⟨Go.Proofs.Tryz.f12, { own := [], loops := [], blks := [], conds := [] }, by kernel_rfl, by kernel_rfl, by kernel_rfl, Nat.le_of_ble_eq_true (by kernel_rfl), by kernel_rfl, Aj5 (by kernel_rfl)⟩
theorem k_u13 : FOK Go.Proofs.Tryz.prog sg Sw9 ⟨2, 0, Qw4⟩ :=
  ⟨Go.Proofs.Tryz.f13, { own := [77826], loops := [(0, ⟨rg [(2, 1), (5, 9), (17, 127)], [.ta 15 16000015 56 16, .t 16]⟩)], blks := [(0, ⟨rg [(2, 1), (5, 9), (16, 128)], [.ta 15 16000015 56 16]⟩)], conds := [(79, ⟨[], [.t 9]⟩)] }, by kernel_rfl, by kernel_rfl, by kernel_rfl, Nat.le_of_ble_eq_true (by kernel_rfl), by kernel_rfl, Aj5 (by kernel_rfl)⟩
theorem k_u15 : FOK Go.Proofs.Tryz.prog sg Sw8 ⟨0, 0, t_u15⟩ :=
  ⟨Go.Proofs.Tryz.f15, { own := [], loops := [], blks := [], conds := [] }, by kernel_rfl, by kernel_rfl, by kernel_rfl, Nat.le_of_ble_eq_true (by kernel_rfl), by kernel_rfl, Aj5 (by kernel_rfl)⟩
theorem k_u19 : FOK Go.Proofs.Tryz.prog sg Sw6 ⟨2, 0, Qw3⟩ :=
  ⟨Go.Proofs.Tryz.f19, { own := [], loops := [(0, ⟨rg [(4, 1), (11, 15)], [.t 5]⟩)], blks := [(0, ⟨rg [(4, 2), (11, 15)], []⟩)], conds := [] }, by kernel_rfl, by kernel_rfl, by kernel_rfl, Nat.le_of_ble_eq_true (by kernel_rfl), by kernel_rfl, Aj5 (by kernel_rfl)⟩
theorem k_u23 : FOK Go.Proofs.Tryz.prog sg Dy6 ⟨2, 0, Qw2⟩ :=
  ⟨Go.Proofs.Tryz.f23, { own := [], loops := [], blks := [], conds := [] }, by kernel_rfl, by kernel_rfl, by kernel_rfl, Nat.le_of_ble_eq_true (by kernel_rfl), by kernel_rfl, Aj5 (by kernel_rfl)⟩
theorem k_u25 : FOK Go.Proofs.Tryz.prog sg Sw3 ⟨1, 0, Qw1⟩ :=
  ⟨Go.Proofs.Tryz.f25, { own := [], loops := [(0, ⟨rg [(2, 1), (15, 24)], [.t 3]⟩), (2, ⟨rg [(2, 1), (39, 14)], [.t 4]⟩), (4, ⟨rg [(2, 1), (6, 1), (75, 42)], [.t 5]⟩)], blks := [(0, ⟨rg [(2, 2), (15, 24)], []⟩), (2, ⟨rg [(2, 1), (4, 1), (39, 14)], []⟩), (4, ⟨rg [(2, 1), (5, 2), (75, 42)], []⟩)], conds := [] }, by kernel_rfl, by kernel_rfl, by kernel_rfl, Nat.le_of_ble_eq_true (by kernel_rfl), by kernel_rfl, Aj5 (by kernel_rfl)⟩
theorem k_u26 : FOK Go.Proofs.Tryz.prog sg Sw2 ⟨2, 0, Qw0⟩ :=
  ⟨Go.Proofs.Tryz.f26, { own := [], loops := [(0, ⟨rg [(8, 1), (13, 41)], [.t 6, .t 12]⟩)], blks := [(0, ⟨rg [(8, 1), (12, 42)], [.t 6]⟩)], conds := [] }, by kernel_rfl, by kernel_rfl, by kernel_rfl, Nat.le_of_ble_eq_true (by kernel_rfl), by kernel_rfl, Aj5 (by kernel_rfl)⟩
theorem k_u27 : FOK Go.Proofs.Tryz.prog sg Rj4 ⟨3, 0, Qv9⟩ :=
  ⟨Go.Proofs.Tryz.f27, { own := [], loops := [], blks := [], conds := [] }, by kernel_rfl, by kernel_rfl, by kernel_rfl, Nat.le_of_ble_eq_true (by kernel_rfl), by kernel_rfl, Aj5 (by kernel_rfl)⟩
theorem k_u28 : FOK Go.Proofs.Tryz.prog sg Sw1 ⟨2, 0, Qv8⟩ :=
  ⟨Go.Proofs.Tryz.f28, { own := [], loops := [(0, ⟨rg [(5, 1), (7, 5), (13, 41)], [.t 6, .c 1 0, .c 1 1, .c 1 2, .c 1 3, .c 1 4]⟩)], blks := [(0, ⟨rg [(5, 7), (13, 41)], [.c 1 0, .c 1 1, .c 1 2, .c 1 3, .c 1 4]⟩)], conds := [(47, ⟨[], [.t 10]⟩)] }, by kernel_rfl, by kernel_rfl, by kernel_rfl, Nat.le_of_ble_eq_true (by kernel_rfl), by kernel_rfl, Aj5 (by kernel_rfl)⟩
theorem k_u29 : FOK Go.Proofs.Tryz.prog sg Sw0 ⟨2, 0, Qv7⟩ :=
  ⟨Go.Proofs.Tryz.f29, { own := [], loops := [], blks := [], conds := [] }, by kernel_rfl, by kernel_rfl, by kernel_rfl, Nat.le_of_ble_eq_true (by kernel_rfl), by kernel_rfl, Aj5 (by kernel_rfl)⟩
theorem k_u30 : FOK Go.Proofs.Tryz.prog sg Rj3 ⟨2, 0, Qv6⟩ :=
  ⟨Go.Proofs.Tryz.f30, { own := [], loops := [], blks := [], conds := [] }, by kernel_rfl, by kernel_rfl, by kernel_rfl, Nat.le_of_ble_eq_true (by kernel_rfl), by kernel_rfl, Aj5 (by kernel_rfl)⟩
theorem k_u31 : FOK Go.Proofs.Tryz.prog sg Rj2 ⟨2, 0, Qv5⟩ :=
  ⟨Go.Proofs.Tryz.f31, { own := [], loops := [(0, ⟨rg [(2, 1), (4, 1), (7, 2), (12, 13)], [.ta 5 16000005 56 16, .t 11]⟩)], blks := [(0, ⟨rg [(2, 1), (4, 1), (7, 18)], [.ta 5 16000005 56 16]⟩)], conds := [] }, by kernel_rfl, by kernel_rfl, by kernel_rfl, Nat.le_of_ble_eq_true (by kernel_rfl), by kernel_rfl, Aj5 (by kernel_rfl)⟩
theorem k_u32 : FOK Go.Proofs.Tryz.prog sg Sv9 ⟨2, 0, Qv4⟩ :=
  ⟨Go.Proofs.Tryz.f32, { own := [20482], loops := [(0, ⟨rg [(2, 1), (5, 3), (10, 29), (41, 17)], [.ta 9 16000009 56 16, .t 40]⟩)], blks := [(0, ⟨rg [(2, 1), (5, 3), (10, 48)], [.ta 9 16000009 56 16]⟩)], conds := [] }, by kernel_rfl, by kernel_rfl, by kernel_rfl, Nat.le_of_ble_eq_true (by kernel_rfl), by kernel_rfl, Aj5 (by kernel_rfl)⟩
theorem k_u33 : FOK Go.Proofs.Tryz.prog sg Dy5 ⟨2, 0, Qv3⟩ :=
  ⟨Go.Proofs.Tryz.f33, { own := [], loops := [], blks := [], conds := [] }, by kernel_rfl, by kernel_rfl, by kernel_rfl, Nat.le_of_ble_eq_true (by kernel_rfl), by kernel_rfl, Aj5 (by kernel_rfl)⟩
theorem k_u34 : FOK Go.Proofs.Tryz.prog sg Rj1 ⟨2, 0, Qv2⟩ :=
  ⟨Go.Proofs.Tryz.f34, { own := [], loops := [(0, ⟨rg [(8, 43)], [.t 6, .t 7]⟩)], blks := [(0, ⟨rg [(7, 44)], [.t 6]⟩)], conds := [] }, by kernel_rfl, by kernel_rfl, by kernel_rfl, Nat.le_of_ble_eq_true (by kernel_rfl), by kernel_rfl, Aj5 (by kernel_rfl)⟩
theorem k_u35 : FOK Go.Proofs.Tryz.prog sg Kz5 ⟨3, 0, Qv1⟩ :=
  ⟨Go.Proofs.Tryz.f35, { own := [], loops := [], blks := [], conds := [] }, by kernel_rfl, by kernel_rfl, by kernel_rfl, Nat.le_of_ble_eq_true (by kernel_rfl), by kernel_rfl, Aj5 (by kernel_rfl)⟩
theorem k_u36 : FOK Go.Proofs.Tryz.prog sg Sv8 ⟨2, 0, Qv0⟩ :=
  ⟨Go.Proofs.Tryz.f36, { own := [], loops := [(0, ⟨rg [(4, 2), (7, 26)], [.t 1, .t 6]⟩)], blks := [(0, ⟨rg [(1, 1), (4, 29)], []⟩)], conds := [] }, by kernel_rfl, by kernel_rfl, by kernel_rfl, Nat.le_of_ble_eq_true (by kernel_rfl), by kernel_rfl, Aj5 (by kernel_rfl)⟩
theorem k_u37 : FOK Go.Proofs.Tryz.prog sg Sv7 ⟨3, 0, Qq9⟩ :=
  ⟨Go.Proofs.Tryz.f37, { own := [], loops := [], blks := [], conds := [] }, by kernel_rfl, by kernel_rfl, by kernel_rfl, Nat.le_of_ble_eq_true (by kernel_rfl), by kernel_rfl, Aj5 (by kernel_rfl)⟩
theorem k_u38 : FOK Go.Proofs.Tryz.prog sg Sv6 ⟨2, 0, Qq8⟩ :=
  ⟨Go.Proofs.Tryz.f38, { own := [], loops := [(0, ⟨rg [(4, 1), (9, 12)], [.t 6]⟩)], blks := [(0, ⟨rg [(4, 1), (6, 1), (9, 12)], []⟩)], conds := [] }, by kernel_rfl, by kernel_rfl, by kernel_rfl, Nat.le_of_ble_eq_true (by kernel_rfl), by kernel_rfl, Aj5 (by kernel_rfl)⟩
theorem k_u39 : FOK Go.Proofs.Tryz.prog sg Rj0 ⟨2, 0, Qq7⟩ :=
  ⟨Go.Proofs.Tryz.f39, { own := [], loops := [(0, ⟨rg [(7, 64)], [.ta 5 16000005 56 16, .t 6, .c 0 0, .c 0 1, .c 0 2, .c 0 3, .c 0 4]⟩)], blks := [(0, ⟨rg [(6, 65)], [.ta 5 16000005 56 16, .c 0 0, .c 0 1, .c 0 2, .c 0 3, .c 0 4]⟩)], conds := [] }, by kernel_rfl, by kernel_rfl, by kernel_rfl, Nat.le_of_ble_eq_true (by kernel_rfl), by kernel_rfl, Aj5 (by kernel_rfl)⟩
theorem k_u40 : FOK Go.Proofs.Tryz.prog sg Qz9 ⟨2, 0, Qq6⟩ :=
  ⟨Go.Proofs.Tryz.f40, { own := [], loops := [(0, ⟨rg [(4, 1), (7, 24)], [.ta 5 16000005 56 16, .t 6]⟩)], blks := [(0, ⟨rg [(2, 1), (4, 1), (6, 25)], [.ta 5 16000005 56 16]⟩)], conds := [] }, by kernel_rfl, by kernel_rfl, by kernel_rfl, Nat.le_of_ble_eq_true (by kernel_rfl), by kernel_rfl, Aj5 (by kernel_rfl)⟩
theorem k_u41 : FOK Go.Proofs.Tryz.prog sg Sv5 ⟨2, 0, Qq5⟩ :=
  ⟨Go.Proofs.Tryz.f41, { own := [], loops := [(0, ⟨rg [(11, 32)], [.t 6, .t 8]⟩)], blks := [(0, ⟨rg [(8, 1), (11, 32)], [.t 6]⟩)], conds := [] }, by kernel_rfl, by kernel_rfl, by kernel_rfl, Nat.le_of_ble_eq_true (by kernel_rfl), by kernel_rfl, Aj5 (by kernel_rfl)⟩
theorem k_u42 : FOK Go.Proofs.Tryz.prog sg Sv4 ⟨1, 0, Qq4⟩ :=
  ⟨Go.Proofs.Tryz.f42, { own := [], loops := [], blks := [], conds := [(26, ⟨[27, 28], [.t 6]⟩)] }, by kernel_rfl, by kernel_rfl, by kernel_rfl, Nat.le_of_ble_eq_true (by kernel_rfl), by kernel_rfl, Aj5 (by kernel_rfl)⟩
theorem k_u43 : FOK Go.Proofs.Tryz.prog sg Kz4 ⟨2, 0, Qq3⟩ :=
  ⟨Go.Proofs.Tryz.f43, { own := [], loops := [], blks := [], conds := [] }, by kernel_rfl, by kernel_rfl, by kernel_rfl, Nat.le_of_ble_eq_true (by kernel_rfl), by kernel_rfl, Aj5 (by kernel_rfl)⟩
theorem k_u55 : FOK Go.Proofs.Tryz.prog sg Cq1 ⟨1, 0, Qq2⟩ :=
  ⟨Go.Proofs.Tryz.f55, { own := [], loops := [(0, ⟨rg [(2, 3), (23, 16)], [.t 22]⟩)], blks := [(0, ⟨rg [(2, 3), (22, 17)], []⟩)], conds := [] }, by kernel_rfl, by kernel_rfl, by kernel_rfl, Nat.le_of_ble_eq_true (by kernel_rfl), by kernel_rfl, Aj5 (by kernel_rfl)⟩
theorem k_u65 : FOK Go.Proofs.Tryz.prog sg Qz8 ⟨2, 0, Qq1⟩ :=
  ⟨Go.Proofs.Tryz.f65, { own := [], loops := [], blks := [], conds := [] }, by kernel_rfl, by kernel_rfl, by kernel_rfl, Nat.le_of_ble_eq_true (by kernel_rfl), by kernel_rfl, Aj5 (by kernel_rfl)⟩
theorem k_u66 : FOK Go.Proofs.Tryz.prog sg Eq1 ⟨1, 0, Qq0⟩ :=
  ⟨Go.Proofs.Tryz.f66, { own := [], loops := [], blks := [], conds := [] }, by kernel_rfl, by kernel_rfl, by kernel_rfl, Nat.le_of_ble_eq_true (by kernel_rfl), by kernel_rfl, Aj5 (by kernel_rfl)⟩
theorem k_u67 : FOK Go.Proofs.Tryz.prog sg Jy0 ⟨3, 0, Qk9⟩ :=
  ⟨Go.Proofs.Tryz.f67, { own := [], loops := [(0, ⟨rg [(6, 1), (9, 30)], [.ta 7 16000007 56 16, .t 8]⟩)], blks := [(0, ⟨rg [(6, 1), (8, 31)], [.ta 7 16000007 56 16]⟩)], conds := [] }, by kernel_rfl, by kernel_rfl, by kernel_rfl, Nat.le_of_ble_eq_true (by kernel_rfl), by kernel_rfl, Aj5 (by kernel_rfl)⟩
theorem k_u68 : FOK Go.Proofs.Tryz.prog sg Sv3 ⟨1, 0, Qk8⟩ :=
  ⟨Go.Proofs.Tryz.f68, { own := [], loops := [], blks := [], conds := [] }, by kernel_rfl, by kernel_rfl, by kernel_rfl, Nat.le_of_ble_eq_true (by kernel_rfl), by kernel_rfl, Aj5 (by kernel_rfl)⟩
theorem k_u69 : FOK Go.Proofs.Tryz.prog sg Sv2 ⟨2, 0, Qk7⟩ :=
  ⟨Go.Proofs.Tryz.f69, { own := [], loops := [(0, ⟨rg [(4, 1), (11, 15)], [.t 5]⟩)], blks := [(0, ⟨rg [(4, 2), (11, 15)], []⟩)], conds := [] }, by kernel_rfl, by kernel_rfl, by kernel_rfl, Nat.le_of_ble_eq_true (by kernel_rfl), by kernel_rfl, Aj5 (by kernel_rfl)⟩
theorem k_u70 : FOK Go.Proofs.Tryz.prog sg Sv1 ⟨1, 0, Qk6⟩ :=
  ⟨Go.Proofs.Tryz.f70, { own := [], loops := [(0, ⟨rg [(2, 1), (5, 79)], [.ta 3 16000003 56 16, .t 4]⟩), (2, ⟨rg [(13, 18)], [.t 5]⟩)], blks := [(0, ⟨rg [(2, 1), (4, 80)], [.ta 3 16000003 56 16]⟩), (2, ⟨rg [(13, 18)], [.t 5]⟩)], conds := [(57, ⟨rg [(2, 1), (5, 79)], [.ta 3 16000003 56 16]⟩)] }, by kernel_rfl, by kernel_rfl, by kernel_rfl, Nat.le_of_ble_eq_true (by kernel_rfl), by kernel_rfl, Aj5 (by kernel_rfl)⟩
theorem k_u71 : FOK Go.Proofs.Tryz.prog sg Qz7 ⟨3, 0, Qk5⟩ :=
  ⟨Go.Proofs.Tryz.f71, { own := [], loops := [], blks := [], conds := [] }, by kernel_rfl, by kernel_rfl, by kernel_rfl, Nat.le_of_ble_eq_true (by kernel_rfl), by kernel_rfl, Aj5 (by kernel_rfl)⟩
theorem k_u72 : FOK Go.Proofs.Tryz.prog sg Sv0 ⟨2, 0, Qk4⟩ :=
  ⟨Go.Proofs.Tryz.f72, { own := [], loops := [(0, ⟨rg [(4, 1), (6, 68)], [.t 5]⟩)], blks := [(0, ⟨rg [(4, 70)], []⟩)], conds := [] }, by kernel_rfl, by kernel_rfl, by kernel_rfl, Nat.le_of_ble_eq_true (by kernel_rfl), by kernel_rfl, Aj5 (by kernel_rfl)⟩
theorem k_u73 : FOK Go.Proofs.Tryz.prog sg Sq9 ⟨2, 0, Qk3⟩ :=
  ⟨Go.Proofs.Tryz.f73, { own := [], loops := [(0, ⟨rg [(4, 1), (7, 1), (30, 49)], [.t 6]⟩)], blks := [(0, ⟨rg [(4, 1), (6, 2), (30, 49)], []⟩)], conds := [] }, by kernel_rfl, by kernel_rfl, by kernel_rfl, Nat.le_of_ble_eq_true (by kernel_rfl), by kernel_rfl, Aj5 (by kernel_rfl)⟩
theorem k_u74 : FOK Go.Proofs.Tryz.prog sg Sq8 ⟨3, 0, Qk2⟩ :=
  ⟨Go.Proofs.Tryz.f74, { own := [], loops := [(0, ⟨rg [(6, 1), (9, 1), (13, 19)], [.ta 7 16000007 56 16, .t 12]⟩)], blks := [(0, ⟨rg [(6, 1), (9, 23)], [.ta 7 16000007 56 16]⟩)], conds := [] }, by kernel_rfl, by kernel_rfl, by kernel_rfl, Nat.le_of_ble_eq_true (by kernel_rfl), by kernel_rfl, Aj5 (by kernel_rfl)⟩
theorem k_u75 : FOK Go.Proofs.Tryz.prog sg Kz3 ⟨1, 0, Qk1⟩ :=
  ⟨Go.Proofs.Tryz.f75, { own := [], loops := [], blks := [], conds := [] }, by kernel_rfl, by kernel_rfl, by kernel_rfl, Nat.le_of_ble_eq_true (by kernel_rfl), by kernel_rfl, Aj5 (by kernel_rfl)⟩
theorem k_u76 : FOK Go.Proofs.Tryz.prog sg Sq7 ⟨3, 0, Qk0⟩ :=
  ⟨Go.Proofs.Tryz.f76, { own := [], loops := [], blks := [], conds := [(39, ⟨[40, 41, 42], [.t 8]⟩), (47, ⟨[48], [.t 9]⟩)] }, by kernel_rfl, by kernel_rfl, by kernel_rfl, Nat.le_of_ble_eq_true (by kernel_rfl), by kernel_rfl, Aj5 (by kernel_rfl)⟩
theorem k_u77 : FOK Go.Proofs.Tryz.prog sg Qz6 ⟨1, 0, Qj9⟩ :=
  ⟨Go.Proofs.Tryz.f77, { own := [], loops := [(0, ⟨rg [(2, 1), (6, 7), (16, 33)], [.ta 3 16000003 9 1, .t 15]⟩), (2, ⟨rg [(2, 1), (6, 2), (9, 4), (16, 33)], [.ta 3 16000003 9 1, .t 8]⟩)], blks := [(0, ⟨rg [(1, 2), (4, 1), (6, 43)], [.ta 3 16000003 9 1]⟩), (2, ⟨rg [(2, 1), (6, 7), (16, 33)], [.ta 3 16000003 9 1]⟩)], conds := [] }, by kernel_rfl, by kernel_rfl, by kernel_rfl, Nat.le_of_ble_eq_true (by kernel_rfl), by kernel_rfl, Aj5 (by kernel_rfl)⟩
theorem k_u78 : FOK Go.Proofs.Tryz.prog sg Qz5 ⟨2, 0, Qj8⟩ :=
  ⟨Go.Proofs.Tryz.f78, { own := [12289], loops := [], blks := [], conds := [] }, by kernel_rfl, by kernel_rfl, by kernel_rfl, Nat.le_of_ble_eq_true (by kernel_rfl), by kernel_rfl, Aj5 (by kernel_rfl)⟩
theorem k_u79 : FOK Go.Proofs.Tryz.prog sg Sq6 ⟨1, 0, Qj7⟩ :=
  ⟨Go.Proofs.Tryz.f79, { own := [], loops := [], blks := [], conds := [] }, by kernel_rfl, by kernel_rfl, by kernel_rfl, Nat.le_of_ble_eq_true (by kernel_rfl), by kernel_rfl, Aj5 (by kernel_rfl)⟩
theorem k_u80 : FOK Go.Proofs.Tryz.prog sg Sq5 ⟨2, 0, Qj6⟩ :=
  ⟨Go.Proofs.Tryz.f80, { own := [], loops := [(0, ⟨rg [(4, 2), (14, 13)], [.t 1]⟩)], blks := [(0, ⟨rg [(4, 2), (14, 13)], [.t 1]⟩)], conds := [] }, by kernel_rfl, by kernel_rfl, by kernel_rfl, Nat.le_of_ble_eq_true (by kernel_rfl), by kernel_rfl, Aj5 (by kernel_rfl)⟩
theorem k_u81 : FOK Go.Proofs.Tryz.prog sg Sq4 ⟨1, 0, Qj5⟩ :=
  ⟨Go.Proofs.Tryz.f81, { own := [], loops := [], blks := [], conds := [(8, ⟨[], [.t 4]⟩)] }, by kernel_rfl, by kernel_rfl, by kernel_rfl, Nat.le_of_ble_eq_true (by kernel_rfl), by kernel_rfl, Aj5 (by kernel_rfl)⟩
theorem k_u82 : FOK Go.Proofs.Tryz.prog sg Cq0 ⟨1, 0, Qj4⟩ :=
  ⟨Go.Proofs.Tryz.f82, { own := [], loops := [(0, ⟨rg [(2, 2), (7, 51)], [.ta 4 16000004 9 1, .t 5, .t 6]⟩)], blks := [(0, ⟨rg [(2, 2), (5, 53)], [.ta 4 16000004 9 1]⟩)], conds := [] }, by kernel_rfl, by kernel_rfl, by kernel_rfl, Nat.le_of_ble_eq_true (by kernel_rfl), by kernel_rfl, Aj5 (by kernel_rfl)⟩
theorem k_u83 : FOK Go.Proofs.Tryz.prog sg Qz4 ⟨2, 0, Qj3⟩ :=
  ⟨Go.Proofs.Tryz.f83, { own := [], loops := [(0, ⟨rg [(6, 31)], [.t 5]⟩)], blks := [(0, ⟨rg [(6, 31)], [.t 5]⟩)], conds := [] }, by kernel_rfl, by kernel_rfl, by kernel_rfl, Nat.le_of_ble_eq_true (by kernel_rfl), by kernel_rfl, Aj5 (by kernel_rfl)⟩
theorem k_u84 : FOK Go.Proofs.Tryz.prog sg Gj3 ⟨2, 0, Qj2⟩ :=
  ⟨Go.Proofs.Tryz.f84, { own := [], loops := [], blks := [], conds := [] }, by kernel_rfl, by kernel_rfl, by kernel_rfl, Nat.le_of_ble_eq_true (by kernel_rfl), by kernel_rfl, Aj5 (by kernel_rfl)⟩
theorem k_u85 : FOK Go.Proofs.Tryz.prog sg Eq0 ⟨1, 0, Qj1⟩ :=
  ⟨Go.Proofs.Tryz.f85, { own := [], loops := [], blks := [], conds := [] }, by kernel_rfl, by kernel_rfl, by kernel_rfl, Nat.le_of_ble_eq_true (by kernel_rfl), by kernel_rfl, Aj5 (by kernel_rfl)⟩
theorem k_u86 : FOK Go.Proofs.Tryz.prog sg Qz3 ⟨1, 0, Qj0⟩ :=
  ⟨Go.Proofs.Tryz.f86, { own := [], loops := [], blks := [], conds := [] }, by kernel_rfl, by kernel_rfl, by kernel_rfl, Nat.le_of_ble_eq_true (by kernel_rfl), by kernel_rfl, Aj5 (by kernel_rfl)⟩
theorem k_u87 : FOK Go.Proofs.Tryz.prog sg Qz2 ⟨1, 0, Pz9⟩ :=
  ⟨Go.Proofs.Tryz.f87, { own := [], loops := [(0, ⟨rg [(8, 13)], [.t 3, .t 4]⟩)], blks := [(0, ⟨rg [(4, 1), (8, 13)], [.t 3]⟩)], conds := [] }, by kernel_rfl, by kernel_rfl, by kernel_rfl, Nat.le_of_ble_eq_true (by kernel_rfl), by kernel_rfl, Aj5 (by kernel_rfl)⟩
theorem k_u88 : FOK Go.Proofs.Tryz.prog sg Qz1 ⟨1, 0, Pz8⟩ :=
  ⟨Go.Proofs.Tryz.f88, { own := [], loops := [(0, ⟨rg [(2, 1), (5, 56)], [.ta 3 16000003 56 16, .t 4]⟩), (2, ⟨rg [(2, 1), (6, 2), (9, 52)], [.ta 3 16000003 56 16, .t 5, .t 8]⟩)], blks := [(0, ⟨rg [(1, 2), (4, 57)], [.ta 3 16000003 56 16]⟩), (2, ⟨rg [(2, 1), (5, 56)], [.ta 3 16000003 56 16]⟩)], conds := [] }, by kernel_rfl, by kernel_rfl, by kernel_rfl, Nat.le_of_ble_eq_true (by kernel_rfl), by kernel_rfl, Aj5 (by kernel_rfl)⟩
theorem k_u89 : FOK Go.Proofs.Tryz.prog sg Sq3 ⟨2, 0, Pz7⟩ :=
  ⟨Go.Proofs.Tryz.f89, { own := [], loops := [(0, ⟨rg [(4, 2), (9, 10)], [.t 8]⟩)], blks := [(0, ⟨rg [(4, 2), (8, 11)], []⟩)], conds := [] }, by kernel_rfl, by kernel_rfl, by kernel_rfl, Nat.le_of_ble_eq_true (by kernel_rfl), by kernel_rfl, Aj5 (by kernel_rfl)⟩
theorem k_u90 : FOK Go.Proofs.Tryz.prog sg Qz0 ⟨2, 0, Pz6⟩ :=
  ⟨Go.Proofs.Tryz.f90, { own := [], loops := [], blks := [], conds := [] }, by kernel_rfl, by kernel_rfl, by kernel_rfl, Nat.le_of_ble_eq_true (by kernel_rfl), by kernel_rfl, Aj5 (by kernel_rfl)⟩
theorem k_u91 : FOK Go.Proofs.Tryz.prog sg Qy9 ⟨2, 0, Pz5⟩ :=
  ⟨Go.Proofs.Tryz.f91, { own := [], loops := [], blks := [], conds := [] }, by kernel_rfl, by kernel_rfl, by kernel_rfl, Nat.le_of_ble_eq_true (by kernel_rfl), by kernel_rfl, Aj5 (by kernel_rfl)⟩
theorem k_u92 : FOK Go.Proofs.Tryz.prog sg Sq2 ⟨1, 0, Pz4⟩ :=
  ⟨Go.Proofs.Tryz.f92, { own := [], loops := [(0, ⟨rg [(2, 3), (15, 28)], [.t 14]⟩)], blks := [(0, ⟨rg [(2, 3), (14, 29)], []⟩)], conds := [] }, by kernel_rfl, by kernel_rfl, by kernel_rfl, Nat.le_of_ble_eq_true (by kernel_rfl), by kernel_rfl, Aj5 (by kernel_rfl)⟩
theorem k_u95 : FOK Go.Proofs.Tryz.prog sg Qy8 ⟨2, 0, Pz3⟩ :=
  ⟨Go.Proofs.Tryz.f95, { own := [], loops := [(0, ⟨rg [(4, 2), (9, 10)], [.t 8]⟩)], blks := [(0, ⟨rg [(4, 2), (8, 11)], []⟩)], conds := [] }, by kernel_rfl, by kernel_rfl, by kernel_rfl, Nat.le_of_ble_eq_true (by kernel_rfl), by kernel_rfl, Aj5 (by kernel_rfl)⟩
theorem k_u98 : FOK Go.Proofs.Tryz.prog sg Sq1 ⟨1, 0, Pz2⟩ :=
  ⟨Go.Proofs.Tryz.f98, { own := [], loops := [], blks := [], conds := [] }, by kernel_rfl, by kernel_rfl, by kernel_rfl, Nat.le_of_ble_eq_true (by kernel_rfl), by kernel_rfl, Aj5 (by kernel_rfl)⟩
theorem k_u107 : FOK Go.Proofs.Tryz.prog sg Cw4 ⟨1, 0, Ez1⟩ :=
  ⟨Go.Proofs.Tryz.f107, { own := [], loops := [], blks := [], conds := [] }, by kernel_rfl, by kernel_rfl, by kernel_rfl, Nat.le_of_ble_eq_true (by kernel_rfl), by kernel_rfl, Aj5 (by kernel_rfl)⟩
theorem k_u108 : FOK Go.Proofs.Tryz.prog sg Fv6 ⟨2, 0, Ez0⟩ :=
  ⟨Go.Proofs.Tryz.f108, { own := [], loops := [], blks := [], conds := [] }, by kernel_rfl, by kernel_rfl, by kernel_rfl, Nat.le_of_ble_eq_true (by kernel_rfl), by kernel_rfl, Aj5 (by kernel_rfl)⟩
theorem k_u109 : FOK Go.Proofs.Tryz.prog sg Fv5 ⟨2, 0, Ey9⟩ :=
  ⟨Go.Proofs.Tryz.f109, { own := [], loops := [], blks := [], conds := [] }, by kernel_rfl, by kernel_rfl, by kernel_rfl, Nat.le_of_ble_eq_true (by kernel_rfl), by kernel_rfl, Aj5 (by kernel_rfl)⟩
theorem k_u110 : FOK Go.Proofs.Tryz.prog sg Kj3 ⟨1, 0, Ey8⟩ :=
  ⟨Go.Proofs.Tryz.f110, { own := [], loops := [], blks := [], conds := [] }, by kernel_rfl, by kernel_rfl, by kernel_rfl, Nat.le_of_ble_eq_true (by kernel_rfl), by kernel_rfl, Aj5 (by kernel_rfl)⟩
theorem k_u111 : FOK Go.Proofs.Tryz.prog sg Kj2 ⟨2, 0, Ey7⟩ :=
  ⟨Go.Proofs.Tryz.f111, { own := [], loops := [], blks := [], conds := [] }, by kernel_rfl, by kernel_rfl, by kernel_rfl, Nat.le_of_ble_eq_true (by kernel_rfl), by kernel_rfl, Aj5 (by kernel_rfl)⟩
theorem k_u112 : FOK Go.Proofs.Tryz.prog sg Kj1 ⟨2, 0, Ey6⟩ :=
  ⟨Go.Proofs.Tryz.f112, { own := [], loops := [], blks := [], conds := [] }, by kernel_rfl, by kernel_rfl, by kernel_rfl, Nat.le_of_ble_eq_true (by kernel_rfl), by kernel_rfl, Aj5 (by kernel_rfl)⟩
theorem k_u113 : FOK Go.Proofs.Tryz.prog sg Kj0 ⟨1, 0, Ey5⟩ :=
  ⟨Go.Proofs.Tryz.f113, { own := [], loops := [(0, ⟨rg [(2, 1), (5, 2), (10, 30)], [.ta 3 16000003 9 1, .t 9]⟩)], blks := [(0, ⟨rg [(1, 2), (5, 35)], [.ta 3 16000003 9 1]⟩)], conds := [] }, by kernel_rfl, by kernel_rfl, by kernel_rfl, Nat.le_of_ble_eq_true (by kernel_rfl), by kernel_rfl, Aj5 (by kernel_rfl)⟩
theorem k_u114 : FOK Go.Proofs.Tryz.prog sg Jz9 ⟨1, 0, Ey4⟩ :=
  ⟨Go.Proofs.Tryz.f114, { own := [], loops := [(0, ⟨rg [(2, 1), (5, 1), (9, 13)], [.ta 3 16000003 9 1, .t 8]⟩)], blks := [(0, ⟨rg [(2, 1), (5, 17)], [.ta 3 16000003 9 1]⟩)], conds := [] }, by kernel_rfl, by kernel_rfl, by kernel_rfl, Nat.le_of_ble_eq_true (by kernel_rfl), by kernel_rfl, Aj5 (by kernel_rfl)⟩
theorem k_u115 : FOK Go.Proofs.Tryz.prog sg Fv4 ⟨1, 1, Ey3⟩ :=
  ⟨Go.Proofs.Tryz.f115, { own := [], loops := [], blks := [], conds := [] }, by kernel_rfl, by kernel_rfl, by kernel_rfl, Nat.le_of_ble_eq_true (by kernel_rfl), by kernel_rfl, Aj5 (by kernel_rfl)⟩
theorem k_u116 : FOK Go.Proofs.Tryz.prog sg Jz8 ⟨2, 0, Ey2⟩ :=
  ⟨Go.Proofs.Tryz.f116, { own := [], loops := [], blks := [], conds := [] }, by kernel_rfl, by kernel_rfl, by kernel_rfl, Nat.le_of_ble_eq_true (by kernel_rfl), by kernel_rfl, Aj5 (by kernel_rfl)⟩
theorem k_u118 : FOK Go.Proofs.Tryz.prog sg Bx2 ⟨2, 0, Ey1⟩ :=
  ⟨Go.Proofs.Tryz.f118, { own := [], loops := [(1, ⟨rg [(4, 1), (10, 1), (37, 30)], [.t 9]⟩)], blks := [(1, ⟨rg [(4, 1), (9, 2), (37, 30)], []⟩)], conds := [] }, by kernel_rfl, by kernel_rfl, by kernel_rfl, Nat.le_of_ble_eq_true (by kernel_rfl), by kernel_rfl, Aj5 (by kernel_rfl)⟩
theorem k_u119 : FOK Go.Proofs.Tryz.prog sg Dz0 ⟨1048577, 0, Ey0⟩ :=
  ⟨Go.Proofs.Tryz.f119, { own := [28674, 57346, 61442], loops := [(0, ⟨rg [(2, 1), (4, 2), (10, 50)], [.t 3, .ac 987654321 9 1]⟩), (2, ⟨rg [(29, 25)], [.t 3, .t 5, .ac 987654321 9 1]⟩)], blks := [(0, ⟨rg [(2, 4), (10, 50)], [.ac 987654321 9 1]⟩), (2, ⟨rg [(5, 1), (29, 25)], [.t 3, .ac 987654321 9 1]⟩)], conds := [] }, by kernel_rfl, by kernel_rfl, by kernel_rfl, Nat.le_of_ble_eq_true (by kernel_rfl), by kernel_rfl, Aj5 (by kernel_rfl)⟩
theorem k_u120 : FOK Go.Proofs.Tryz.prog sg Jz7 ⟨1048578, 0, Ex9⟩ :=
  ⟨Go.Proofs.Tryz.f120, { own := [45058, 49154], loops := [(0, ⟨rg [(7, 1), (16, 20)], [.t 5, .t 6, .ac 987654321 56 16]⟩)], blks := [(0, ⟨rg [(6, 2), (16, 20)], [.t 5, .ac 987654321 56 16]⟩)], conds := [] }, by kernel_rfl, by kernel_rfl, by kernel_rfl, Nat.le_of_ble_eq_true (by kernel_rfl), by kernel_rfl, Aj5 (by kernel_rfl)⟩
theorem k_u121 : FOK Go.Proofs.Tryz.prog sg Fv3 ⟨1, 1, Ex8⟩ :=
  ⟨Go.Proofs.Tryz.f121, { own := [], loops := [], blks := [], conds := [] }, by kernel_rfl, by kernel_rfl, by kernel_rfl, Nat.le_of_ble_eq_true (by kernel_rfl), by kernel_rfl, Aj5 (by kernel_rfl)⟩
theorem k_u122 : FOK Go.Proofs.Tryz.prog sg Jz6 ⟨1, 0, Ex7⟩ :=
  ⟨Go.Proofs.Tryz.f122, { own := [], loops := [(0, ⟨rg [(2, 1), (4, 1), (15, 32)], [.t 3]⟩)], blks := [(0, ⟨rg [(2, 3), (15, 32)], []⟩)], conds := [] }, by kernel_rfl, by kernel_rfl, by kernel_rfl, Nat.le_of_ble_eq_true (by kernel_rfl), by kernel_rfl, Aj5 (by kernel_rfl)⟩
theorem k_u123 : FOK Go.Proofs.Tryz.prog sg Jz5 ⟨1, 0, Ex6⟩ :=
  ⟨Go.Proofs.Tryz.f123, { own := [], loops := [(0, ⟨rg [(2, 1), (5, 63)], [.ta 3 16000003 9 1, .t 4]⟩), (2, ⟨rg [(13, 19)], [.t 5]⟩)], blks := [(0, ⟨rg [(2, 1), (4, 64)], [.ta 3 16000003 9 1]⟩), (2, ⟨rg [(13, 19)], [.t 5]⟩)], conds := [] }, by kernel_rfl, by kernel_rfl, by kernel_rfl, Nat.le_of_ble_eq_true (by kernel_rfl), by kernel_rfl, Aj5 (by kernel_rfl)⟩
theorem k_u124 : FOK Go.Proofs.Tryz.prog sg Fv2 ⟨2, 0, Ex5⟩ :=
  ⟨Go.Proofs.Tryz.f124, { own := [], loops := [], blks := [], conds := [] }, by kernel_rfl, by kernel_rfl, by kernel_rfl, Nat.le_of_ble_eq_true (by kernel_rfl), by kernel_rfl, Aj5 (by kernel_rfl)⟩
theorem k_u125 : FOK Go.Proofs.Tryz.prog sg Jz4 ⟨4, 0, Ex4⟩ :=
  ⟨Go.Proofs.Tryz.f125, { own := [], loops := [(0, ⟨rg [(8, 1), (11, 55)], [.t 0, .ta 9 16000009 9 1, .t 10]⟩)], blks := [(0, ⟨rg [(3, 1), (8, 1), (11, 55)], [.t 0, .ta 9 16000009 9 1, .t 10]⟩)], conds := [(20, ⟨rg [(21, 4)], [.t 3]⟩)] }, by kernel_rfl, by kernel_rfl, by kernel_rfl, Nat.le_of_ble_eq_true (by kernel_rfl), by kernel_rfl, Aj5 (by kernel_rfl)⟩
theorem k_u141 : FOK Go.Proofs.Tryz.prog sg Jz3 ⟨1, 0, Ex3⟩ :=
  ⟨Go.Proofs.Tryz.f141, { own := [], loops := [], blks := [], conds := [] }, by kernel_rfl, by kernel_rfl, by kernel_rfl, Nat.le_of_ble_eq_true (by kernel_rfl), by kernel_rfl, Aj5 (by kernel_rfl)⟩
theorem k_u142 : FOK Go.Proofs.Tryz.prog sg Jz2 ⟨2, 0, Ex2⟩ :=
  ⟨Go.Proofs.Tryz.f142, { own := [], loops := [], blks := [], conds := [(6, ⟨[], [.t 6, .c 1 0, .c 1 1, .c 1 2, .c 1 3, .c 1 4, .c 1 5, .c 1 6, .c 1 7, .c 1 8, .c 1 9, .c 1 10, .c 1 11, .c 1 12]⟩), (12, ⟨[], [.t 12, .c 1 0, .c 1 1, .c 1 2, .c 1 3, .c 1 4, .c 1 5, .c 1 6, .c 1 7, .c 1 8, .c 1 9, .c 1 10, .c 1 11, .c 1 12]⟩), (60, ⟨[], [.t 60, .c 1 0, .c 1 1, .c 1 2, .c 1 3, .c 1 4, .c 1 5, .c 1 6, .c 1 7, .c 1 8, .c 1 9, .c 1 10, .c 1 11, .c 1 12]⟩)] }, by kernel_rfl, by kernel_rfl, by kernel_rfl, Nat.le_of_ble_eq_true (by kernel_rfl), by kernel_rfl, Aj5 (by kernel_rfl)⟩
theorem k_u143 : FOK Go.Proofs.Tryz.prog sg Fv1 ⟨1, 0, Ex1⟩ :=
  ⟨Go.Proofs.Tryz.f143, { own := [], loops := [], blks := [], conds := [] }, by kernel_rfl, by kernel_rfl, by kernel_rfl, Nat.le_of_ble_eq_true (by kernel_rfl), by kernel_rfl, Aj5 (by kernel_rfl)⟩
theorem k_u144 : FOK Go.Proofs.Tryz.prog sg Ck4 ⟨1, 0, Ex0⟩ :=
  ⟨Go.Proofs.Tryz.f144, { own := [], loops := [], blks := [], conds := [] }, by kernel_rfl, by kernel_rfl, by kernel_rfl, Nat.le_of_ble_eq_true (by kernel_rfl), by kernel_rfl, Aj5 (by kernel_rfl)⟩
theorem k_u145 : FOK Go.Proofs.Tryz.prog sg Jz1 ⟨1, 0, Ew9⟩ :=
  ⟨Go.Proofs.Tryz.f145, { own := [], loops := [], blks := [], conds := [] }, by kernel_rfl, by kernel_rfl, by kernel_rfl, Nat.le_of_ble_eq_true (by kernel_rfl), by kernel_rfl, Aj5 (by kernel_rfl)⟩
theorem k_u146 : FOK Go.Proofs.Tryz.prog sg Aw9 ⟨2, 0, Ew8⟩ :=
  ⟨Go.Proofs.Tryz.f146, { own := [], loops := [], blks := [], conds := [] }, by kernel_rfl, by kernel_rfl, by kernel_rfl, Nat.le_of_ble_eq_true (by kernel_rfl), by kernel_rfl, Aj5 (by kernel_rfl)⟩
theorem k_u147 : FOK Go.Proofs.Tryz.prog sg Dy9 ⟨1, 0, Ew7⟩ :=
  ⟨Go.Proofs.Tryz.f147, { own := [], loops := [], blks := [], conds := [] }, by kernel_rfl, by kernel_rfl, by kernel_rfl, Nat.le_of_ble_eq_true (by kernel_rfl), by kernel_rfl, Aj5 (by kernel_rfl)⟩
theorem k_u148 : FOK Go.Proofs.Tryz.prog sg Jz0 ⟨1, 0, Ew6⟩ :=
  ⟨Go.Proofs.Tryz.f148, { own := [], loops := [(0, ⟨rg [(2, 1), (4, 15)], [.t 3]⟩)], blks := [(0, ⟨rg [(2, 17)], []⟩)], conds := [] }, by kernel_rfl, by kernel_rfl, by kernel_rfl, Nat.le_of_ble_eq_true (by kernel_rfl), by kernel_rfl, Aj5 (by kernel_rfl)⟩
theorem k_u149 : FOK Go.Proofs.Tryz.prog sg Fv0 ⟨2, 0, Ew5⟩ :=
  ⟨Go.Proofs.Tryz.f149, { own := [], loops := [], blks := [], conds := [] }, by kernel_rfl, by kernel_rfl, by kernel_rfl, Nat.le_of_ble_eq_true (by kernel_rfl), by kernel_rfl, Aj5 (by kernel_rfl)⟩
theorem k_u150 : FOK Go.Proofs.Tryz.prog sg Jy9 ⟨2, 0, Ew4⟩ :=
  ⟨Go.Proofs.Tryz.f150, { own := [], loops := [], blks := [], conds := [] }, by kernel_rfl, by kernel_rfl, by kernel_rfl, Nat.le_of_ble_eq_true (by kernel_rfl), by kernel_rfl, Aj5 (by kernel_rfl)⟩
theorem k_u151 : FOK Go.Proofs.Tryz.prog sg Jy8 ⟨3, 0, Ew3⟩ :=
  ⟨Go.Proofs.Tryz.f151, { own := [], loops := [], blks := [], conds := [] }, by kernel_rfl, by kernel_rfl, by kernel_rfl, Nat.le_of_ble_eq_true (by kernel_rfl), by kernel_rfl, Aj5 (by kernel_rfl)⟩
theorem k_u152 : FOK Go.Proofs.Tryz.prog sg Fq9 ⟨2, 0, Ew2⟩ :=
  ⟨Go.Proofs.Tryz.f152, { own := [], loops := [], blks := [], conds := [] }, by kernel_rfl, by kernel_rfl, by kernel_rfl, Nat.le_of_ble_eq_true (by kernel_rfl), by kernel_rfl, Aj5 (by kernel_rfl)⟩
theorem k_u153 : FOK Go.Proofs.Tryz.prog sg Jy7 ⟨2, 0, Ew1⟩ :=
  ⟨Go.Proofs.Tryz.f153, { own := [], loops := [], blks := [], conds := [] }, by kernel_rfl, by kernel_rfl, by kernel_rfl, Nat.le_of_ble_eq_true (by kernel_rfl), by kernel_rfl, Aj5 (by kernel_rfl)⟩
theorem k_u154 : FOK Go.Proofs.Tryz.prog sg Jy6 ⟨2, 0, Ew0⟩ :=
  ⟨Go.Proofs.Tryz.f154, { own := [], loops := [(0, ⟨rg [(4, 2), (9, 10)], [.t 8]⟩)], blks := [(0, ⟨rg [(4, 2), (8, 11)], []⟩)], conds := [] }, by kernel_rfl, by kernel_rfl, by kernel_rfl, Nat.le_of_ble_eq_true (by kernel_rfl), by kernel_rfl, Aj5 (by kernel_rfl)⟩
theorem k_u156 : FOK Go.Proofs.Tryz.prog sg Dy8 ⟨2, 0, Ev9⟩ :=
  ⟨Go.Proofs.Tryz.f156, { own := [], loops := [], blks := [], conds := [] }, by kernel_rfl, by kernel_rfl, by kernel_rfl, Nat.le_of_ble_eq_true (by kernel_rfl), by kernel_rfl, Aj5 (by kernel_rfl)⟩
theorem k_u157 : FOK Go.Proofs.Tryz.prog sg Fq8 ⟨1, 0, Ev8⟩ :=
  ⟨Go.Proofs.Tryz.f157, { own := [], loops := [], blks := [], conds := [] }, by kernel_rfl, by kernel_rfl, by kernel_rfl, Nat.le_of_ble_eq_true (by kernel_rfl), by kernel_rfl, Aj5 (by kernel_rfl)⟩
theorem k_u158 : FOK Go.Proofs.Tryz.prog sg Sw7 ⟨2, 0, t_u158⟩ :=
  ⟨Go.Proofs.Tryz.f158, { own := [], loops := [(0, ⟨rg [(4, 2), (8, 42)], [.t 0, .ta 6 16000006 9 1, .t 7]⟩)], blks := [(0, ⟨rg [(4, 2), (7, 43)], [.t 0, .ta 6 16000006 9 1]⟩)], conds := [(18, ⟨[19], [.t 1]⟩)] }, by kernel_rfl, by kernel_rfl, by kernel_rfl, Nat.le_of_ble_eq_true (by kernel_rfl), by kernel_rfl, Aj5 (by kernel_rfl)⟩
theorem k_u159 : FOK Go.Proofs.Tryz.prog sg Jy5 ⟨2, 0, Ev7⟩ :=
  ⟨Go.Proofs.Tryz.f159, { own := [], loops := [(0, ⟨rg [(4, 1), (6, 1), (20, 14)], [.t 0, .t 5]⟩)], blks := [(0, ⟨rg [(0, 1), (4, 3), (20, 14)], []⟩)], conds := [] }, by kernel_rfl, by kernel_rfl, by kernel_rfl, Nat.le_of_ble_eq_true (by kernel_rfl), by kernel_rfl, Aj5 (by kernel_rfl)⟩
theorem k_u160 : FOK Go.Proofs.Tryz.prog sg Fq7 ⟨2, 0, Ev6⟩ :=
  ⟨Go.Proofs.Tryz.f160, { own := [], loops := [], blks := [], conds := [] }, by kernel_rfl, by kernel_rfl, by kernel_rfl, Nat.le_of_ble_eq_true (by kernel_rfl), by kernel_rfl, Aj5 (by kernel_rfl)⟩
theorem k_u178 : FOK Go.Proofs.Tryz.prog sg Fq6 ⟨2, 0, Ev5⟩ :=
  ⟨Go.Proofs.Tryz.f178, { own := [], loops := [], blks := [], conds := [] }, by kernel_rfl, by kernel_rfl, by kernel_rfl, Nat.le_of_ble_eq_true (by kernel_rfl), by kernel_rfl, Aj5 (by kernel_rfl)⟩
theorem k_u179 : FOK Go.Proofs.Tryz.prog sg Fq5 ⟨2, 0, Ev4⟩ :=
  ⟨Go.Proofs.Tryz.f179, { own := [], loops := [], blks := [], conds := [(15, ⟨[], [.t 15]⟩), (87, ⟨[], [.t 87]⟩)] }, by kernel_rfl, by kernel_rfl, by kernel_rfl, Nat.le_of_ble_eq_true (by kernel_rfl), by kernel_rfl, Aj5 (by kernel_rfl)⟩
theorem k_u189 : FOK Go.Proofs.Tryz.prog sg Jy4 ⟨2, 0, Ev3⟩ :=
  ⟨Go.Proofs.Tryz.f189, { own := [], loops := [], blks := [], conds := [] }, by kernel_rfl, by kernel_rfl, by kernel_rfl, Nat.le_of_ble_eq_true (by kernel_rfl), by kernel_rfl, Aj5 (by kernel_rfl)⟩
theorem k_u190 : FOK Go.Proofs.Tryz.prog sg Oz5 ⟨1, 0, t_u190⟩ :=
  ⟨Go.Proofs.Tryz.f190, { own := [], loops := [(0, ⟨rg [(5, 4)], [.t 2]⟩)], blks := [(0, ⟨rg [(5, 4)], [.t 2]⟩)], conds := [], bots := [1] }, by kernel_rfl, by kernel_rfl, by kernel_rfl, Nat.le_of_ble_eq_true (by kernel_rfl), by kernel_rfl, Aj5 (by kernel_rfl)⟩
theorem k_u191 : FOK Go.Proofs.Tryz.prog sg Sw5 ⟨1, 0, t_u191⟩ :=
  ⟨Go.Proofs.Tryz.f191, { own := [], loops := [], blks := [], conds := [] }, by kernel_rfl, by kernel_rfl, by kernel_rfl, Nat.le_of_ble_eq_true (by kernel_rfl), by kernel_rfl, Aj5 (by kernel_rfl)⟩
theorem k_u193 : FOK Go.Proofs.Tryz.prog sg Jy3 ⟨2, 0, Ev2⟩ :=
  ⟨Go.Proofs.Tryz.f193, { own := [], loops := [(1, ⟨rg [(4, 1), (11, 3), (57, 86)], [.t 8, .t 10]⟩)], blks := [(1, ⟨rg [(4, 1), (8, 1), (10, 4), (57, 86)], []⟩)], conds := [(64, ⟨rg [(4, 1), (11, 1), (65, 13)], [.t 8]⟩)], bots := [8] }, by kernel_rfl, by kernel_rfl, by kernel_rfl, Nat.le_of_ble_eq_true (by kernel_rfl), by kernel_rfl, Aj5 (by kernel_rfl)⟩
theorem k_u206 : FOK Go.Proofs.Tryz.prog sg Jy2 ⟨1, 0, Ev1⟩ :=
  ⟨Go.Proofs.Tryz.f206, { own := [], loops := [], blks := [], conds := [] }, by kernel_rfl, by kernel_rfl, by kernel_rfl, Nat.le_of_ble_eq_true (by kernel_rfl), by kernel_rfl, Aj5 (by kernel_rfl)⟩
theorem k_u207 : FOK Go.Proofs.Tryz.prog sg By4 ⟨1, 0, Ev0⟩ :=
  ⟨Go.Proofs.Tryz.f207, { own := [], loops := [(0, ⟨rg [(8, 19)], [.t 3, .t 5]⟩)], blks := [(0, ⟨rg [(5, 1), (8, 19)], [.t 3]⟩)], conds := [] }, by kernel_rfl, by kernel_rfl, by kernel_rfl, Nat.le_of_ble_eq_true (by kernel_rfl), by kernel_rfl, Aj5 (by kernel_rfl)⟩
theorem k_u208 : FOK Go.Proofs.Tryz.prog sg Aq8 ⟨2, 0, Eq9⟩ :=
  ⟨Go.Proofs.Tryz.f208, { own := [], loops := [(0, ⟨rg [(4, 1), (7, 24)], [.ta 5 16000005 5 1, .t 6]⟩), (2, ⟨rg [(16, 7)], [.t 7, .t 8]⟩)], blks := [(0, ⟨rg [(4, 1), (6, 25)], [.ta 5 16000005 5 1]⟩), (2, ⟨rg [(8, 1), (16, 7)], [.t 7]⟩)], conds := [] }, by kernel_rfl, by kernel_rfl, by kernel_rfl, Nat.le_of_ble_eq_true (by kernel_rfl), by kernel_rfl, Aj5 (by kernel_rfl)⟩
theorem k_u209 : FOK Go.Proofs.Tryz.prog sg Jy1 ⟨1, 0, Eq8⟩ :=
  ⟨Go.Proofs.Tryz.f209, { own := [], loops := [(0, ⟨rg [(2, 1), (6, 35)], [.ta 3 16000003 5 1, .t 4, .t 5]⟩), (2, ⟨rg [(12, 16)], [.t 6, .t 7]⟩)], blks := [(0, ⟨rg [(2, 1), (5, 36)], [.ta 3 16000003 5 1, .t 4]⟩), (2, ⟨rg [(7, 1), (12, 16)], [.t 6]⟩)], conds := [] }, by kernel_rfl, by kernel_rfl, by kernel_rfl, Nat.le_of_ble_eq_true (by kernel_rfl), by kernel_rfl, Aj5 (by kernel_rfl)⟩
theorem k_u214 : FOK Go.Proofs.Tryz.prog sg Sw4 ⟨1, 0, t_u214⟩ :=
  ⟨Go.Proofs.Tryz.f214, { own := [], loops := [], blks := [], conds := [], bots := [5] }, by kernel_rfl, by kernel_rfl, by kernel_rfl, Nat.le_of_ble_eq_true (by kernel_rfl), by kernel_rfl, Aj5 (by kernel_rfl)⟩
theorem k_u222 : FOK Go.Proofs.Tryz.prog sg Dy7 ⟨2, 0, Eq7⟩ :=
  ⟨Go.Proofs.Tryz.f222, { own := [], loops := [(0, ⟨rg [(4, 1), (7, 24)], [.ta 5 16000005 5 1, .t 6]⟩), (2, ⟨rg [(16, 7)], [.t 7, .t 8]⟩)], blks := [(0, ⟨rg [(4, 1), (6, 25)], [.ta 5 16000005 5 1]⟩), (2, ⟨rg [(8, 1), (16, 7)], [.t 7]⟩)], conds := [] }, by kernel_rfl, by kernel_rfl, by kernel_rfl, Nat.le_of_ble_eq_true (by kernel_rfl), by kernel_rfl, Aj5 (by kernel_rfl)⟩
def tabL : List (Nat × FT) := [(n_u3, ⟨2, 0, t_u3⟩), (n_u9, ⟨0, 0, t_u9⟩), (Sx1, ⟨1, 0, Qw7⟩), (Sx0, ⟨2, 0, Qw6⟩), (Kz6, ⟨2, 0, Qw5⟩), (Sw9, ⟨2, 0, Qw4⟩), (Sw8, ⟨0, 0, t_u15⟩), (Sw6, ⟨2, 0, Qw3⟩), (Dy6, ⟨2, 0, Qw2⟩), (Sw3, ⟨1, 0, Qw1⟩), (Sw2, ⟨2, 0, Qw0⟩), (Rj4, ⟨3, 0, Qv9⟩), (Sw1, ⟨2, 0, Qv8⟩), (Sw0, ⟨2, 0, Qv7⟩), (Rj3, ⟨2, 0, Qv6⟩), (Rj2, ⟨2, 0, Qv5⟩), (Sv9, ⟨2, 0, Qv4⟩), (Dy5, ⟨2, 0, Qv3⟩), (Rj1, ⟨2, 0, Qv2⟩), (Kz5, ⟨3, 0, Qv1⟩), (Sv8, ⟨2, 0, Qv0⟩), (Sv7, ⟨3, 0, Qq9⟩), (Sv6, ⟨2, 0, Qq8⟩), (Rj0, ⟨2, 0, Qq7⟩), (Qz9, ⟨2, 0, Qq6⟩), (Sv5, ⟨2, 0, Qq5⟩), (Sv4, ⟨1, 0, Qq4⟩), (Kz4, ⟨2, 0, Qq3⟩), (Cq1, ⟨1, 0, Qq2⟩), (Qz8, ⟨2, 0, Qq1⟩), (Eq1, ⟨1, 0, Qq0⟩), (Jy0, ⟨3, 0, Qk9⟩), (Sv3, ⟨1, 0, Qk8⟩), (Sv2, ⟨2, 0, Qk7⟩), (Sv1, ⟨1, 0, Qk6⟩), (Qz7, ⟨3, 0, Qk5⟩), (Sv0, ⟨2, 0, Qk4⟩), (Sq9, ⟨2, 0, Qk3⟩), (Sq8, ⟨3, 0, Qk2⟩), (Kz3, ⟨1, 0, Qk1⟩), (Sq7, ⟨3, 0, Qk0⟩), (Qz6, ⟨1, 0, Qj9⟩), (Qz5, ⟨2, 0, Qj8⟩), (Sq6, ⟨1, 0, Qj7⟩), (Sq5, ⟨2, 0, Qj6⟩), (Sq4, ⟨1, 0, Qj5⟩), (Cq0, ⟨1, 0, Qj4⟩), (Qz4, ⟨2, 0, Qj3⟩), (Gj3, ⟨2, 0, Qj2⟩), (Eq0, ⟨1, 0, Qj1⟩), (Qz3, ⟨1, 0, Qj0⟩), (Qz2, ⟨1, 0, Pz9⟩), (Qz1, ⟨1, 0, Pz8⟩), (Sq3, ⟨2, 0, Pz7⟩), (Qz0, ⟨2, 0, Pz6⟩), (Qy9, ⟨2, 0, Pz5⟩), (Sq2, ⟨1, 0, Pz4⟩), (Qy8, ⟨2, 0, Pz3⟩), (Sq1, ⟨1, 0, Pz2⟩), (Cw4, ⟨1, 0, Ez1⟩), (Fv6, ⟨2, 0, Ez0⟩), (Fv5, ⟨2, 0, Ey9⟩), (Kj3, ⟨1, 0, Ey8⟩), (Kj2, ⟨2, 0, Ey7⟩), (Kj1, ⟨2, 0, Ey6⟩), (Kj0, ⟨1, 0, Ey5⟩), (Jz9, ⟨1, 0, Ey4⟩), (Fv4, ⟨1, 1, Ey3⟩), (Jz8, ⟨2, 0, Ey2⟩), (Bx2, ⟨2, 0, Ey1⟩), (Dz0, ⟨1048577, 0, Ey0⟩), (Jz7, ⟨1048578, 0, Ex9⟩), (Fv3, ⟨1, 1, Ex8⟩), (Jz6, ⟨1, 0, Ex7⟩), (Jz5, ⟨1, 0, Ex6⟩), (Fv2, ⟨2, 0, Ex5⟩), (Jz4, ⟨4, 0, Ex4⟩), (Jz3, ⟨1, 0, Ex3⟩), (Jz2, ⟨2, 0, Ex2⟩), (Fv1, ⟨1, 0, Ex1⟩), (Ck4, ⟨1, 0, Ex0⟩), (Jz1, ⟨1, 0, Ew9⟩), (Aw9, ⟨2, 0, Ew8⟩), (Dy9, ⟨1, 0, Ew7⟩), (Jz0, ⟨1, 0, Ew6⟩), (Fv0, ⟨2, 0, Ew5⟩), (Jy9, ⟨2, 0, Ew4⟩), (Jy8, ⟨3, 0, Ew3⟩), (Fq9, ⟨2, 0, Ew2⟩), (Jy7, ⟨2, 0, Ew1⟩), (Jy6, ⟨2, 0, Ew0⟩), (Dy8, ⟨2, 0, Ev9⟩), (Fq8, ⟨1, 0, Ev8⟩), (Sw7, ⟨2, 0, t_u158⟩), (Jy5, ⟨2, 0, Ev7⟩), (Fq7, ⟨2, 0, Ev6⟩), (Fq6, ⟨2, 0, Ev5⟩), (Fq5, ⟨2, 0, Ev4⟩), (Jy4, ⟨2, 0, Ev3⟩), (Oz5, ⟨1, 0, t_u190⟩), (Sw5, ⟨1, 0, t_u191⟩), (Jy3, ⟨2, 0, Ev2⟩), (Jy2, ⟨1, 0, Ev1⟩), (By4, ⟨1, 0, Ev0⟩), (Aq8, ⟨2, 0, Eq9⟩), (Jy1, ⟨1, 0, Eq8⟩), (Sw4, ⟨1, 0, t_u214⟩), (Dy7, ⟨2, 0, Eq7⟩)]
def tab : Nat → Option FT := lkF tabL
theorem tab_ok : Tab Go.Proofs.Tryz.prog sg tab := tab_of tabL ⟨k_u3, k_u9, k_u10, k_u11, k_u12, k_u13, k_u15, k_u19, k_u23, k_u25, k_u26, k_u27, k_u28, k_u29, k_u30, k_u31, k_u32, k_u33, k_u34, k_u35, k_u36, k_u37, k_u38, k_u39, k_u40, k_u41, k_u42, k_u43, k_u55, k_u65, k_u66, k_u67, k_u68, k_u69, k_u70, k_u71, k_u72, k_u73, k_u74, k_u75, k_u76, k_u77, k_u78, k_u79, k_u80, k_u81, k_u82, k_u83, k_u84, k_u85, k_u86, k_u87, k_u88, k_u89, k_u90, k_u91, k_u92, k_u95, k_u98, k_u107, k_u108, k_u109, k_u110, k_u111, k_u112, k_u113, k_u114, k_u115, k_u116, k_u118, k_u119, k_u120, k_u121, k_u122, k_u123, k_u124, k_u125, k_u141, k_u142, k_u143, k_u144, k_u145, k_u146, k_u147, k_u148, k_u149, k_u150, k_u151, k_u152, k_u153, k_u154, k_u156, k_u157, k_u158, k_u159, k_u160, k_u178, k_u179, k_u189, k_u190, k_u191, k_u193, k_u206, k_u207, k_u208, k_u209, k_u214, k_u222, trivial⟩ (Xj1 (Aw0 (by kernel_rfl) (Aw0 (by kernel_rfl) (Aw0 (by kernel_rfl) (Aw0 (by kernel_rfl) (Aw0 (by kernel_rfl) (Aw0 (by kernel_rfl) (Aw0 (by kernel_rfl) (Aw0 (by kernel_rfl) (Aw0 (by kernel_rfl) (Aw0 (by kernel_rfl) (Aw0 (by kernel_rfl) (Aw0 (by kernel_rfl) (Aw0 (by kernel_rfl) (Aw0 (by kernel_rfl) (Aw0 (by kernel_rfl) (Aw0 (by kernel_rfl) (Aw0 (by kernel_rfl) bldl_nil))))))))))))))))))
theorem so_u117 : SOK Go.Proofs.Tryz.prog sg Cw3 ⟨false, 9, 1, [Bx2]⟩ :=
  ⟨by kernel_rfl, by kernel_rfl, ss_u117, ⟨Go.Proofs.Tryz.f117, by kernel_rfl, by kernel_rfl, by kernel_rfl⟩, (fun g hg => by
    simp only [List.mem_cons, List.mem_nil_iff, or_false] at hg
    rcases hg with rfl
    · exact ⟨Go.Proofs.Tryz.f118, by kernel_rfl, by kernel_rfl, by kernel_rfl⟩)⟩
def Kx6 : List (Nat × SK) := [(Cw3, ⟨false, 9, 1, [Bx2]⟩)]
def Ry7 : SK := ⟨false, 9, 1, [Bx2]⟩
theorem sl_u117 : lkS Kx6 Cw3 = some Ry7 := by kernel_rfl
theorem st_u117 : tab Cw3 = none := by kernel_rfl
theorem sorts_ok : SOKs Go.Proofs.Tryz.prog sg Kx6 := ⟨so_u117, trivial⟩
def exts : List (Nat × XK) := [(Oz6, .indexS), (Oz4, .countS), (Oz3, .cmpS)]
theorem exts_ok : XOKs Go.Proofs.Tryz.prog exts := ⟨⟨Go.Proofs.Tryz.f180, by kernel_rfl, by kernel_rfl, by kernel_rfl, by kernel_rfl, by kernel_rfl⟩, ⟨Go.Proofs.Tryz.f192, by kernel_rfl, by kernel_rfl, by kernel_rfl, by kernel_rfl, by kernel_rfl⟩, ⟨Go.Proofs.Tryz.f213, by kernel_rfl, by kernel_rfl, by kernel_rfl, by kernel_rfl, by kernel_rfl⟩, trivial⟩
theorem ext_ok (fn : Fns) (hC : Contract Go.Proofs.Tryz.prog sg fn) : Contract Go.Proofs.Tryz.prog sg (Aw4 exts Kx6 fn) := Tq3 exts_ok (Pv0 (by kernel_rfl)) sorts_ok fn hC
noncomputable def S : Fns := sem tab (Aw4 exts Kx6)
theorem s_u180 {args rs : List PV} (h : XK.run .indexS args = some rs) : S Oz6 args.length args = some rs := Fy8 (by kernel_rfl) (by kernel_rfl) (by kernel_rfl) h
theorem s_u192 {args rs : List PV} (h : XK.run .countS args = some rs) : S Oz4 args.length args = some rs := Fy8 (by kernel_rfl) (by kernel_rfl) (by kernel_rfl) h
theorem s_u213 {args rs : List PV} (h : XK.run .cmpS args = some rs) : S Oz3 args.length args = some rs := Fy8 (by kernel_rfl) (by kernel_rfl) (by kernel_rfl) h
theorem ext_mono : Az5 (Aw4 exts Kx6) := (Cq4 exts Kx6)
theorem s_u3 {N : Nat} {args rs : List PV} (hl : args.length = 2) (h : t_u3.ev S N args = some (.ret rs)) : S n_u3 2 args = some rs := Aj6 ext_mono (ft := ⟨2, 0, t_u3⟩) (by kernel_rfl) rfl hl h
theorem s_u9 {N : Nat} {args rs : List PV} (hl : args.length = 0) (h : t_u9.ev S N args = some (.ret rs)) : S n_u9 0 args = some rs := Aj6 ext_mono (ft := ⟨0, 0, t_u9⟩) (by kernel_rfl) rfl hl h
theorem s_u10 {N : Nat} {args rs : List PV} (hl : args.length = 1) (h : Qw7.ev S N args = some (.ret rs)) : S Sx1 1 args = some rs := Aj6 ext_mono (ft := ⟨1, 0, Qw7⟩) (by kernel_rfl) rfl hl h
theorem s_u11 {N : Nat} {args rs : List PV} (hl : args.length = 2) (h : Qw6.ev S N args = some (.ret rs)) : S Sx0 2 args = some rs := Aj6 ext_mono (ft := ⟨2, 0, Qw6⟩) (by kernel_rfl) rfl hl h
theorem s_u12 {N : Nat} {args rs : List PV} (hl : args.length = 2) (h : Qw5.ev S N args = some (.ret rs)) : S Kz6 2 args = some rs := Aj6 ext_mono (ft := ⟨2, 0, Qw5⟩) (by kernel_rfl) rfl hl h
theorem s_u13 {N : Nat} {args rs : List PV} (hl : args.length = 2) (h : Qw4.ev S N args = some (.ret rs)) : S Sw9 2 args = some rs := Aj6 ext_mono (ft := ⟨2, 0, Qw4⟩) (by kernel_rfl) rfl hl h
theorem s_u19 {N : Nat} {args rs : List PV} (hl : args.length = 2) (h : Qw3.ev S N args = some (.ret rs)) : S Sw6 2 args = some rs := Aj6 ext_mono (ft := ⟨2, 0, Qw3⟩) (by kernel_rfl) rfl hl h
theorem s_u23 {N : Nat} {args rs : List PV} (hl : args.length = 2) (h : Qw2.ev S N args = some (.ret rs)) : S Dy6 2 args = some rs := Aj6 ext_mono (ft := ⟨2, 0, Qw2⟩) (by kernel_rfl) rfl hl h
theorem s_u25 {N : Nat} {args rs : List PV} (hl : args.length = 1) (h : Qw1.ev S N args = some (.ret rs)) : S Sw3 1 args = some rs := Aj6 ext_mono (ft := ⟨1, 0, Qw1⟩) (by kernel_rfl) rfl hl h
theorem s_u26 {N : Nat} {args rs : List PV} (hl : args.length = 2) (h : Qw0.ev S N args = some (.ret rs)) : S Sw2 2 args = some rs := Aj6 ext_mono (ft := ⟨2, 0, Qw0⟩) (by kernel_rfl) rfl hl h
theorem s_u27 {N : Nat} {args rs : List PV} (hl : args.length = 3) (h : Qv9.ev S N args = some (.ret rs)) : S Rj4 3 args = some rs := Aj6 ext_mono (ft := ⟨3, 0, Qv9⟩) (by kernel_rfl) rfl hl h
theorem s_u28 {N : Nat} {args rs : List PV} (hl : args.length = 2) (h : Qv8.ev S N args = some (.ret rs)) : S Sw1 2 args = some rs := Aj6 ext_mono (ft := ⟨2, 0, Qv8⟩) (by kernel_rfl) rfl hl h
theorem s_u29 {N : Nat} {args rs : List PV} (hl : args.length = 2) (h : Qv7.ev S N args = some (.ret rs)) : S Sw0 2 args = some rs := Aj6 ext_mono (ft := ⟨2, 0, Qv7⟩) (by kernel_rfl) rfl hl h
theorem s_u30 {N : Nat} {args rs : List PV} (hl : args.length = 2) (h : Qv6.ev S N args = some (.ret rs)) : S Rj3 2 args = some rs := Aj6 ext_mono (ft := ⟨2, 0, Qv6⟩) (by kernel_rfl) rfl hl h
theorem s_u31 {N : Nat} {args rs : List PV} (hl : args.length = 2) (h : Qv5.ev S N args = some (.ret rs)) : S Rj2 2 args = some rs := Aj6 ext_mono (ft := ⟨2, 0, Qv5⟩) (by kernel_rfl) rfl hl h
theorem s_u32 {N : Nat} {args rs : List PV} (hl : args.length = 2) (h : Qv4.ev S N args = some (.ret rs)) : S Sv9 2 args = some rs := Aj6 ext_mono (ft := ⟨2, 0, Qv4⟩) (by kernel_rfl) rfl hl h
theorem s_u33 {N : Nat} {args rs : List PV} (hl : args.length = 2) (h : Qv3.ev S N args = some (.ret rs)) : S Dy5 2 args = some rs := Aj6 ext_mono (ft := ⟨2, 0, Qv3⟩) (by kernel_rfl) rfl hl h
theorem s_u34 {N : Nat} {args rs : List PV} (hl : args.length = 2) (h : Qv2.ev S N args = some (.ret rs)) : S Rj1 2 args = some rs := Aj6 ext_mono (ft := ⟨2, 0, Qv2⟩) (by kernel_rfl) rfl hl h
theorem s_u35 {N : Nat} {args rs : List PV} (hl : args.length = 3) (h : Qv1.ev S N args = some (.ret rs)) : S Kz5 3 args = some rs := Aj6 ext_mono (ft := ⟨3, 0, Qv1⟩) (by kernel_rfl) rfl hl h
theorem s_u36 {N : Nat} {args rs : List PV} (hl : args.length = 2) (h : Qv0.ev S N args = some (.ret rs)) : S Sv8 2 args = some rs := Aj6 ext_mono (ft := ⟨2, 0, Qv0⟩) (by kernel_rfl) rfl hl h
theorem s_u37 {N : Nat} {args rs : List PV} (hl : args.length = 3) (h : Qq9.ev S N args = some (.ret rs)) : S Sv7 3 args = some rs := Aj6 ext_mono (ft := ⟨3, 0, Qq9⟩) (by kernel_rfl) rfl hl h
theorem s_u38 {N : Nat} {args rs : List PV} (hl : args.length = 2) (h : Qq8.ev S N args = some (.ret rs)) : S Sv6 2 args = some rs := Aj6 ext_mono (ft := ⟨2, 0, Qq8⟩) (by kernel_rfl) rfl hl h
theorem s_u39 {N : Nat} {args rs : List PV} (hl : args.length = 2) (h : Qq7.ev S N args = some (.ret rs)) : S Rj0 2 args = some rs := Aj6 ext_mono (ft := ⟨2, 0, Qq7⟩) (by kernel_rfl) rfl hl h
theorem s_u40 {N : Nat} {args rs : List PV} (hl : args.length = 2) (h : Qq6.ev S N args = some (.ret rs)) : S Qz9 2 args = some rs := Aj6 ext_mono (ft := ⟨2, 0, Qq6⟩) (by kernel_rfl) rfl hl h
theorem s_u41 {N : Nat} {args rs : List PV} (hl : args.length = 2) (h : Qq5.ev S N args = some (.ret rs)) : S Sv5 2 args = some rs := Aj6 ext_mono (ft := ⟨2, 0, Qq5⟩) (by kernel_rfl) rfl hl h
theorem s_u42 {N : Nat} {args rs : List PV} (hl : args.length = 1) (h : Qq4.ev S N args = some (.ret rs)) : S Sv4 1 args = some rs := Aj6 ext_mono (ft := ⟨1, 0, Qq4⟩) (by kernel_rfl) rfl hl h
theorem s_u43 {N : Nat} {args rs : List PV} (hl : args.length = 2) (h : Qq3.ev S N args = some (.ret rs)) : S Kz4 2 args = some rs := Aj6 ext_mono (ft := ⟨2, 0, Qq3⟩) (by kernel_rfl) rfl hl h
theorem s_u55 {N : Nat} {args rs : List PV} (hl : args.length = 1) (h : Qq2.ev S N args = some (.ret rs)) : S Cq1 1 args = some rs := Aj6 ext_mono (ft := ⟨1, 0, Qq2⟩) (by kernel_rfl) rfl hl h
theorem s_u65 {N : Nat} {args rs : List PV} (hl : args.length = 2) (h : Qq1.ev S N args = some (.ret rs)) : S Qz8 2 args = some rs := Aj6 ext_mono (ft := ⟨2, 0, Qq1⟩) (by kernel_rfl) rfl hl h
theorem s_u66 {N : Nat} {args rs : List PV} (hl : args.length = 1) (h : Qq0.ev S N args = some (.ret rs)) : S Eq1 1 args = some rs := Aj6 ext_mono (ft := ⟨1, 0, Qq0⟩) (by kernel_rfl) rfl hl h
theorem s_u67 {N : Nat} {args rs : List PV} (hl : args.length = 3) (h : Qk9.ev S N args = some (.ret rs)) : S Jy0 3 args = some rs := Aj6 ext_mono (ft := ⟨3, 0, Qk9⟩) (by kernel_rfl) rfl hl h
theorem s_u68 {N : Nat} {args rs : List PV} (hl : args.length = 1) (h : Qk8.ev S N args = some (.ret rs)) : S Sv3 1 args = some rs := Aj6 ext_mono (ft := ⟨1, 0, Qk8⟩) (by kernel_rfl) rfl hl h
theorem s_u69 {N : Nat} {args rs : List PV} (hl : args.length = 2) (h : Qk7.ev S N args = some (.ret rs)) : S Sv2 2 args = some rs := Aj6 ext_mono (ft := ⟨2, 0, Qk7⟩) (by kernel_rfl) rfl hl h
theorem s_u70 {N : Nat} {args rs : List PV} (hl : args.length = 1) (h : Qk6.ev S N args = some (.ret rs)) : S Sv1 1 args = some rs := Aj6 ext_mono (ft := ⟨1, 0, Qk6⟩) (by kernel_rfl) rfl hl h
theorem s_u71 {N : Nat} {args rs : List PV} (hl : args.length = 3) (h : Qk5.ev S N args = some (.ret rs)) : S Qz7 3 args = some rs := Aj6 ext_mono (ft := ⟨3, 0, Qk5⟩) (by kernel_rfl) rfl hl h
theorem s_u72 {N : Nat} {args rs : List PV} (hl : args.length = 2) (h : Qk4.ev S N args = some (.ret rs)) : S Sv0 2 args = some rs := Aj6 ext_mono (ft := ⟨2, 0, Qk4⟩) (by kernel_rfl) rfl hl h
theorem s_u73 {N : Nat} {args rs : List PV} (hl : args.length = 2) (h : Qk3.ev S N args = some (.ret rs)) : S Sq9 2 args = some rs := Aj6 ext_mono (ft := ⟨2, 0, Qk3⟩) (by kernel_rfl) rfl hl h
theorem s_u74 {N : Nat} {args rs : List PV} (hl : args.length = 3) (h : Qk2.ev S N args = some (.ret rs)) : S Sq8 3 args = some rs := Aj6 ext_mono (ft := ⟨3, 0, Qk2⟩) (by kernel_rfl) rfl hl h
theorem s_u75 {N : Nat} {args rs : List PV} (hl : args.length = 1) (h : Qk1.ev S N args = some (.ret rs)) : S Kz3 1 args = some rs := Aj6 ext_mono (ft := ⟨1, 0, Qk1⟩) (by kernel_rfl) rfl hl h
theorem s_u76 {N : Nat} {args rs : List PV} (hl : args.length = 3) (h : Qk0.ev S N args = some (.ret rs)) : S Sq7 3 args = some rs := Aj6 ext_mono (ft := ⟨3, 0, Qk0⟩) (by kernel_rfl) rfl hl h
theorem s_u77 {N : Nat} {args rs : List PV} (hl : args.length = 1) (h : Qj9.ev S N args = some (.ret rs)) : S Qz6 1 args = some rs := Aj6 ext_mono (ft := ⟨1, 0, Qj9⟩) (by kernel_rfl) rfl hl h
theorem s_u78 {N : Nat} {args rs : List PV} (hl : args.length = 2) (h : Qj8.ev S N args = some (.ret rs)) : S Qz5 2 args = some rs := Aj6 ext_mono (ft := ⟨2, 0, Qj8⟩) (by kernel_rfl) rfl hl h
theorem s_u79 {N : Nat} {args rs : List PV} (hl : args.length = 1) (h : Qj7.ev S N args = some (.ret rs)) : S Sq6 1 args = some rs := Aj6 ext_mono (ft := ⟨1, 0, Qj7⟩) (by kernel_rfl) rfl hl h
theorem s_u80 {N : Nat} {args rs : List PV} (hl : args.length = 2) (h : Qj6.ev S N args = some (.ret rs)) : S Sq5 2 args = some rs := Aj6 ext_mono (ft := ⟨2, 0, Qj6⟩) (by kernel_rfl) rfl hl h
theorem s_u81 {N : Nat} {args rs : List PV} (hl : args.length = 1) (h : Qj5.ev S N args = some (.ret rs)) : S Sq4 1 args = some rs := Aj6 ext_mono (ft := ⟨1, 0, Qj5⟩) (by kernel_rfl) rfl hl h
theorem s_u82 {N : Nat} {args rs : List PV} (hl : args.length = 1) (h : Qj4.ev S N args = some (.ret rs)) : S Cq0 1 args = some rs := Aj6 ext_mono (ft := ⟨1, 0, Qj4⟩) (by kernel_rfl) rfl hl h
theorem s_u83 {N : Nat} {args rs : List PV} (hl : args.length = 2) (h : Qj3.ev S N args = some (.ret rs)) : S Qz4 2 args = some rs := Aj6 ext_mono (ft := ⟨2, 0, Qj3⟩) (by kernel_rfl) rfl hl h
theorem s_u84 {N : Nat} {args rs : List PV} (hl : args.length = 2) (h : Qj2.ev S N args = some (.ret rs)) : S Gj3 2 args = some rs := Aj6 ext_mono (ft := ⟨2, 0, Qj2⟩) (by kernel_rfl) rfl hl h
theorem s_u85 {N : Nat} {args rs : List PV} (hl : args.length = 1) (h : Qj1.ev S N args = some (.ret rs)) : S Eq0 1 args = some rs := Aj6 ext_mono (ft := ⟨1, 0, Qj1⟩) (by kernel_rfl) rfl hl h
theorem s_u86 {N : Nat} {args rs : List PV} (hl : args.length = 1) (h : Qj0.ev S N args = some (.ret rs)) : S Qz3 1 args = some rs := Aj6 ext_mono (ft := ⟨1, 0, Qj0⟩) (by kernel_rfl) rfl hl h
theorem s_u87 {N : Nat} {args rs : List PV} (hl : args.length = 1) (h : Pz9.ev S N args = some (.ret rs)) : S Qz2 1 args = some rs := Aj6 ext_mono (ft := ⟨1, 0, Pz9⟩) (by kernel_rfl) rfl hl h
theorem s_u88 {N : Nat} {args rs : List PV} (hl : args.length = 1) (h : Pz8.ev S N args = some (.ret rs)) : S Qz1 1 args = some rs := Aj6 ext_mono (ft := ⟨1, 0, Pz8⟩) (by kernel_rfl) rfl hl h
theorem s_u89 {N : Nat} {args rs : List PV} (hl : args.length = 2) (h : Pz7.ev S N args = some (.ret rs)) : S Sq3 2 args = some rs := Aj6 ext_mono (ft := ⟨2, 0, Pz7⟩) (by kernel_rfl) rfl hl h
theorem s_u90 {N : Nat} {args rs : List PV} (hl : args.length = 2) (h : Pz6.ev S N args = some (.ret rs)) : S Qz0 2 args = some rs := Aj6 ext_mono (ft := ⟨2, 0, Pz6⟩) (by kernel_rfl) rfl hl h
theorem s_u91 {N : Nat} {args rs : List PV} (hl : args.length = 2) (h : Pz5.ev S N args = some (.ret rs)) : S Qy9 2 args = some rs := Aj6 ext_mono (ft := ⟨2, 0, Pz5⟩) (by kernel_rfl) rfl hl h
theorem s_u92 {N : Nat} {args rs : List PV} (hl : args.length = 1) (h : Pz4.ev S N args = some (.ret rs)) : S Sq2 1 args = some rs := Aj6 ext_mono (ft := ⟨1, 0, Pz4⟩) (by kernel_rfl) rfl hl h
theorem s_u95 {N : Nat} {args rs : List PV} (hl : args.length = 2) (h : Pz3.ev S N args = some (.ret rs)) : S Qy8 2 args = some rs := Aj6 ext_mono (ft := ⟨2, 0, Pz3⟩) (by kernel_rfl) rfl hl h
theorem s_u98 {N : Nat} {args rs : List PV} (hl : args.length = 1) (h : Pz2.ev S N args = some (.ret rs)) : S Sq1 1 args = some rs := Aj6 ext_mono (ft := ⟨1, 0, Pz2⟩) (by kernel_rfl) rfl hl h
theorem s_u107 {N : Nat} {args rs : List PV} (hl : args.length = 1) (h : Ez1.ev S N args = some (.ret rs)) : S Cw4 1 args = some rs := Aj6 ext_mono (ft := ⟨1, 0, Ez1⟩) (by kernel_rfl) rfl hl h
theorem s_u108 {N : Nat} {args rs : List PV} (hl : args.length = 2) (h : Ez0.ev S N args = some (.ret rs)) : S Fv6 2 args = some rs := Aj6 ext_mono (ft := ⟨2, 0, Ez0⟩) (by kernel_rfl) rfl hl h
theorem s_u109 {N : Nat} {args rs : List PV} (hl : args.length = 2) (h : Ey9.ev S N args = some (.ret rs)) : S Fv5 2 args = some rs := Aj6 ext_mono (ft := ⟨2, 0, Ey9⟩) (by kernel_rfl) rfl hl h
theorem s_u110 {N : Nat} {args rs : List PV} (hl : args.length = 1) (h : Ey8.ev S N args = some (.ret rs)) : S Kj3 1 args = some rs := Aj6 ext_mono (ft := ⟨1, 0, Ey8⟩) (by kernel_rfl) rfl hl h
theorem s_u111 {N : Nat} {args rs : List PV} (hl : args.length = 2) (h : Ey7.ev S N args = some (.ret rs)) : S Kj2 2 args = some rs := Aj6 ext_mono (ft := ⟨2, 0, Ey7⟩) (by kernel_rfl) rfl hl h
theorem s_u112 {N : Nat} {args rs : List PV} (hl : args.length = 2) (h : Ey6.ev S N args = some (.ret rs)) : S Kj1 2 args = some rs := Aj6 ext_mono (ft := ⟨2, 0, Ey6⟩) (by kernel_rfl) rfl hl h
theorem s_u113 {N : Nat} {args rs : List PV} (hl : args.length = 1) (h : Ey5.ev S N args = some (.ret rs)) : S Kj0 1 args = some rs := Aj6 ext_mono (ft := ⟨1, 0, Ey5⟩) (by kernel_rfl) rfl hl h
theorem s_u114 {N : Nat} {args rs : List PV} (hl : args.length = 1) (h : Ey4.ev S N args = some (.ret rs)) : S Jz9 1 args = some rs := Aj6 ext_mono (ft := ⟨1, 0, Ey4⟩) (by kernel_rfl) rfl hl h
theorem s_u115 {N : Nat} {args rs : List PV} (hl : args.length = 2) (h : Ey3.ev S N args = some (.ret rs)) : S Fv4 1 args = some rs := Aj6 ext_mono (ft := ⟨1, 1, Ey3⟩) (by kernel_rfl) rfl hl h
theorem s_u116 {N : Nat} {args rs : List PV} (hl : args.length = 2) (h : Ey2.ev S N args = some (.ret rs)) : S Jz8 2 args = some rs := Aj6 ext_mono (ft := ⟨2, 0, Ey2⟩) (by kernel_rfl) rfl hl h
theorem s_u118 {N : Nat} {args rs : List PV} (hl : args.length = 2) (h : Ey1.ev S N args = some (.ret rs)) : S Bx2 2 args = some rs := Aj6 ext_mono (ft := ⟨2, 0, Ey1⟩) (by kernel_rfl) rfl hl h
theorem s_u119 {N : Nat} {args rs : List PV} (hl : args.length = 1) (h : Ey0.ev S N args = some (.ret rs)) : S Dz0 1048577 args = some rs := Aj6 ext_mono (ft := ⟨1048577, 0, Ey0⟩) (by kernel_rfl) rfl hl h
theorem s_u120 {N : Nat} {args rs : List PV} (hl : args.length = 2) (h : Ex9.ev S N args = some (.ret rs)) : S Jz7 1048578 args = some rs := Aj6 ext_mono (ft := ⟨1048578, 0, Ex9⟩) (by kernel_rfl) rfl hl h
theorem s_u121 {N : Nat} {args rs : List PV} (hl : args.length = 2) (h : Ex8.ev S N args = some (.ret rs)) : S Fv3 1 args = some rs := Aj6 ext_mono (ft := ⟨1, 1, Ex8⟩) (by kernel_rfl) rfl hl h
theorem s_u122 {N : Nat} {args rs : List PV} (hl : args.length = 1) (h : Ex7.ev S N args = some (.ret rs)) : S Jz6 1 args = some rs := Aj6 ext_mono (ft := ⟨1, 0, Ex7⟩) (by kernel_rfl) rfl hl h
theorem s_u123 {N : Nat} {args rs : List PV} (hl : args.length = 1) (h : Ex6.ev S N args = some (.ret rs)) : S Jz5 1 args = some rs := Aj6 ext_mono (ft := ⟨1, 0, Ex6⟩) (by kernel_rfl) rfl hl h
theorem s_u124 {N : Nat} {args rs : List PV} (hl : args.length = 2) (h : Ex5.ev S N args = some (.ret rs)) : S Fv2 2 args = some rs := Aj6 ext_mono (ft := ⟨2, 0, Ex5⟩) (by kernel_rfl) rfl hl h
theorem s_u125 {N : Nat} {args rs : List PV} (hl : args.length = 4) (h : Ex4.ev S N args = some (.ret rs)) : S Jz4 4 args = some rs := Aj6 ext_mono (ft := ⟨4, 0, Ex4⟩) (by kernel_rfl) rfl hl h
theorem s_u141 {N : Nat} {args rs : List PV} (hl : args.length = 1) (h : Ex3.ev S N args = some (.ret rs)) : S Jz3 1 args = some rs := Aj6 ext_mono (ft := ⟨1, 0, Ex3⟩) (by kernel_rfl) rfl hl h
theorem s_u142 {N : Nat} {args rs : List PV} (hl : args.length = 2) (h : Ex2.ev S N args = some (.ret rs)) : S Jz2 2 args = some rs := Aj6 ext_mono (ft := ⟨2, 0, Ex2⟩) (by kernel_rfl) rfl hl h
theorem s_u143 {N : Nat} {args rs : List PV} (hl : args.length = 1) (h : Ex1.ev S N args = some (.ret rs)) : S Fv1 1 args = some rs := Aj6 ext_mono (ft := ⟨1, 0, Ex1⟩) (by kernel_rfl) rfl hl h
theorem s_u144 {N : Nat} {args rs : List PV} (hl : args.length = 1) (h : Ex0.ev S N args = some (.ret rs)) : S Ck4 1 args = some rs := Aj6 ext_mono (ft := ⟨1, 0, Ex0⟩) (by kernel_rfl) rfl hl h
theorem s_u145 {N : Nat} {args rs : List PV} (hl : args.length = 1) (h : Ew9.ev S N args = some (.ret rs)) : S Jz1 1 args = some rs := Aj6 ext_mono (ft := ⟨1, 0, Ew9⟩) (by kernel_rfl) rfl hl h
theorem s_u146 {N : Nat} {args rs : List PV} (hl : args.length = 2) (h : Ew8.ev S N args = some (.ret rs)) : S Aw9 2 args = some rs := Aj6 ext_mono (ft := ⟨2, 0, Ew8⟩) (by kernel_rfl) rfl hl h
theorem s_u147 {N : Nat} {args rs : List PV} (hl : args.length = 1) (h : Ew7.ev S N args = some (.ret rs)) : S Dy9 1 args = some rs := Aj6 ext_mono (ft := ⟨1, 0, Ew7⟩) (by kernel_rfl) rfl hl h
theorem s_u148 {N : Nat} {args rs : List PV} (hl : args.length = 1) (h : Ew6.ev S N args = some (.ret rs)) : S Jz0 1 args = some rs := Aj6 ext_mono (ft := ⟨1, 0, Ew6⟩) (by kernel_rfl) rfl hl h
theorem s_u149 {N : Nat} {args rs : List PV} (hl : args.length = 2) (h : Ew5.ev S N args = some (.ret rs)) : S Fv0 2 args = some rs := Aj6 ext_mono (ft := ⟨2, 0, Ew5⟩) (by kernel_rfl) rfl hl h
theorem s_u150 {N : Nat} {args rs : List PV} (hl : args.length = 2) (h : Ew4.ev S N args = some (.ret rs)) : S Jy9 2 args = some rs := Aj6 ext_mono (ft := ⟨2, 0, Ew4⟩) (by kernel_rfl) rfl hl h
theorem s_u151 {N : Nat} {args rs : List PV} (hl : args.length = 3) (h : Ew3.ev S N args = some (.ret rs)) : S Jy8 3 args = some rs := Aj6 ext_mono (ft := ⟨3, 0, Ew3⟩) (by kernel_rfl) rfl hl h
theorem s_u152 {N : Nat} {args rs : List PV} (hl : args.length = 2) (h : Ew2.ev S N args = some (.ret rs)) : S Fq9 2 args = some rs := Aj6 ext_mono (ft := ⟨2, 0, Ew2⟩) (by kernel_rfl) rfl hl h
theorem s_u153 {N : Nat} {args rs : List PV} (hl : args.length = 2) (h : Ew1.ev S N args = some (.ret rs)) : S Jy7 2 args = some rs := Aj6 ext_mono (ft := ⟨2, 0, Ew1⟩) (by kernel_rfl) rfl hl h
theorem s_u154 {N : Nat} {args rs : List PV} (hl : args.length = 2) (h : Ew0.ev S N args = some (.ret rs)) : S Jy6 2 args = some rs := Aj6 ext_mono (ft := ⟨2, 0, Ew0⟩) (by kernel_rfl) rfl hl h
theorem s_u156 {N : Nat} {args rs : List PV} (hl : args.length = 2) (h : Ev9.ev S N args = some (.ret rs)) : S Dy8 2 args = some rs := Aj6 ext_mono (ft := ⟨2, 0, Ev9⟩) (by kernel_rfl) rfl hl h
theorem s_u157 {N : Nat} {args rs : List PV} (hl : args.length = 1) (h : Ev8.ev S N args = some (.ret rs)) : S Fq8 1 args = some rs := Aj6 ext_mono (ft := ⟨1, 0, Ev8⟩) (by kernel_rfl) rfl hl h
theorem s_u159 {N : Nat} {args rs : List PV} (hl : args.length = 2) (h : Ev7.ev S N args = some (.ret rs)) : S Jy5 2 args = some rs := Aj6 ext_mono (ft := ⟨2, 0, Ev7⟩) (by kernel_rfl) rfl hl h
theorem s_u160 {N : Nat} {args rs : List PV} (hl : args.length = 2) (h : Ev6.ev S N args = some (.ret rs)) : S Fq7 2 args = some rs := Aj6 ext_mono (ft := ⟨2, 0, Ev6⟩) (by kernel_rfl) rfl hl h
theorem s_u178 {N : Nat} {args rs : List PV} (hl : args.length = 2) (h : Ev5.ev S N args = some (.ret rs)) : S Fq6 2 args = some rs := Aj6 ext_mono (ft := ⟨2, 0, Ev5⟩) (by kernel_rfl) rfl hl h
theorem s_u179 {N : Nat} {args rs : List PV} (hl : args.length = 2) (h : Ev4.ev S N args = some (.ret rs)) : S Fq5 2 args = some rs := Aj6 ext_mono (ft := ⟨2, 0, Ev4⟩) (by kernel_rfl) rfl hl h
theorem s_u189 {N : Nat} {args rs : List PV} (hl : args.length = 2) (h : Ev3.ev S N args = some (.ret rs)) : S Jy4 2 args = some rs := Aj6 ext_mono (ft := ⟨2, 0, Ev3⟩) (by kernel_rfl) rfl hl h
theorem s_u193 {N : Nat} {args rs : List PV} (hl : args.length = 2) (h : Ev2.ev S N args = some (.ret rs)) : S Jy3 2 args = some rs := Aj6 ext_mono (ft := ⟨2, 0, Ev2⟩) (by kernel_rfl) rfl hl h
theorem s_u206 {N : Nat} {args rs : List PV} (hl : args.length = 1) (h : Ev1.ev S N args = some (.ret rs)) : S Jy2 1 args = some rs := Aj6 ext_mono (ft := ⟨1, 0, Ev1⟩) (by kernel_rfl) rfl hl h
theorem s_u207 {N : Nat} {args rs : List PV} (hl : args.length = 1) (h : Ev0.ev S N args = some (.ret rs)) : S By4 1 args = some rs := Aj6 ext_mono (ft := ⟨1, 0, Ev0⟩) (by kernel_rfl) rfl hl h
theorem s_u208 {N : Nat} {args rs : List PV} (hl : args.length = 2) (h : Eq9.ev S N args = some (.ret rs)) : S Aq8 2 args = some rs := Aj6 ext_mono (ft := ⟨2, 0, Eq9⟩) (by kernel_rfl) rfl hl h
theorem s_u209 {N : Nat} {args rs : List PV} (hl : args.length = 1) (h : Eq8.ev S N args = some (.ret rs)) : S Jy1 1 args = some rs := Aj6 ext_mono (ft := ⟨1, 0, Eq8⟩) (by kernel_rfl) rfl hl h
theorem s_u222 {N : Nat} {args rs : List PV} (hl : args.length = 2) (h : Eq7.ev S N args = some (.ret rs)) : S Dy7 2 args = some rs := Aj6 ext_mono (ft := ⟨2, 0, Eq7⟩) (by kernel_rfl) rfl hl h
end Go.X.G
