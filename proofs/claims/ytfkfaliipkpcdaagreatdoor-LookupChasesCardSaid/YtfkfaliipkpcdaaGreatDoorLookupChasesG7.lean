/- The residual programs of the functions, printed by a program (gen.py) out of the executor's own reckoning; each is checked by the kernel. -/
import Derived.Test.YtfkfaliipkpcdaaGreatDoorLookupChasesG4
import Derived.Test.YtfkfaliipkpcdaaGreatDoorLookupChasesG5
import Derived.Test.YtfkfaliipkpcdaaGreatDoorLookupChasesG6
import Derived.Test.YtfkfaliipkpcdaaGreatDoorProg
import Derived.KernelRfl
set_option maxHeartbeats 1000000
set_option linter.unusedVariables false
set_option linter.unusedSimpArgs false
set_option maxRecDepth 100000
set_option linter.defProp false
namespace Go.X.G
open Go Go.X

def rgs (a : Nat) : Nat → List Nat
 | 0 => []
 | n + 1 => a :: rgs (a + 1) n
def rg : List (Nat × Nat) → List Nat
 | [] => []
 | (a, n) :: r => rgs a n ++ rg r

def n_u4 : Nat := 4
def Sq4 : Nat := 10
def Sq3 : Nat := 11
def Sq2 : Nat := 12
def Sq1 : Nat := 13
def Pz3 : Nat := 14
def Yq4 : Nat := 15
def Sk9 : Nat := 16
def Sk8 : Nat := 19
def Dk9 : Nat := 23
def Sk5 : Nat := 25
def Sk4 : Nat := 26
def Pz2 : Nat := 27
def Sk3 : Nat := 28
def Sk2 : Nat := 29
def Pz1 : Nat := 30
def Pz0 : Nat := 31
def Sk1 : Nat := 32
def Dk8 : Nat := 33
def Py9 : Nat := 34
def Jz0 : Nat := 35
def Sk0 : Nat := 36
def Sj9 : Nat := 37
def Sj8 : Nat := 38
def Py8 : Nat := 39
def Py7 : Nat := 40
def Sj7 : Nat := 41
def Sj6 : Nat := 42
def Ix8 : Nat := 43
def Sj5 : Nat := 44
def Cq5 : Nat := 55
def Py6 : Nat := 65
def Eq0 : Nat := 66
def Ix7 : Nat := 67
def Sj4 : Nat := 68
def Sj3 : Nat := 69
def Sj2 : Nat := 70
def Py5 : Nat := 71
def Sj1 : Nat := 72
def Sj0 : Nat := 73
def Rz9 : Nat := 74
def Jy9 : Nat := 75
def Rz8 : Nat := 76
def Py4 : Nat := 77
def Py3 : Nat := 78
def Rz7 : Nat := 79
def Rz6 : Nat := 80
def Rz5 : Nat := 81
def Cq4 : Nat := 82
def Py2 : Nat := 83
def Fy2 : Nat := 84
def Ek9 : Nat := 85
def Py1 : Nat := 86
def Py0 : Nat := 87
def Px9 : Nat := 88
def Rz4 : Nat := 89
def Px8 : Nat := 90
def Px7 : Nat := 91
def Rz3 : Nat := 92
def Px6 : Nat := 95
def Rz2 : Nat := 98
def Cw8 : Nat := 107
def Fk4 : Nat := 108
def Fk3 : Nat := 109
def Jj1 : Nat := 110
def Jj0 : Nat := 111
def Iz9 : Nat := 112
def Iz8 : Nat := 113
def Iz7 : Nat := 114
def Fk2 : Nat := 115
def Iz6 : Nat := 116
def Cw7 : Nat := 117
def Bx4 : Nat := 118
def Dy8 : Nat := 119
def Iz5 : Nat := 120
def Fk1 : Nat := 121
def Iz4 : Nat := 122
def Iz3 : Nat := 123
def Fk0 : Nat := 124
def Iz2 : Nat := 125
def Iz1 : Nat := 141
def Iz0 : Nat := 142
def Fj9 : Nat := 143
def Ck8 : Nat := 144
def Iy9 : Nat := 145
def Ax1 : Nat := 146
def Dy7 : Nat := 147
def Iy8 : Nat := 148
def Fj8 : Nat := 149
def Iy7 : Nat := 150
def Iy6 : Nat := 151
def Fj7 : Nat := 152
def Iy5 : Nat := 153
def Iy4 : Nat := 154
def Dy6 : Nat := 156
def Fj6 : Nat := 157
def Sq0 : Nat := 158
def Iy3 : Nat := 159
def Fj5 : Nat := 160
def Fj4 : Nat := 178
def Fj3 : Nat := 179
def Nx8 : Nat := 180
def Iy2 : Nat := 189
def Nx7 : Nat := 190
def Sk7 : Nat := 191
def Nx6 : Nat := 192
def Iy1 : Nat := 193
def Iy0 : Nat := 206
def By5 : Nat := 207
def Aq8 : Nat := 208
def Ix9 : Nat := 209
def Nx5 : Nat := 213
def Sk6 : Nat := 214
def Dy5 : Nat := 222

def c0_u4 : T := (.yld 1 [.bin .add (.v 10) (.c (.i .i64 1))])
def c1_u4 : T := (.ite (.un .not (.v 11)) (.ret [.c (.b false)]) c0_u4)
def c2_u4 : T := (.w (.call none true Sq3 [.sub 0 5 (.idx 5 (.v 6) (.v 10)), .sub 0 5 (.idx 5 (.v 8) (.v 10))] 1) c1_u4)
def b0_u4 : T := (.ite (.bin .lss (.v 10) (.len (.v 6))) c2_u4 (.yld 0 []))
def l0_u4 : T := .loop 1 [.c (.i .i64 0)] b0_u4
def c3_u4 : T := (.blk 0 l0_u4 (.ret [.c (.b true)]))
def c4_u4 : T := (.ite (.ite (.bin .neq (.len (.v 6)) (.len (.v 8))) (.c (.b true)) (.eqs true false [.b] (.v 7) (.v 9))) (.ret [.c (.b false)]) c3_u4)
def c5_u4 : T := (.w (.call none false Sk9 [.sub 0 2 (.v 0), .sub 0 2 (.v 1)] 2) c4_u4)
def c6_u4 : T := (.w (.call none false Pz3 [.sub 0 2 (.v 0), .sub 0 2 (.v 1)] 2) c5_u4)
def c7_u4 : T := (.ite (.ite (.un .not (.v 5)) (.c (.b true)) (.bin .gtr (.slen (.proj 0 (.v 1))) (.c (.i .i64 300)))) (.ret [.c (.b true)]) c6_u4)
def c8_u4 : T := (.w (.call none true Sq4 [.sub 0 2 (.v 0)] 1) c7_u4)
def c9_u4 : T := (.ite (.ite (.ite (.bin .neq (.len (.v 3)) (.c (.i .i64 1))) (.c (.b true)) (.un .not (.v 4))) (.c (.b true)) (.bin .neq (.proj 0 (.idx 5 (.v 3) (.c (.i .i64 0)))) (.c (.i .i64 1)))) (.ret [.c (.b false)]) c8_u4)
def Wj7 : T := (.w (.chk (.scal (.c (.s [97, 46, 120, 46])))) (.w (.chk (.scal (.c (.i .i64 1)))) (.w (.call none false Pz3 [.v 2, .agg [.c (.s [97, 46, 120, 46]), .c (.i .i64 1)]] 2) c9_u4)))
def t_u4 : T := (.w (.chk (.fit 2 (.v 0))) (.w (.chk (.fit 2 (.v 1))) (.w (.call none false Yq4 [] 1) Wj7)))
theorem x_u4 : type_of% (And.intro (tev_eq @c0_u4.eq_1) (And.intro (tev_eq @c1_u4.eq_1) (And.intro (tev_eq @c2_u4.eq_1) (And.intro (tev_eq @b0_u4.eq_1) (And.intro (tev_eq @c3_u4.eq_1) (And.intro (tev_eq @c4_u4.eq_1) (And.intro (tev_eq @c5_u4.eq_1) (And.intro (tev_eq @c6_u4.eq_1) (And.intro (tev_eq @c7_u4.eq_1) (And.intro (tev_eq @c8_u4.eq_1) (And.intro (tev_eq @c9_u4.eq_1) (And.intro (tev_eq @Wj7.eq_1) (tev_eq @t_u4.eq_1))))))))))))) := (And.intro (tev_eq @c0_u4.eq_1) (And.intro (tev_eq @c1_u4.eq_1) (And.intro (tev_eq @c2_u4.eq_1) (And.intro (tev_eq @b0_u4.eq_1) (And.intro (tev_eq @c3_u4.eq_1) (And.intro (tev_eq @c4_u4.eq_1) (And.intro (tev_eq @c5_u4.eq_1) (And.intro (tev_eq @c6_u4.eq_1) (And.intro (tev_eq @c7_u4.eq_1) (And.intro (tev_eq @c8_u4.eq_1) (And.intro (tev_eq @c9_u4.eq_1) (And.intro (tev_eq @Wj7.eq_1) (tev_eq @t_u4.eq_1)))))))))))))
def Wx8 : T := (.ret [.ite (.bin .leq (.len (.proj 1 (.v 0))) (.c (.i .i64 60))) (.bin .eql (.v 1) (.c (.i .i64 0))) (.c (.b false))])
def Pk3 : T := (.w (.chk (.fit 2 (.v 0))) (.w (.call (some (.bin .leq (.len (.proj 1 (.v 0))) (.c (.i .i64 60)))) true Sk5 [.sub 0 2 (.v 0)] 1) Wx8))
theorem x_u10 : type_of% (And.intro (tev_eq @Wx8.eq_1) (tev_eq @Pk3.eq_1)) := (And.intro (tev_eq @Wx8.eq_1) (tev_eq @Pk3.eq_1))
def Wx7 : T := (.ret [.ite (.ite (.ite (.ite (.bin .eql (.proj 0 (.v 0)) (.proj 0 (.v 1))) (.bin .eql (.proj 1 (.v 0)) (.proj 1 (.v 1))) (.c (.b false))) (.eqs false false [.b] (.proj 2 (.v 0)) (.proj 2 (.v 1))) (.c (.b false))) (.bin .eql (.proj 3 (.v 0)) (.proj 3 (.v 1))) (.c (.b false))) (.v 2) (.c (.b false))])
def Pk2 : T := (.w (.chk (.fit 5 (.v 0))) (.w (.chk (.fit 5 (.v 1))) (.w (.call (some (.ite (.ite (.ite (.bin .eql (.proj 0 (.v 0)) (.proj 0 (.v 1))) (.bin .eql (.proj 1 (.v 0)) (.proj 1 (.v 1))) (.c (.b false))) (.eqs false false [.b] (.proj 2 (.v 0)) (.proj 2 (.v 1))) (.c (.b false))) (.bin .eql (.proj 3 (.v 0)) (.proj 3 (.v 1))) (.c (.b false)))) true Sk8 [.proj 4 (.v 0), .proj 4 (.v 1)] 1) Wx7)))
theorem x_u11 : type_of% (And.intro (tev_eq @Wx7.eq_1) (tev_eq @Pk2.eq_1)) := (And.intro (tev_eq @Wx7.eq_1) (tev_eq @Pk2.eq_1))
def Wx6 : T := (.ret [.agg [.c (.i .i64 0), .c (.s []), .c (.b false), .c (.s []), .c (.l 16 [])]])
def Wj6 : T := (.w (.chk (.scal (.c (.i .i64 4)))) (.w (.chk (.scal (.v 3))) (.w (.chk (.scal (.v 5))) (.ret [.agg [.c (.i .i64 4), .v 3, .c (.b false), .c (.s []), .v 5]]))))
def Vw3 : T := (.w (.call none false Pz2 [.sub 0 2 (.v 0), .v 3, .c (.i .i64 2)] 1) Wj6)
def Vj3 : T := (.w (.chk (.fit 5 (.sub 0 5 (.v 5)))) (.ret [.sub 0 5 (.sub 0 5 (.v 5))]))
def Ux6 : T := (.w (.chk (.fit 5 (.v 9))) (.w (.chk (.scal (.proj 0 (.v 1)))) (.ret [.agg [.proj 0 (.v 9), .proj 0 (.v 1), .proj 2 (.v 9), .proj 3 (.v 9), .proj 4 (.v 9)]])))
def Uv0 : T := (.w (.call none false Pz1 [.v 8, .proj 1 (.v 1)] 1) Ux6)
def Uj3 : T := (.w (.call none false Pz0 [.sub 0 2 (.v 0), .proj 0 (.v 1)] 1) Uv0)
def Tx9 : T := (.w (.chk (.fit 5 (.sub 0 5 (.v 8)))) (.ret [.sub 0 5 (.sub 0 5 (.v 8))]))
def Tv9 : T := (.w (.chk (.scal (.c (.i .i64 6)))) (.w (.chk (.scal (.proj 0 (.v 1)))) (.ret [.agg [.c (.i .i64 6), .proj 0 (.v 1), .c (.b false), .c (.s []), .c (.l 16 [])]])))
def Tq3 : T := (.w (.chk (.fit 5 (.v 8))) (.ite (.v 9) Tx9 Tv9))
def Mx7 : T := (.w (.call none false Sk1 [.sub 0 2 (.v 0), .sub 0 2 (.v 1)] 2) Tq3)
def Mw5 : T := (.ite (.v 7) Uj3 Mx7)
def Mv6 : T := (.w (.call none true Sk2 [.sub 0 2 (.v 0), .proj 0 (.v 1)] 1) Mw5)
def Mq9 : T := (.w (.chk (.fit 5 (.v 5))) (.ite (.v 6) Vj3 Mv6))
def Hw8 : T := (.w (.call none false Sk3 [.sub 0 2 (.v 0), .proj 0 (.v 1)] 2) Mq9)
def Mk8 : T := (.w (.chk (.ite (.ite (.v 4) (.un .not (.bin .neq (.v 3) (.proj 0 (.v 1)))) (.c (.b false))) (.bin .neq (.proj 1 (.v 1)) (.c (.i .i64 43))) (.c .u))) (.ite (.ite (.v 4) (.ite (.bin .neq (.v 3) (.proj 0 (.v 1))) (.c (.b true)) (.bin .neq (.proj 1 (.v 1)) (.c (.i .i64 43)))) (.c (.b false))) Vw3 Hw8))
def Mk3 : T := (.w (.call none true Sk4 [.sub 0 2 (.v 0), .proj 0 (.v 1)] 2) Mk8)
def Mj9 : T := (.ite (.un .not (.v 2)) Wx6 Mk3)
def Pk1 : T := (.w (.chk (.fit 2 (.v 0))) (.w (.chk (.fit 2 (.v 1))) (.w (.call none true Dk9 [.proj 0 (.v 1), .proj 0 (.v 0)] 1) Mj9)))
theorem Fv9 : type_of% (And.intro (tev_eq @Wx6.eq_1) (And.intro (tev_eq @Wj6.eq_1) (And.intro (tev_eq @Vw3.eq_1) (And.intro (tev_eq @Vj3.eq_1) (And.intro (tev_eq @Ux6.eq_1) (And.intro (tev_eq @Uv0.eq_1) (And.intro (tev_eq @Uj3.eq_1) (And.intro (tev_eq @Tx9.eq_1) (And.intro (tev_eq @Tv9.eq_1) (And.intro (tev_eq @Tq3.eq_1) (And.intro (tev_eq @Mx7.eq_1) (And.intro (tev_eq @Mw5.eq_1) (And.intro (tev_eq @Mv6.eq_1) (And.intro (tev_eq @Mq9.eq_1) (And.intro (tev_eq @Hw8.eq_1) (And.intro (tev_eq @Mk8.eq_1) (And.intro (tev_eq @Mk3.eq_1) (And.intro (tev_eq @Mj9.eq_1) (tev_eq @Pk1.eq_1))))))))))))))))))) := (And.intro (tev_eq @Wx6.eq_1) (And.intro (tev_eq @Wj6.eq_1) (And.intro (tev_eq @Vw3.eq_1) (And.intro (tev_eq @Vj3.eq_1) (And.intro (tev_eq @Ux6.eq_1) (And.intro (tev_eq @Uv0.eq_1) (And.intro (tev_eq @Uj3.eq_1) (And.intro (tev_eq @Tx9.eq_1) (And.intro (tev_eq @Tv9.eq_1) (And.intro (tev_eq @Tq3.eq_1) (And.intro (tev_eq @Mx7.eq_1) (And.intro (tev_eq @Mw5.eq_1) (And.intro (tev_eq @Mv6.eq_1) (And.intro (tev_eq @Mq9.eq_1) (And.intro (tev_eq @Hw8.eq_1) (And.intro (tev_eq @Mk8.eq_1) (And.intro (tev_eq @Mk3.eq_1) (And.intro (tev_eq @Mj9.eq_1) (tev_eq @Pk1.eq_1)))))))))))))))))))
def Wx5 : T := (.ret [.agg [.c (.i .i64 0), .c (.s []), .c (.b false), .c (.s []), .c (.l 16 [])]])
def Wj5 : T := (.w (.chk (.scal (.c (.i .i64 4)))) (.w (.chk (.scal (.v 3))) (.w (.chk (.scal (.v 5))) (.ret [.agg [.c (.i .i64 4), .v 3, .c (.b false), .c (.s []), .v 5]]))))
def Vw2 : T := (.w (.call none false Jz0 [.sub 0 2 (.v 0), .v 3, .c (.i .i64 2)] 1) Wj5)
def Vj2 : T := (.ite (.ite (.bin .gtr (.slen (.v 8)) (.c (.i .i64 0))) (.bin .eql (.sidx (.v 8) (.c (.i .i64 0))) (.c (.i .u8 42))) (.c (.b false))) (.yld 0 [.c (.s [])]) (.yld 0 [.v 8]))
def Ux5 : T := (.w (.chk (.scal (.c (.i .i64 3)))) (.w (.chk (.scal (.v 5))) (.w (.chk (.scal (.v 10))) (.w (.chk (.scal (.v 7))) (.ret [.agg [.c (.i .i64 3), .v 5, .c (.b false), .v 10, .v 7]])))))
def Uq9 : T := (.blk 0 Vj2 Ux5)
def Uj2 : T := (.w (.call none true Sj9 [.proj 0 (.v 1), .v 5, .proj 6 (.idx 16 (.v 7) (.c (.i .i64 0)))] 2) Uq9)
def Tx8 : T := (.w (.call none false Jz0 [.sub 0 2 (.v 0), .v 5, .c (.i .i64 39)] 1) Uj2)
def Tv8 : T := (.w (.chk (.fit 5 (.v 9))) (.w (.chk (.scal (.proj 0 (.v 1)))) (.ret [.agg [.proj 0 (.v 9), .proj 0 (.v 1), .proj 2 (.v 9), .proj 3 (.v 9), .proj 4 (.v 9)]])))
def Tq2 : T := (.w (.call none false Py8 [.v 8, .proj 1 (.v 1)] 1) Tv8)
def Mx6 : T := (.w (.call none false Py7 [.sub 0 2 (.v 0), .proj 0 (.v 1)] 1) Tq2)
def Mw4 : T := (.w (.chk (.scal (.c (.i .i64 6)))) (.w (.chk (.scal (.proj 0 (.v 1)))) (.ret [.agg [.c (.i .i64 6), .proj 0 (.v 1), .c (.b false), .c (.s []), .c (.l 16 [])]])))
def Mv5 : T := (.w (.chk (.idx 16 (.v 13) (.v 14))) (.w (.chk (.scal (.proj 0 (.v 1)))) (.yld 1 [.set 16 (.v 13) (.v 14) 0 [.proj 0 (.v 1)], .bin .add (.v 14) (.c (.i .i64 1))])))
def Xk8 : T := (.ite (.bin .lss (.v 14) (.len (.v 13))) Mv5 (.yld 0 [.v 13]))
def Zx3 : T := .loop 1 [.v 12, .c (.i .i64 0)] Xk8
def Mq8 : T := (.w (.chk (.fit 5 (.v 14))) (.w (.chk (.scal (.v 10))) (.w (.chk (.scal (.c (.b true)))) (.ret [.agg [.proj 0 (.v 14), .v 10, .c (.b true), .proj 3 (.v 14), .proj 4 (.v 14)]]))))
def Mq3 : T := (.w (.call none false Py8 [.v 13, .proj 1 (.v 1)] 1) Mq8)
def Mk7 : T := (.blk 0 Zx3 Mq3)
def Mk2 : T := (.ite (.ite (.un .not (.v 11)) (.c (.b true)) (.bin .eql (.len (.v 12)) (.c (.i .i64 0)))) Mw4 Mk7)
def Mj8 : T := (.w (.call none false Py7 [.sub 0 2 (.v 0), .v 10] 1) Mk2)
def Mj5 : T := (.w (.call none true Sj6 [.v 8] 2) Mj8)
def Mj2 : T := (.w (.call none true Sj7 [.sub 0 2 (.v 0), .proj 0 (.v 1)] 2) Mj5)
def Lx3 : T := (.ite (.v 7) Mx6 Mj2)
def Lx0 : T := (.w (.call none true Sj8 [.sub 0 2 (.v 0), .proj 0 (.v 1)] 1) Lx3)
def Lw8 : T := (.ite (.v 6) Tx8 Lx0)
def Hk0 : T := (.w (.call none true Sk0 [.sub 0 2 (.v 0), .proj 0 (.v 1)] 2) Lw8)
def Lw6 : T := (.w (.chk (.ite (.ite (.v 4) (.un .not (.bin .neq (.v 3) (.proj 0 (.v 1)))) (.c (.b false))) (.bin .neq (.proj 1 (.v 1)) (.c (.i .i64 43))) (.c .u))) (.ite (.ite (.v 4) (.ite (.bin .neq (.v 3) (.proj 0 (.v 1))) (.c (.b true)) (.bin .neq (.proj 1 (.v 1)) (.c (.i .i64 43)))) (.c (.b false))) Vw2 Hk0))
def Lw5 : T := (.w (.call none true Py9 [.sub 0 2 (.v 0), .proj 0 (.v 1)] 2) Lw6)
def Lw4 : T := (.ite (.un .not (.v 2)) Wx5 Lw5)
def Pk0 : T := (.w (.chk (.fit 2 (.v 0))) (.w (.chk (.fit 2 (.v 1))) (.w (.call none true Dk8 [.proj 0 (.v 1), .proj 0 (.v 0)] 1) Lw4)))
theorem Cv2 : type_of% (And.intro (tev_eq @Wx5.eq_1) (And.intro (tev_eq @Wj5.eq_1) (And.intro (tev_eq @Vw2.eq_1) (And.intro (tev_eq @Vj2.eq_1) (And.intro (tev_eq @Ux5.eq_1) (And.intro (tev_eq @Uq9.eq_1) (And.intro (tev_eq @Uj2.eq_1) (And.intro (tev_eq @Tx8.eq_1) (And.intro (tev_eq @Tv8.eq_1) (And.intro (tev_eq @Tq2.eq_1) (And.intro (tev_eq @Mx6.eq_1) (And.intro (tev_eq @Mw4.eq_1) (And.intro (tev_eq @Mv5.eq_1) (And.intro (tev_eq @Xk8.eq_1) (And.intro (tev_eq @Mq8.eq_1) (And.intro (tev_eq @Mq3.eq_1) (And.intro (tev_eq @Mk7.eq_1) (And.intro (tev_eq @Mk2.eq_1) (And.intro (tev_eq @Mj8.eq_1) (And.intro (tev_eq @Mj5.eq_1) (And.intro (tev_eq @Mj2.eq_1) (And.intro (tev_eq @Lx3.eq_1) (And.intro (tev_eq @Lx0.eq_1) (And.intro (tev_eq @Lw8.eq_1) (And.intro (tev_eq @Hk0.eq_1) (And.intro (tev_eq @Lw6.eq_1) (And.intro (tev_eq @Lw5.eq_1) (And.intro (tev_eq @Lw4.eq_1) (tev_eq @Pk0.eq_1))))))))))))))))))))))))))))) := (And.intro (tev_eq @Wx5.eq_1) (And.intro (tev_eq @Wj5.eq_1) (And.intro (tev_eq @Vw2.eq_1) (And.intro (tev_eq @Vj2.eq_1) (And.intro (tev_eq @Ux5.eq_1) (And.intro (tev_eq @Uq9.eq_1) (And.intro (tev_eq @Uj2.eq_1) (And.intro (tev_eq @Tx8.eq_1) (And.intro (tev_eq @Tv8.eq_1) (And.intro (tev_eq @Tq2.eq_1) (And.intro (tev_eq @Mx6.eq_1) (And.intro (tev_eq @Mw4.eq_1) (And.intro (tev_eq @Mv5.eq_1) (And.intro (tev_eq @Xk8.eq_1) (And.intro (tev_eq @Mq8.eq_1) (And.intro (tev_eq @Mq3.eq_1) (And.intro (tev_eq @Mk7.eq_1) (And.intro (tev_eq @Mk2.eq_1) (And.intro (tev_eq @Mj8.eq_1) (And.intro (tev_eq @Mj5.eq_1) (And.intro (tev_eq @Mj2.eq_1) (And.intro (tev_eq @Lx3.eq_1) (And.intro (tev_eq @Lx0.eq_1) (And.intro (tev_eq @Lw8.eq_1) (And.intro (tev_eq @Hk0.eq_1) (And.intro (tev_eq @Lw6.eq_1) (And.intro (tev_eq @Lw5.eq_1) (And.intro (tev_eq @Lw4.eq_1) (tev_eq @Pk0.eq_1)))))))))))))))))))))))))))))
def Wx4 : T := (.ret [.app 5 (.v 2) (.lit 5 [.sub 0 5 (.v 5)]), .c (.b true)])
def Wj4 : T := (.ret [.app 5 (.v 2) (.lit 5 [.sub 0 5 (.v 5)]), .c (.b false)])
def Vw1 : T := (.ret [.app 5 (.v 2) (.lit 5 [.sub 0 5 (.v 5)]), .c (.b true)])
def Vj1 : T := (.ret [.app 5 (.v 2) (.lit 5 [.sub 0 5 (.v 5)]), .c (.b false)])
def Ux4 : T := (.w (.chk (.scal (.proj 3 (.v 5)))) (.yld 1 [.app 5 (.v 2) (.lit 5 [.sub 0 5 (.v 5)]), .app 1 (.v 3) (.lit 1 [.proj 3 (.v 5)]), .proj 3 (.v 5)]))
def Uq8 : T := (.ite (.v 7) Vj1 Ux4)
def Uj1 : T := (.w (.call none true Ix8 [.v 3, .proj 3 (.v 5)] 1) Uq8)
def Tx7 : T := (.ite (.un .not (.v 6)) Vw1 Uj1)
def Tv7 : T := (.w (.call none true Dk9 [.proj 3 (.v 5), .proj 0 (.v 0)] 1) Tx7)
def Tq1 : T := (.ite (.bin .eql (.len (.app 5 (.v 2) (.lit 5 [.sub 0 5 (.v 5)]))) (.c (.i .i64 9))) Wj4 Tv7)
def Mx5 : T := (.w (.chk (.fit 5 (.v 5))) (.w (.chk (.fit 5 (.sub 0 5 (.v 5)))) (.ite (.ite (.ite (.bin .neq (.proj 0 (.v 5)) (.c (.i .i64 2))) (.bin .neq (.proj 0 (.v 5)) (.c (.i .i64 3))) (.c (.b false))) (.c (.b true)) (.bin .eql (.proj 3 (.v 5)) (.c (.s [])))) Wx4 Tq1)))
def Xk7 : T := (.w (.call none false Sq2 [.sub 0 2 (.v 0), .agg [.v 4, .proj 1 (.v 1)]] 1) Mx5)
def Zx2 : T := .loop 1 [.c (.l 5 []), .lit 1 [.proj 0 (.v 1)], .proj 0 (.v 1)] Xk7
def Pj9 : T := (.w (.chk (.fit 2 (.v 0))) (.w (.chk (.fit 2 (.v 1))) (.w (.chk (.scal (.proj 0 (.v 1)))) (.blk 0 Zx2 (.ret [.c .u, .c .u])))))
theorem Ik8 : type_of% (And.intro (tev_eq @Wx4.eq_1) (And.intro (tev_eq @Wj4.eq_1) (And.intro (tev_eq @Vw1.eq_1) (And.intro (tev_eq @Vj1.eq_1) (And.intro (tev_eq @Ux4.eq_1) (And.intro (tev_eq @Uq8.eq_1) (And.intro (tev_eq @Uj1.eq_1) (And.intro (tev_eq @Tx7.eq_1) (And.intro (tev_eq @Tv7.eq_1) (And.intro (tev_eq @Tq1.eq_1) (And.intro (tev_eq @Mx5.eq_1) (And.intro (tev_eq @Xk7.eq_1) (tev_eq @Pj9.eq_1))))))))))))) := (And.intro (tev_eq @Wx4.eq_1) (And.intro (tev_eq @Wj4.eq_1) (And.intro (tev_eq @Vw1.eq_1) (And.intro (tev_eq @Vj1.eq_1) (And.intro (tev_eq @Ux4.eq_1) (And.intro (tev_eq @Uq8.eq_1) (And.intro (tev_eq @Uj1.eq_1) (And.intro (tev_eq @Tx7.eq_1) (And.intro (tev_eq @Tv7.eq_1) (And.intro (tev_eq @Tq1.eq_1) (And.intro (tev_eq @Mx5.eq_1) (And.intro (tev_eq @Xk7.eq_1) (tev_eq @Pj9.eq_1)))))))))))))
def t_u15 : T := (.w (.chk (.scal (.c (.s [110, 46, 120, 46])))) (.w (.chk (.scal (.c (.s [109, 46, 120, 46])))) (.w (.chk (.scal (.c (.i .i64 5)))) (.w (.chk (.scal (.c (.i .i64 6)))) (.w (.chk (.scal (.c (.i .u64 1)))) (.w (.chk (.scal (.c (.s [42, 46, 120, 46])))) (.w (.chk (.scal (.c (.i .i64 1)))) (.w (.chk (.scal (.c (.s [110, 46, 100, 46, 120, 46])))) (.w (.chk (.scal (.c (.s [100, 46, 120, 46])))) (.w (.chk (.scal (.c (.i .i64 2)))) (.w (.chk (.scal (.c (.i .i64 9)))) (.w (.chk (.scal (.c (.s [120, 46])))) (.w (.chk (.scal (.lit 16 [.agg [.c (.s [120, 46]), .c (.i .i64 2), .c (.i .i64 9), .c (.b false), .c (.i .u64 0), .c (.i .u64 0), .c (.s [110, 46, 120, 46]), .c (.s []), .c (.s []), .c (.i .i64 0), .c (.i .i64 0), .c (.i .i64 0), .c (.i .i64 0), .c (.i .i64 0), .c (.i .i64 0), .c (.i .u64 0)], .agg [.c (.s [120, 46]), .c (.i .i64 6), .c (.i .i64 9), .c (.b false), .c (.i .u64 0), .c (.i .u64 0), .c (.s [110, 46, 120, 46]), .c (.s [109, 46, 120, 46]), .c (.s []), .c (.i .i64 0), .c (.i .i64 0), .c (.i .i64 0), .c (.i .i64 0), .c (.i .i64 5), .c (.i .i64 0), .c (.i .u64 0)], .agg [.c (.s [42, 46, 120, 46]), .c (.i .i64 1), .c (.i .i64 9), .c (.b false), .c (.i .u64 0), .c (.i .u64 1), .c (.s []), .c (.s []), .c (.s []), .c (.i .i64 0), .c (.i .i64 0), .c (.i .i64 0), .c (.i .i64 0), .c (.i .i64 0), .c (.i .i64 0), .c (.i .u64 0)], .agg [.c (.s [100, 46, 120, 46]), .c (.i .i64 2), .c (.i .i64 9), .c (.b false), .c (.i .u64 0), .c (.i .u64 0), .c (.s [110, 46, 100, 46, 120, 46]), .c (.s []), .c (.s []), .c (.i .i64 0), .c (.i .i64 0), .c (.i .i64 0), .c (.i .i64 0), .c (.i .i64 0), .c (.i .i64 0), .c (.i .u64 0)]]))) (.ret [.agg [.c (.s [120, 46]), .lit 16 [.agg [.c (.s [120, 46]), .c (.i .i64 2), .c (.i .i64 9), .c (.b false), .c (.i .u64 0), .c (.i .u64 0), .c (.s [110, 46, 120, 46]), .c (.s []), .c (.s []), .c (.i .i64 0), .c (.i .i64 0), .c (.i .i64 0), .c (.i .i64 0), .c (.i .i64 0), .c (.i .i64 0), .c (.i .u64 0)], .agg [.c (.s [120, 46]), .c (.i .i64 6), .c (.i .i64 9), .c (.b false), .c (.i .u64 0), .c (.i .u64 0), .c (.s [110, 46, 120, 46]), .c (.s [109, 46, 120, 46]), .c (.s []), .c (.i .i64 0), .c (.i .i64 0), .c (.i .i64 0), .c (.i .i64 0), .c (.i .i64 5), .c (.i .i64 0), .c (.i .u64 0)], .agg [.c (.s [42, 46, 120, 46]), .c (.i .i64 1), .c (.i .i64 9), .c (.b false), .c (.i .u64 0), .c (.i .u64 1), .c (.s []), .c (.s []), .c (.s []), .c (.i .i64 0), .c (.i .i64 0), .c (.i .i64 0), .c (.i .i64 0), .c (.i .i64 0), .c (.i .i64 0), .c (.i .u64 0)], .agg [.c (.s [100, 46, 120, 46]), .c (.i .i64 2), .c (.i .i64 9), .c (.b false), .c (.i .u64 0), .c (.i .u64 0), .c (.s [110, 46, 100, 46, 120, 46]), .c (.s []), .c (.s []), .c (.i .i64 0), .c (.i .i64 0), .c (.i .i64 0), .c (.i .i64 0), .c (.i .i64 0), .c (.i .i64 0), .c (.i .u64 0)]]]]))))))))))))))
def Wx3 : T := (.ret [.app 5 (.v 2) (.lit 5 [.sub 0 5 (.v 5)]), .c (.b true)])
def Wj3 : T := (.ret [.app 5 (.v 2) (.lit 5 [.sub 0 5 (.v 5)]), .c (.b false)])
def Vw0 : T := (.ret [.app 5 (.v 2) (.lit 5 [.sub 0 5 (.v 5)]), .c (.b true)])
def Vj0 : T := (.ret [.app 5 (.v 2) (.lit 5 [.sub 0 5 (.v 5)]), .c (.b false)])
def Ux3 : T := (.yld 3 [.bin .add (.v 8) (.c (.i .i64 1))])
def Uq7 : T := (.ite (.bin .eql (.proj 0 (.idx 1 (.v 3) (.v 8))) (.proj 3 (.v 5))) Vj0 Ux3)
def Wz6 : T := (.ite (.bin .lss (.v 8) (.len (.v 3))) Uq7 (.yld 2 []))
def Zq4 : T := .loop 3 [.c (.i .i64 0)] Wz6
def Uj0 : T := (.w (.chk (.scal (.proj 3 (.v 5)))) (.yld 1 [.app 5 (.v 2) (.lit 5 [.sub 0 5 (.v 5)]), .app 1 (.v 3) (.lit 1 [.proj 3 (.v 5)]), .bin .add (.v 4) (.c (.i .i64 1))]))
def Tx6 : T := (.blk 2 Zq4 Uj0)
def Tv6 : T := (.ite (.un .not (.v 7)) Vw0 Tx6)
def Tq0 : T := (.w (.call none true Dk8 [.proj 3 (.v 5), .proj 0 (.v 0)] 1) Tv6)
def Mx4 : T := (.ite (.bin .gtr (.len (.app 5 (.v 2) (.lit 5 [.sub 0 5 (.v 5)]))) (.c (.i .i64 8))) Wj3 Tq0)
def Mw3 : T := (.ite (.un .not (.v 6)) Wx3 Mx4)
def Mv4 : T := (.w (.chk (.fit 5 (.v 5))) (.w (.chk (.fit 5 (.sub 0 5 (.v 5)))) (.w (.chk (.app 5 (.v 2) (.lit 5 [.sub 0 5 (.v 5)]))) (.w (.call none true Sj5 [.sub 0 5 (.v 5)] 1) Mw3))))
def Mq7 : T := (.w (.chk (.scal (.proj 0 (.idx 1 (.v 3) (.v 4))))) (.w (.chk (.scal (.proj 1 (.v 1)))) (.w (.call none false Sq1 [.sub 0 2 (.v 0), .agg [.proj 0 (.idx 1 (.v 3) (.v 4)), .proj 1 (.v 1)]] 1) Mv4)))
def Xk6 : T := (.ite (.bin .leq (.v 4) (.c (.i .i64 8))) Mq7 (.yld 0 [.v 2]))
def Zx1 : T := .loop 1 [.c (.l 5 []), .lit 1 [.proj 0 (.v 1)], .c (.i .i64 0)] Xk6
def Mq2 : T := (.ret [.v 2, .c (.b false)])
def Pj8 : T := (.w (.chk (.fit 2 (.v 0))) (.w (.chk (.fit 2 (.v 1))) (.w (.chk (.scal (.proj 0 (.v 1)))) (.blk 0 Zx1 Mq2))))
theorem Fv8 : type_of% (And.intro (tev_eq @Wx3.eq_1) (And.intro (tev_eq @Wj3.eq_1) (And.intro (tev_eq @Vw0.eq_1) (And.intro (tev_eq @Vj0.eq_1) (And.intro (tev_eq @Ux3.eq_1) (And.intro (tev_eq @Uq7.eq_1) (And.intro (tev_eq @Wz6.eq_1) (And.intro (tev_eq @Uj0.eq_1) (And.intro (tev_eq @Tx6.eq_1) (And.intro (tev_eq @Tv6.eq_1) (And.intro (tev_eq @Tq0.eq_1) (And.intro (tev_eq @Mx4.eq_1) (And.intro (tev_eq @Mw3.eq_1) (And.intro (tev_eq @Mv4.eq_1) (And.intro (tev_eq @Mq7.eq_1) (And.intro (tev_eq @Xk6.eq_1) (And.intro (tev_eq @Mq2.eq_1) (tev_eq @Pj8.eq_1)))))))))))))))))) := (And.intro (tev_eq @Wx3.eq_1) (And.intro (tev_eq @Wj3.eq_1) (And.intro (tev_eq @Vw0.eq_1) (And.intro (tev_eq @Vj0.eq_1) (And.intro (tev_eq @Ux3.eq_1) (And.intro (tev_eq @Uq7.eq_1) (And.intro (tev_eq @Wz6.eq_1) (And.intro (tev_eq @Uj0.eq_1) (And.intro (tev_eq @Tx6.eq_1) (And.intro (tev_eq @Tv6.eq_1) (And.intro (tev_eq @Tq0.eq_1) (And.intro (tev_eq @Mx4.eq_1) (And.intro (tev_eq @Mw3.eq_1) (And.intro (tev_eq @Mv4.eq_1) (And.intro (tev_eq @Mq7.eq_1) (And.intro (tev_eq @Xk6.eq_1) (And.intro (tev_eq @Mq2.eq_1) (tev_eq @Pj8.eq_1))))))))))))))))))
def Wx2 : T := (.yld 1 [.bin .add (.v 2) (.c (.i .i64 1))])
def Wj2 : T := (.ite (.eqs true true [.s, .i .i64, .i .i64, .b, .i .u64, .i .u64, .s, .s, .s, .i .i64, .i .i64, .i .i64, .i .i64, .i .i64, .i .i64, .i .u64] (.sub 0 16 (.idx 16 (.v 0) (.v 2))) (.sub 0 16 (.idx 16 (.v 1) (.v 2)))) (.ret [.c (.b false)]) Wx2)
def Xk5 : T := (.ite (.bin .lss (.v 2) (.len (.v 0))) Wj2 (.yld 0 []))
def Zx0 : T := .loop 1 [.c (.i .i64 0)] Xk5
def Vv9 : T := (.blk 0 Zx0 (.ret [.c (.b true)]))
def Pj7 : T := (.ite (.bin .neq (.len (.v 0)) (.len (.v 1))) (.ret [.c (.b false)]) Vv9)
theorem Ov4 : type_of% (And.intro (tev_eq @Wx2.eq_1) (And.intro (tev_eq @Wj2.eq_1) (And.intro (tev_eq @Xk5.eq_1) (And.intro (tev_eq @Vv9.eq_1) (tev_eq @Pj7.eq_1))))) := (And.intro (tev_eq @Wx2.eq_1) (And.intro (tev_eq @Wj2.eq_1) (And.intro (tev_eq @Xk5.eq_1) (And.intro (tev_eq @Vv9.eq_1) (tev_eq @Pj7.eq_1)))))
def Wx1 : T := (.ret [.ite (.ite (.v 2) (.v 3) (.c (.b false))) (.v 4) (.c (.b false))])
def Wj1 : T := (.w (.chk (.ite (.ite (.v 2) (.v 3) (.c (.b false))) (.c .u) (.c .u))) (.w (.call (some (.ite (.v 2) (.v 3) (.c (.b false)))) true Py6 [.v 0, .v 1] 1) Wx1))
def Vv8 : T := (.w (.chk (.ite (.v 2) (.c .u) (.c .u))) (.w (.call (some (.v 2)) true Cq5 [.v 1] 1) Wj1))
def Pj6 : T := (.w (.call none true Cq5 [.v 0] 1) Vv8)
theorem Zy6 : type_of% (And.intro (tev_eq @Wx1.eq_1) (And.intro (tev_eq @Wj1.eq_1) (And.intro (tev_eq @Vv8.eq_1) (tev_eq @Pj6.eq_1)))) := (And.intro (tev_eq @Wx1.eq_1) (And.intro (tev_eq @Wj1.eq_1) (And.intro (tev_eq @Vv8.eq_1) (tev_eq @Pj6.eq_1))))
def Wx0 : T := (.yld 1 [.bin .add (.v 2) (.c (.i .i64 1))])
def Wj0 : T := (.ite (.bin .gtr (.len (.v 3)) (.c (.i .i64 64))) (.ret [.c (.i .i64 9)]) Wx0)
def Vv7 : T := (.w (.call none false Ix7 [.proj 1 (.v 0), .proj 0 (.idx 16 (.proj 1 (.v 0)) (.v 2)), .proj 1 (.idx 16 (.proj 1 (.v 0)) (.v 2))] 1) Wj0)
def Xk4 : T := (.ite (.bin .lss (.v 2) (.len (.proj 1 (.v 0)))) Vv7 (.yld 0 []))
def Zw9 : T := .loop 1 [.c (.i .i64 0)] Xk4
def Uz9 : T := (.yld 1 [.bin .add (.v 2) (.c (.i .i64 1))])
def Ux2 : T := (.ite (.un .not (.v 3)) (.ret [.c (.i .i64 5)]) Uz9)
def Uq6 : T := (.w (.call none true Sj4 [.sub 0 16 (.idx 16 (.proj 1 (.v 0)) (.v 2))] 1) Ux2)
def Wz5 : T := (.ite (.bin .lss (.v 2) (.len (.proj 1 (.v 0)))) Uq6 (.yld 0 []))
def Zq3 : T := .loop 1 [.c (.i .i64 0)] Wz5
def Tz9 : T := (.yld 1 [.bin .add (.v 6) (.c (.i .i64 1))])
def Tx5 : T := (.ite (.ite (.ite (.ite (.un .not (.v 7)) (.c (.b true)) (.ite (.bin .eql (.proj 1 (.sub 0 16 (.idx 16 (.proj 1 (.v 0)) (.v 6)))) (.c (.i .i64 6))) (.bin .neq (.proj 0 (.sub 0 16 (.idx 16 (.proj 1 (.v 0)) (.v 6)))) (.proj 0 (.v 0))) (.c (.b false)))) (.c (.b true)) (.un .not (.v 8))) (.c (.b true)) (.un .not (.v 9))) (.ret [.c (.i .i64 13)]) Tz9)
def Tv5 : T := (.w (.chk (.ite (.un .not (.ite (.ite (.un .not (.v 7)) (.c (.b true)) (.ite (.bin .eql (.proj 1 (.sub 0 16 (.idx 16 (.proj 1 (.v 0)) (.v 6)))) (.c (.i .i64 6))) (.bin .neq (.proj 0 (.sub 0 16 (.idx 16 (.proj 1 (.v 0)) (.v 6)))) (.proj 0 (.v 0))) (.c (.b false)))) (.c (.b true)) (.un .not (.v 8)))) (.c .u) (.c .u))) (.w (.call (some (.un .not (.ite (.ite (.un .not (.v 7)) (.c (.b true)) (.ite (.bin .eql (.proj 1 (.sub 0 16 (.idx 16 (.proj 1 (.v 0)) (.v 6)))) (.c (.i .i64 6))) (.bin .neq (.proj 0 (.sub 0 16 (.idx 16 (.proj 1 (.v 0)) (.v 6)))) (.proj 0 (.v 0))) (.c (.b false)))) (.c (.b true)) (.un .not (.v 8))))) true Sj0 [.sub 0 2 (.v 0), .sub 0 16 (.sub 0 16 (.idx 16 (.proj 1 (.v 0)) (.v 6)))] 1) Tx5))
def Tk9 : T := (.w (.chk (.ite (.ite (.un .not (.un .not (.v 7))) (.bin .eql (.proj 1 (.sub 0 16 (.idx 16 (.proj 1 (.v 0)) (.v 6)))) (.c (.i .i64 6))) (.c (.b false))) (.bin .neq (.proj 0 (.sub 0 16 (.idx 16 (.proj 1 (.v 0)) (.v 6)))) (.proj 0 (.v 0))) (.c .u))) (.w (.call (some (.un .not (.ite (.un .not (.v 7)) (.c (.b true)) (.ite (.bin .eql (.proj 1 (.sub 0 16 (.idx 16 (.proj 1 (.v 0)) (.v 6)))) (.c (.i .i64 6))) (.bin .neq (.proj 0 (.sub 0 16 (.idx 16 (.proj 1 (.v 0)) (.v 6)))) (.proj 0 (.v 0))) (.c (.b false)))))) true Sj1 [.sub 0 2 (.v 0), .sub 0 16 (.sub 0 16 (.idx 16 (.proj 1 (.v 0)) (.v 6)))] 1) Tv5))
def Mx3 : T := (.w (.chk (.fit 16 (.sub 0 16 (.idx 16 (.proj 1 (.v 0)) (.v 6))))) (.w (.call none true Dk8 [.proj 0 (.sub 0 16 (.idx 16 (.proj 1 (.v 0)) (.v 6))), .proj 0 (.v 0)] 1) Tk9))
def Ok4 : T := (.ite (.bin .lss (.v 6) (.len (.proj 1 (.v 0)))) Mx3 (.yld 0 []))
def Zq2 : T := .loop 1 [.c (.i .i64 0)] Ok4
def Mw2 : T := (.blk 0 Zq2 (.ret [.c (.i .i64 0)]))
def Mv3 : T := (.ite (.ite (.bin .neq (.len (.v 4)) (.c (.i .i64 1))) (.c (.b true)) (.un .not (.v 5))) (.ret [.c (.i .i64 13)]) Mw2)
def Mq6 : T := (.w (.call (some (.un .not (.bin .neq (.len (.v 4)) (.c (.i .i64 1))))) true Py5 [.proj 1 (.v 0), .proj 0 (.v 0), .c (.i .i64 2)] 1) Mv3)
def Mq1 : T := (.w (.call none false Ix7 [.proj 1 (.v 0), .proj 0 (.v 0), .c (.i .i64 6)] 1) Mq6)
def Mk6 : T := (.ite (.un .not (.v 3)) (.ret [.c (.i .i64 7)]) Mq1)
def Mk1 : T := (.w (.call none true Sj3 [.proj 1 (.v 0), .v 2] 1) Mk6)
def Mj7 : T := (.w (.call none false Sj2 [.proj 1 (.v 0)] 1) Mk1)
def Mj4 : T := (.blk 0 Zq3 Mj7)
def Mj1 : T := (.blk 0 Zw9 Mj4)
def Lx2 : T := (.ite (.bin .gtr (.len (.proj 1 (.v 0))) (.c (.i .i64 2048))) (.ret [.c (.i .i64 9)]) Mj1)
def Lw9 : T := (.ite (.un .not (.v 1)) (.ret [.c (.i .i64 2)]) Lx2)
def Pj5 : T := (.w (.chk (.fit 2 (.v 0))) (.w (.call none true Eq0 [.proj 0 (.v 0)] 1) Lw9))
theorem Bx8 : type_of% (And.intro (tev_eq @Wx0.eq_1) (And.intro (tev_eq @Wj0.eq_1) (And.intro (tev_eq @Vv7.eq_1) (And.intro (tev_eq @Xk4.eq_1) (And.intro (tev_eq @Uz9.eq_1) (And.intro (tev_eq @Ux2.eq_1) (And.intro (tev_eq @Uq6.eq_1) (And.intro (tev_eq @Wz5.eq_1) (And.intro (tev_eq @Tz9.eq_1) (And.intro (tev_eq @Tx5.eq_1) (And.intro (tev_eq @Tv5.eq_1) (And.intro (tev_eq @Tk9.eq_1) (And.intro (tev_eq @Mx3.eq_1) (And.intro (tev_eq @Ok4.eq_1) (And.intro (tev_eq @Mw2.eq_1) (And.intro (tev_eq @Mv3.eq_1) (And.intro (tev_eq @Mq6.eq_1) (And.intro (tev_eq @Mq1.eq_1) (And.intro (tev_eq @Mk6.eq_1) (And.intro (tev_eq @Mk1.eq_1) (And.intro (tev_eq @Mj7.eq_1) (And.intro (tev_eq @Mj4.eq_1) (And.intro (tev_eq @Mj1.eq_1) (And.intro (tev_eq @Lx2.eq_1) (And.intro (tev_eq @Lw9.eq_1) (tev_eq @Pj5.eq_1)))))))))))))))))))))))))) := (And.intro (tev_eq @Wx0.eq_1) (And.intro (tev_eq @Wj0.eq_1) (And.intro (tev_eq @Vv7.eq_1) (And.intro (tev_eq @Xk4.eq_1) (And.intro (tev_eq @Uz9.eq_1) (And.intro (tev_eq @Ux2.eq_1) (And.intro (tev_eq @Uq6.eq_1) (And.intro (tev_eq @Wz5.eq_1) (And.intro (tev_eq @Tz9.eq_1) (And.intro (tev_eq @Tx5.eq_1) (And.intro (tev_eq @Tv5.eq_1) (And.intro (tev_eq @Tk9.eq_1) (And.intro (tev_eq @Mx3.eq_1) (And.intro (tev_eq @Ok4.eq_1) (And.intro (tev_eq @Mw2.eq_1) (And.intro (tev_eq @Mv3.eq_1) (And.intro (tev_eq @Mq6.eq_1) (And.intro (tev_eq @Mq1.eq_1) (And.intro (tev_eq @Mk6.eq_1) (And.intro (tev_eq @Mk1.eq_1) (And.intro (tev_eq @Mj7.eq_1) (And.intro (tev_eq @Mj4.eq_1) (And.intro (tev_eq @Mj1.eq_1) (And.intro (tev_eq @Lx2.eq_1) (And.intro (tev_eq @Lw9.eq_1) (tev_eq @Pj5.eq_1))))))))))))))))))))))))))
def Ww9 : T := (.yld 1 [.proj 0 (.sub 0 16 (.idx 16 (.proj 1 (.v 0)) (.v 3))), .bin .add (.v 3) (.c (.i .i64 1))])
def Vz9 : T := (.yld 1 [.v 2, .bin .add (.v 3) (.c (.i .i64 1))])
def Vv6 : T := (.w (.chk (.ite (.ite (.ite (.ite (.ite (.bin .eql (.proj 1 (.sub 0 16 (.idx 16 (.proj 1 (.v 0)) (.v 3)))) (.c (.i .i64 2))) (.bin .neq (.proj 0 (.sub 0 16 (.idx 16 (.proj 1 (.v 0)) (.v 3)))) (.proj 0 (.v 0))) (.c (.b false))) (.v 4) (.c (.b false))) (.v 5) (.c (.b false))) (.un .not (.bin .eql (.v 2) (.c (.s [])))) (.c (.b false))) (.bin .lss (.slen (.proj 0 (.sub 0 16 (.idx 16 (.proj 1 (.v 0)) (.v 3))))) (.slen (.v 2))) (.c .u))) (.ite (.ite (.ite (.ite (.ite (.bin .eql (.proj 1 (.sub 0 16 (.idx 16 (.proj 1 (.v 0)) (.v 3)))) (.c (.i .i64 2))) (.bin .neq (.proj 0 (.sub 0 16 (.idx 16 (.proj 1 (.v 0)) (.v 3)))) (.proj 0 (.v 0))) (.c (.b false))) (.v 4) (.c (.b false))) (.v 5) (.c (.b false))) (.ite (.bin .eql (.v 2) (.c (.s []))) (.c (.b true)) (.bin .lss (.slen (.proj 0 (.sub 0 16 (.idx 16 (.proj 1 (.v 0)) (.v 3))))) (.slen (.v 2)))) (.c (.b false))) Ww9 Vz9))
def Uz8 : T := (.w (.chk (.ite (.ite (.ite (.bin .eql (.proj 1 (.sub 0 16 (.idx 16 (.proj 1 (.v 0)) (.v 3)))) (.c (.i .i64 2))) (.bin .neq (.proj 0 (.sub 0 16 (.idx 16 (.proj 1 (.v 0)) (.v 3)))) (.proj 0 (.v 0))) (.c (.b false))) (.v 4) (.c (.b false))) (.c .u) (.c .u))) (.w (.call (some (.ite (.ite (.bin .eql (.proj 1 (.sub 0 16 (.idx 16 (.proj 1 (.v 0)) (.v 3)))) (.c (.i .i64 2))) (.bin .neq (.proj 0 (.sub 0 16 (.idx 16 (.proj 1 (.v 0)) (.v 3)))) (.proj 0 (.v 0))) (.c (.b false))) (.v 4) (.c (.b false)))) true Dk9 [.v 1, .proj 0 (.sub 0 16 (.idx 16 (.proj 1 (.v 0)) (.v 3)))] 1) Vv6))
def Ux1 : T := (.w (.chk (.fit 16 (.sub 0 16 (.idx 16 (.proj 1 (.v 0)) (.v 3))))) (.w (.call (some (.ite (.bin .eql (.proj 1 (.sub 0 16 (.idx 16 (.proj 1 (.v 0)) (.v 3)))) (.c (.i .i64 2))) (.bin .neq (.proj 0 (.sub 0 16 (.idx 16 (.proj 1 (.v 0)) (.v 3)))) (.proj 0 (.v 0))) (.c (.b false)))) true Dk9 [.proj 0 (.sub 0 16 (.idx 16 (.proj 1 (.v 0)) (.v 3))), .proj 0 (.v 0)] 1) Uz8))
def Xk3 : T := (.ite (.bin .lss (.v 3) (.len (.proj 1 (.v 0)))) Ux1 (.yld 0 [.v 2]))
def Zw8 : T := .loop 1 [.c (.s []), .c (.i .i64 0)] Xk3
def Uq5 : T := (.ret [.v 2, .bin .neq (.v 2) (.c (.s []))])
def Pj4 : T := (.w (.chk (.fit 2 (.v 0))) (.w (.chk (.len (.proj 1 (.v 0)))) (.blk 0 Zw8 Uq5)))
theorem Fv7 : type_of% (And.intro (tev_eq @Ww9.eq_1) (And.intro (tev_eq @Vz9.eq_1) (And.intro (tev_eq @Vv6.eq_1) (And.intro (tev_eq @Uz8.eq_1) (And.intro (tev_eq @Ux1.eq_1) (And.intro (tev_eq @Xk3.eq_1) (And.intro (tev_eq @Uq5.eq_1) (tev_eq @Pj4.eq_1)))))))) := (And.intro (tev_eq @Ww9.eq_1) (And.intro (tev_eq @Vz9.eq_1) (And.intro (tev_eq @Vv6.eq_1) (And.intro (tev_eq @Uz8.eq_1) (And.intro (tev_eq @Ux1.eq_1) (And.intro (tev_eq @Xk3.eq_1) (And.intro (tev_eq @Uq5.eq_1) (tev_eq @Pj4.eq_1))))))))
def Pj3 : T := (.w (.chk (.fit 2 (.v 0))) (.w (.call none false Rz9 [.proj 1 (.v 0), .v 1, .v 2] 1) (.ret [.v 3])))
theorem x_u27 : type_of% (tev_eq @Pj3.eq_1) := (tev_eq @Pj3.eq_1)
def Ww8 : T := (.yld 0 [.v 3, .v 4, .v 5, .v 6, .v 7])
def Vz8 : T := (.ite (.ite (.bin .neq (.v 11) (.c (.s []))) (.bin .eql (.sidx (.v 11) (.c (.i .i64 0))) (.c (.i .u8 42))) (.c (.b false))) (.yld 2 [.c (.s [])]) (.yld 2 [.v 11]))
def Vv5 : T := (.w (.chk (.scal (.c (.i .i64 3)))) (.w (.chk (.scal (.v 8))) (.w (.chk (.scal (.v 13))) (.w (.chk (.scal (.lsl 16 (.v 10) (.c (.i .i64 0)) (.c (.i .i64 1))))) (.ret [.agg [.c (.i .i64 3), .v 8, .c (.b false), .v 13, .lsl 16 (.v 10) (.c (.i .i64 0)) (.c (.i .i64 1))], .c (.b true)])))))
def Uz7 : T := (.blk 2 Vz8 Vv5)
def Ux0 : T := (.w (.call none true Rz8 [.v 1, .v 8, .proj 6 (.idx 16 (.v 10) (.c (.i .i64 0)))] 2) Uz7)
def Uq4 : T := (.yld 1 [.v 8, .v 3, .v 4, .v 5, .v 6, .v 7])
def Tz8 : T := (.ite (.bin .gtr (.len (.v 10)) (.c (.i .i64 0))) Ux0 Uq4)
def Tx4 : T := (.w (.call none false Pz2 [.sub 0 2 (.v 0), .v 8, .c (.i .i64 39)] 1) Tz8)
def Tv4 : T := (.ite (.un .not (.v 9)) Ww8 Tx4)
def Tk8 : T := (.w (.call none true Jy9 [.v 2] 2) Tv4)
def Mx2 : T := (.yld 0 [.v 3, .v 4, .v 5, .v 6, .v 7])
def Oq4 : T := (.ite (.bin .neq (.v 2) (.proj 0 (.v 0))) Tk8 Mx2)
def Zw7 : T := .loop 1 [.v 1, .c (.i .i64 0), .c (.s []), .c (.b false), .c (.s []), .c (.l 16 [])] Oq4
def Mw1 : T := (.ret [.agg [.c (.i .i64 0), .c (.s []), .c (.b false), .c (.s []), .c (.l 16 [])], .c (.b false)])
def Pj2 : T := (.w (.chk (.fit 2 (.v 0))) (.blk 0 Zw7 Mw1))
theorem Jw2 : type_of% (And.intro (tev_eq @Ww8.eq_1) (And.intro (tev_eq @Vz8.eq_1) (And.intro (tev_eq @Vv5.eq_1) (And.intro (tev_eq @Uz7.eq_1) (And.intro (tev_eq @Ux0.eq_1) (And.intro (tev_eq @Uq4.eq_1) (And.intro (tev_eq @Tz8.eq_1) (And.intro (tev_eq @Tx4.eq_1) (And.intro (tev_eq @Tv4.eq_1) (And.intro (tev_eq @Tk8.eq_1) (And.intro (tev_eq @Mx2.eq_1) (And.intro (tev_eq @Oq4.eq_1) (And.intro (tev_eq @Mw1.eq_1) (tev_eq @Pj2.eq_1)))))))))))))) := (And.intro (tev_eq @Ww8.eq_1) (And.intro (tev_eq @Vz8.eq_1) (And.intro (tev_eq @Vv5.eq_1) (And.intro (tev_eq @Uz7.eq_1) (And.intro (tev_eq @Ux0.eq_1) (And.intro (tev_eq @Uq4.eq_1) (And.intro (tev_eq @Tz8.eq_1) (And.intro (tev_eq @Tx4.eq_1) (And.intro (tev_eq @Tv4.eq_1) (And.intro (tev_eq @Tk8.eq_1) (And.intro (tev_eq @Mx2.eq_1) (And.intro (tev_eq @Oq4.eq_1) (And.intro (tev_eq @Mw1.eq_1) (tev_eq @Pj2.eq_1))))))))))))))
def Ww7 : T := (.w (.call none true Ix8 [.v 2, .v 1] 1) (.ret [.v 3]))
def Pj1 : T := (.w (.chk (.fit 2 (.v 0))) (.w (.call none false Py4 [.sub 0 2 (.v 0)] 1) Ww7))
theorem x_u29 : type_of% (And.intro (tev_eq @Ww7.eq_1) (tev_eq @Pj1.eq_1)) := (And.intro (tev_eq @Ww7.eq_1) (tev_eq @Pj1.eq_1))
def Ww6 : T := (.w (.chk (.scal (.c (.i .i64 2)))) (.w (.chk (.scal (.proj 6 (.idx 16 (.v 2) (.c (.i .i64 0)))))) (.w (.chk (.scal (.lsl 16 (.v 2) (.c (.i .i64 0)) (.c (.i .i64 1))))) (.ret [.agg [.c (.i .i64 2), .c (.s []), .c (.b false), .proj 6 (.idx 16 (.v 2) (.c (.i .i64 0))), .lsl 16 (.v 2) (.c (.i .i64 0)) (.c (.i .i64 1))]]))))
def Vz7 : T := (.w (.chk (.scal (.c (.i .i64 1)))) (.w (.chk (.scal (.v 4))) (.ret [.agg [.c (.i .i64 1), .c (.s []), .c (.b false), .c (.s []), .v 4]])))
def Vv4 : T := (.w (.chk (.scal (.c (.i .i64 5)))) (.ret [.agg [.c (.i .i64 5), .c (.s []), .c (.b false), .c (.s []), .c (.l 16 [])]]))
def Uz6 : T := (.ite (.bin .gtr (.len (.v 4)) (.c (.i .i64 0))) Vz7 Vv4)
def Ok0 : T := (.w (.call none false Py3 [.v 0, .v 1] 1) Uz6)
def Uq3 : T := (.ite (.ite (.bin .gtr (.len (.v 2)) (.c (.i .i64 0))) (.un .not (.v 3)) (.c (.b false))) Ww6 Ok0)
def Tz7 : T := (.w (.call (some (.bin .gtr (.len (.v 2)) (.c (.i .i64 0)))) true Rz7 [.v 1] 1) Uq3)
def Pj0 : T := (.w (.call none false Py3 [.v 0, .c (.i .i64 5)] 1) Tz7)
theorem Qq9 : type_of% (And.intro (tev_eq @Ww6.eq_1) (And.intro (tev_eq @Vz7.eq_1) (And.intro (tev_eq @Vv4.eq_1) (And.intro (tev_eq @Uz6.eq_1) (And.intro (tev_eq @Ok0.eq_1) (And.intro (tev_eq @Uq3.eq_1) (And.intro (tev_eq @Tz7.eq_1) (tev_eq @Pj0.eq_1)))))))) := (And.intro (tev_eq @Ww6.eq_1) (And.intro (tev_eq @Vz7.eq_1) (And.intro (tev_eq @Vv4.eq_1) (And.intro (tev_eq @Uz6.eq_1) (And.intro (tev_eq @Ok0.eq_1) (And.intro (tev_eq @Uq3.eq_1) (And.intro (tev_eq @Tz7.eq_1) (tev_eq @Pj0.eq_1))))))))
def Ww5 : T := (.w (.chk (.fit 16 (.sub 0 16 (.sub 0 16 (.idx 16 (.proj 1 (.v 0)) (.v 3)))))) (.yld 1 [.app 16 (.v 2) (.lit 16 [.sub 0 16 (.sub 0 16 (.idx 16 (.proj 1 (.v 0)) (.v 3)))]), .bin .add (.v 3) (.c (.i .i64 1))]))
def Vz6 : T := (.yld 1 [.v 2, .bin .add (.v 3) (.c (.i .i64 1))])
def Vv3 : T := (.w (.chk (.fit 16 (.sub 0 16 (.idx 16 (.proj 1 (.v 0)) (.v 3))))) (.ite (.bin .eql (.proj 0 (.sub 0 16 (.idx 16 (.proj 1 (.v 0)) (.v 3)))) (.v 1)) Ww5 Vz6))
def Xk2 : T := (.ite (.bin .lss (.v 3) (.len (.proj 1 (.v 0)))) Vv3 (.yld 0 [.v 2]))
def Zw6 : T := .loop 1 [.c (.l 16 []), .c (.i .i64 0)] Xk2
def Oz9 : T := (.w (.chk (.fit 2 (.v 0))) (.w (.chk (.len (.proj 1 (.v 0)))) (.blk 0 Zw6 (.ret [.v 2]))))
theorem Xw7 : type_of% (And.intro (tev_eq @Ww5.eq_1) (And.intro (tev_eq @Vz6.eq_1) (And.intro (tev_eq @Vv3.eq_1) (And.intro (tev_eq @Xk2.eq_1) (tev_eq @Oz9.eq_1))))) := (And.intro (tev_eq @Ww5.eq_1) (And.intro (tev_eq @Vz6.eq_1) (And.intro (tev_eq @Vv3.eq_1) (And.intro (tev_eq @Xk2.eq_1) (tev_eq @Oz9.eq_1)))))
def Ww4 : T := (.ret [.agg [.c (.i .i64 0), .c (.s []), .c (.b false), .c (.s []), .c (.l 16 [])], .c (.b false)])
def Vz5 : T := (.ret [.agg [.c (.i .i64 0), .c (.s []), .c (.b false), .c (.s []), .c (.l 16 [])], .c (.b false)])
def Vv2 : T := (.w (.chk (.idx 16 (.v 7) (.v 8))) (.w (.chk (.scal (.proj 0 (.v 1)))) (.yld 1 [.set 16 (.v 7) (.v 8) 0 [.proj 0 (.v 1)], .bin .add (.v 8) (.c (.i .i64 1))])))
def Xk1 : T := (.ite (.bin .lss (.v 8) (.len (.v 6))) Vv2 (.yld 0 [.v 7]))
def Zw5 : T := .loop 1 [.v 6, .c (.i .i64 0)] Xk1
def Uz5 : T := (.w (.chk (.fit 5 (.v 8))) (.w (.chk (.scal (.v 4))) (.w (.chk (.scal (.c (.b true)))) (.ret [.agg [.proj 0 (.v 8), .v 4, .c (.b true), .proj 3 (.v 8), .proj 4 (.v 8)], .c (.b true)]))))
def Uw9 : T := (.w (.call none false Pz1 [.v 7, .proj 1 (.v 1)] 1) Uz5)
def Uq2 : T := (.w (.chk (.len (.v 6))) (.blk 0 Zw5 Uw9))
def Tz6 : T := (.ite (.ite (.un .not (.v 5)) (.c (.b true)) (.bin .eql (.len (.v 6)) (.c (.i .i64 0)))) Vz5 Uq2)
def Tx3 : T := (.w (.call none false Pz0 [.sub 0 2 (.v 0), .v 4] 1) Tz6)
def Tv3 : T := (.w (.call none true Rz5 [.v 2] 2) Tx3)
def Tk7 : T := (.ite (.un .not (.v 3)) Ww4 Tv3)
def Oz8 : T := (.w (.chk (.fit 2 (.v 0))) (.w (.chk (.fit 2 (.v 1))) (.w (.call none true Rz6 [.sub 0 2 (.v 0), .proj 0 (.v 1)] 2) Tk7)))
theorem Ov3 : type_of% (And.intro (tev_eq @Ww4.eq_1) (And.intro (tev_eq @Vz5.eq_1) (And.intro (tev_eq @Vv2.eq_1) (And.intro (tev_eq @Xk1.eq_1) (And.intro (tev_eq @Uz5.eq_1) (And.intro (tev_eq @Uw9.eq_1) (And.intro (tev_eq @Uq2.eq_1) (And.intro (tev_eq @Tz6.eq_1) (And.intro (tev_eq @Tx3.eq_1) (And.intro (tev_eq @Tv3.eq_1) (And.intro (tev_eq @Tk7.eq_1) (tev_eq @Oz8.eq_1)))))))))))) := (And.intro (tev_eq @Ww4.eq_1) (And.intro (tev_eq @Vz5.eq_1) (And.intro (tev_eq @Vv2.eq_1) (And.intro (tev_eq @Xk1.eq_1) (And.intro (tev_eq @Uz5.eq_1) (And.intro (tev_eq @Uw9.eq_1) (And.intro (tev_eq @Uq2.eq_1) (And.intro (tev_eq @Tz6.eq_1) (And.intro (tev_eq @Tx3.eq_1) (And.intro (tev_eq @Tv3.eq_1) (And.intro (tev_eq @Tk7.eq_1) (tev_eq @Oz8.eq_1))))))))))))
def Ww3 : T := (.ret [.ite (.ite (.v 3) (.v 5) (.c (.b false))) (.bin .eql (.v 6) (.len (.v 4))) (.c (.b false))])
def Vz4 : T := (.w (.chk (.ite (.ite (.v 3) (.v 5) (.c (.b false))) (.c .u) (.c .u))) (.w (.call (some (.ite (.v 3) (.v 5) (.c (.b false)))) true Py2 [.v 2, .v 4] 1) Ww3))
def Vv1 : T := (.w (.call none false Cq4 [.v 1] 2) Vz4)
def Oz7 : T := (.w (.call none false Cq4 [.v 0] 2) Vv1)
theorem x_u33 : type_of% (And.intro (tev_eq @Ww3.eq_1) (And.intro (tev_eq @Vz4.eq_1) (And.intro (tev_eq @Vv1.eq_1) (tev_eq @Oz7.eq_1)))) := (And.intro (tev_eq @Ww3.eq_1) (And.intro (tev_eq @Vz4.eq_1) (And.intro (tev_eq @Vv1.eq_1) (tev_eq @Oz7.eq_1))))
def Ww2 : T := (.yld 1 [.proj 0 (.sub 0 16 (.idx 16 (.proj 1 (.v 0)) (.v 3))), .bin .add (.v 3) (.c (.i .i64 1))])
def Vz3 : T := (.yld 1 [.v 2, .bin .add (.v 3) (.c (.i .i64 1))])
def Vv0 : T := (.ite (.ite (.bin .eql (.v 2) (.c (.s []))) (.c (.b true)) (.bin .lss (.len (.v 6)) (.len (.v 7)))) Ww2 Vz3)
def Uz4 : T := (.w (.chk (.ite (.un .not (.bin .eql (.v 2) (.c (.s [])))) (.len (.v 6)) (.c .u))) (.w (.call (some (.un .not (.bin .eql (.v 2) (.c (.s []))))) false Ek9 [.v 2] 1) Vv0))
def Uw8 : T := (.w (.call (some (.un .not (.bin .eql (.v 2) (.c (.s []))))) false Ek9 [.proj 0 (.sub 0 16 (.idx 16 (.proj 1 (.v 0)) (.v 3)))] 1) Uz4)
def Uq1 : T := (.yld 1 [.v 2, .bin .add (.v 3) (.c (.i .i64 1))])
def Tz5 : T := (.ite (.ite (.ite (.bin .eql (.proj 1 (.sub 0 16 (.idx 16 (.proj 1 (.v 0)) (.v 3)))) (.c (.i .i64 2))) (.v 4) (.c (.b false))) (.v 5) (.c (.b false))) Uw8 Uq1)
def Tx2 : T := (.w (.chk (.ite (.ite (.bin .eql (.proj 1 (.sub 0 16 (.idx 16 (.proj 1 (.v 0)) (.v 3)))) (.c (.i .i64 2))) (.v 4) (.c (.b false))) (.c .u) (.c .u))) (.w (.call (some (.ite (.bin .eql (.proj 1 (.sub 0 16 (.idx 16 (.proj 1 (.v 0)) (.v 3)))) (.c (.i .i64 2))) (.v 4) (.c (.b false)))) true Dk8 [.v 1, .proj 0 (.sub 0 16 (.idx 16 (.proj 1 (.v 0)) (.v 3)))] 1) Tz5))
def Tv2 : T := (.w (.chk (.fit 16 (.sub 0 16 (.idx 16 (.proj 1 (.v 0)) (.v 3))))) (.w (.call (some (.bin .eql (.proj 1 (.sub 0 16 (.idx 16 (.proj 1 (.v 0)) (.v 3)))) (.c (.i .i64 2)))) true Fy2 [.proj 0 (.sub 0 16 (.idx 16 (.proj 1 (.v 0)) (.v 3))), .proj 0 (.v 0)] 1) Tx2))
def Xk0 : T := (.ite (.bin .lss (.v 3) (.len (.proj 1 (.v 0)))) Tv2 (.yld 0 [.v 2]))
def Zw4 : T := .loop 1 [.c (.s []), .c (.i .i64 0)] Xk0
def Tk6 : T := (.ret [.v 2, .bin .neq (.v 2) (.c (.s []))])
def Oz6 : T := (.w (.chk (.fit 2 (.v 0))) (.blk 0 Zw4 Tk6))
theorem Ik3 : type_of% (And.intro (tev_eq @Ww2.eq_1) (And.intro (tev_eq @Vz3.eq_1) (And.intro (tev_eq @Vv0.eq_1) (And.intro (tev_eq @Uz4.eq_1) (And.intro (tev_eq @Uw8.eq_1) (And.intro (tev_eq @Uq1.eq_1) (And.intro (tev_eq @Tz5.eq_1) (And.intro (tev_eq @Tx2.eq_1) (And.intro (tev_eq @Tv2.eq_1) (And.intro (tev_eq @Xk0.eq_1) (And.intro (tev_eq @Tk6.eq_1) (tev_eq @Oz6.eq_1)))))))))))) := (And.intro (tev_eq @Ww2.eq_1) (And.intro (tev_eq @Vz3.eq_1) (And.intro (tev_eq @Vv0.eq_1) (And.intro (tev_eq @Uz4.eq_1) (And.intro (tev_eq @Uw8.eq_1) (And.intro (tev_eq @Uq1.eq_1) (And.intro (tev_eq @Tz5.eq_1) (And.intro (tev_eq @Tx2.eq_1) (And.intro (tev_eq @Tv2.eq_1) (And.intro (tev_eq @Xk0.eq_1) (And.intro (tev_eq @Tk6.eq_1) (tev_eq @Oz6.eq_1))))))))))))
def Oz5 : T := (.w (.chk (.fit 2 (.v 0))) (.w (.call none false Ix7 [.proj 1 (.v 0), .v 1, .v 2] 1) (.ret [.v 3])))
theorem x_u35 : type_of% (tev_eq @Oz5.eq_1) := (tev_eq @Oz5.eq_1)
def Ww1 : T := (.ret [.c (.s []), .c (.b false)])
def Vz2 : T := (.ret [.v 4, .c (.b true)])
def Vq9 : T := (.yld 1 [.v 4, .bin .add (.v 3) (.c (.i .i64 1))])
def Uz3 : T := (.ite (.bin .gtr (.len (.v 6)) (.c (.i .i64 0))) Vz2 Vq9)
def Uw7 : T := (.w (.call none false Jz0 [.sub 0 2 (.v 0), .v 4, .c (.i .i64 39)] 1) Uz3)
def Uq0 : T := (.ite (.un .not (.v 5)) Ww1 Uw7)
def Tz4 : T := (.w (.call none true Py1 [.v 2] 2) Uq0)
def Oq3 : T := (.ite (.ite (.bin .lss (.v 3) (.c (.i .i64 130))) (.bin .neq (.v 2) (.proj 0 (.v 0))) (.c (.b false))) Tz4 (.yld 0 []))
def Zw3 : T := .loop 1 [.v 1, .c (.i .i64 0)] Oq3
def Tx1 : T := (.ret [.c (.s []), .c (.b false)])
def Oz4 : T := (.w (.chk (.fit 2 (.v 0))) (.blk 0 Zw3 Tx1))
theorem Qq8 : type_of% (And.intro (tev_eq @Ww1.eq_1) (And.intro (tev_eq @Vz2.eq_1) (And.intro (tev_eq @Vq9.eq_1) (And.intro (tev_eq @Uz3.eq_1) (And.intro (tev_eq @Uw7.eq_1) (And.intro (tev_eq @Uq0.eq_1) (And.intro (tev_eq @Tz4.eq_1) (And.intro (tev_eq @Oq3.eq_1) (And.intro (tev_eq @Tx1.eq_1) (tev_eq @Oz4.eq_1)))))))))) := (And.intro (tev_eq @Ww1.eq_1) (And.intro (tev_eq @Vz2.eq_1) (And.intro (tev_eq @Vq9.eq_1) (And.intro (tev_eq @Uz3.eq_1) (And.intro (tev_eq @Uw7.eq_1) (And.intro (tev_eq @Uq0.eq_1) (And.intro (tev_eq @Tz4.eq_1) (And.intro (tev_eq @Oq3.eq_1) (And.intro (tev_eq @Tx1.eq_1) (tev_eq @Oz4.eq_1))))))))))
def Ww0 : T := (.ret [.c (.s []), .c (.i .i64 2)])
def Vz1 : T := (.ret [.c (.s []), .c (.i .i64 1)])
def Vq8 : T := (.ret [.c (.s []), .c (.i .i64 9)])
def Uz2 : T := (.ret [.v 10, .c (.i .i64 0)])
def Uw6 : T := (.ite (.un .not (.v 11)) Vq8 Uz2)
def Uk9 : T := (.w (.call none true Eq0 [.v 10] 1) Uw6)
def Tz3 : T := (.w (.call none true Py0 [.app 1 (.app 1 (.c (.l 1 [])) (.lsl 1 (.v 3) (.c (.i .i64 0)) (.bin .sub (.len (.v 3)) (.len (.v 5))))) (.v 7)] 1) Uk9)
def Tx0 : T := (.ite (.ite (.un .not (.v 9)) (.c (.b true)) (.bin .eql (.len (.v 3)) (.len (.v 5)))) Vz1 Tz3)
def Oj8 : T := (.w (.call none true Dk8 [.v 0, .v 1] 1) Tx0)
def Tk5 : T := (.w (.chk (.ite (.ite (.un .not (.ite (.ite (.un .not (.v 4)) (.c (.b true)) (.un .not (.v 6))) (.c (.b true)) (.un .not (.v 8)))) (.bin .gtr (.len (.v 7)) (.c (.i .i64 0))) (.c (.b false))) (.bin .eql (.proj 0 (.idx 1 (.v 7) (.c (.i .i64 0)))) (.c (.s [42]))) (.c .u))) (.ite (.ite (.ite (.ite (.un .not (.v 4)) (.c (.b true)) (.un .not (.v 6))) (.c (.b true)) (.un .not (.v 8))) (.c (.b true)) (.ite (.bin .gtr (.len (.v 7)) (.c (.i .i64 0))) (.bin .eql (.proj 0 (.idx 1 (.v 7) (.c (.i .i64 0)))) (.c (.s [42]))) (.c (.b false)))) Ww0 Oj8))
def Mx1 : T := (.w (.call none false Cq4 [.v 2] 2) Tk5)
def Mw0 : T := (.w (.call none false Cq4 [.v 1] 2) Mx1)
def Oz3 : T := (.w (.call none false Cq4 [.v 0] 2) Mw0)
theorem Ek2 : type_of% (And.intro (tev_eq @Ww0.eq_1) (And.intro (tev_eq @Vz1.eq_1) (And.intro (tev_eq @Vq8.eq_1) (And.intro (tev_eq @Uz2.eq_1) (And.intro (tev_eq @Uw6.eq_1) (And.intro (tev_eq @Uk9.eq_1) (And.intro (tev_eq @Tz3.eq_1) (And.intro (tev_eq @Tx0.eq_1) (And.intro (tev_eq @Oj8.eq_1) (And.intro (tev_eq @Tk5.eq_1) (And.intro (tev_eq @Mx1.eq_1) (And.intro (tev_eq @Mw0.eq_1) (tev_eq @Oz3.eq_1))))))))))))) := (And.intro (tev_eq @Ww0.eq_1) (And.intro (tev_eq @Vz1.eq_1) (And.intro (tev_eq @Vq8.eq_1) (And.intro (tev_eq @Uz2.eq_1) (And.intro (tev_eq @Uw6.eq_1) (And.intro (tev_eq @Uk9.eq_1) (And.intro (tev_eq @Tz3.eq_1) (And.intro (tev_eq @Tx0.eq_1) (And.intro (tev_eq @Oj8.eq_1) (And.intro (tev_eq @Tk5.eq_1) (And.intro (tev_eq @Mx1.eq_1) (And.intro (tev_eq @Mw0.eq_1) (tev_eq @Oz3.eq_1)))))))))))))
def Wv9 : T := (.yld 1 [.bin .add (.v 3) (.c (.i .i64 1))])
def Vz0 : T := (.ite (.bin .eql (.proj 0 (.idx 1 (.v 2) (.v 3))) (.v 1)) (.ret [.c (.b true)]) Wv9)
def Xj9 : T := (.ite (.bin .lss (.v 3) (.len (.v 2))) Vz0 (.yld 0 []))
def Zw2 : T := .loop 1 [.c (.i .i64 0)] Xj9
def Vq7 : T := (.blk 0 Zw2 (.ret [.c (.b false)]))
def Oz2 : T := (.w (.chk (.fit 2 (.v 0))) (.w (.call none false Px9 [.sub 0 2 (.v 0)] 1) Vq7))
theorem Qq7 : type_of% (And.intro (tev_eq @Wv9.eq_1) (And.intro (tev_eq @Vz0.eq_1) (And.intro (tev_eq @Xj9.eq_1) (And.intro (tev_eq @Vq7.eq_1) (tev_eq @Oz2.eq_1))))) := (And.intro (tev_eq @Wv9.eq_1) (And.intro (tev_eq @Vz0.eq_1) (And.intro (tev_eq @Xj9.eq_1) (And.intro (tev_eq @Vq7.eq_1) (tev_eq @Oz2.eq_1)))))
def Wv8 : T := (.w (.chk (.fit 16 (.sub 0 16 (.idx 16 (.v 0) (.v 3))))) (.w (.chk (.scal (.c (.i .i64 2)))) (.w (.chk (.scal (.proj 6 (.idx 16 (.v 0) (.v 3))))) (.w (.chk (.scal (.lit 16 [.sub 0 16 (.idx 16 (.v 0) (.v 3))]))) (.ret [.agg [.c (.i .i64 2), .c (.s []), .c (.b false), .proj 6 (.idx 16 (.v 0) (.v 3)), .lit 16 [.sub 0 16 (.idx 16 (.v 0) (.v 3))]]])))))
def Vy9 : T := (.w (.chk (.fit 16 (.sub 0 16 (.idx 16 (.v 0) (.v 3))))) (.yld 1 [.app 16 (.v 2) (.lit 16 [.sub 0 16 (.idx 16 (.v 0) (.v 3))]), .bin .add (.v 3) (.c (.i .i64 1)), .v 4, .v 5, .v 6, .v 7, .v 8]))
def Vq6 : T := (.yld 1 [.v 2, .bin .add (.v 3) (.c (.i .i64 1)), .v 4, .v 5, .v 6, .v 7, .v 8])
def Uz1 : T := (.ite (.ite (.bin .eql (.proj 1 (.idx 16 (.v 0) (.v 3))) (.v 1)) (.c (.b true)) (.bin .eql (.v 1) (.c (.i .i64 255)))) Vy9 Vq6)
def Uw5 : T := (.ite (.ite (.ite (.ite (.ite (.bin .eql (.proj 1 (.idx 16 (.v 0) (.v 3))) (.c (.i .i64 5))) (.bin .neq (.v 1) (.c (.i .i64 5))) (.c (.b false))) (.bin .neq (.v 1) (.c (.i .i64 47))) (.c (.b false))) (.bin .neq (.v 1) (.c (.i .i64 46))) (.c (.b false))) (.bin .neq (.v 1) (.c (.i .i64 255))) (.c (.b false))) Wv8 Uz1)
def Uk8 : T := (.yld 0 [.v 2, .v 4, .v 5, .v 6, .v 7, .v 8])
def Oq2 : T := (.ite (.bin .lss (.v 3) (.len (.v 0))) Uw5 Uk8)
def Zw1 : T := .loop 1 [.c (.l 16 []), .c (.i .i64 0), .c (.i .i64 0), .c (.s []), .c (.b false), .c (.s []), .c (.l 16 [])] Oq2
def Tz2 : T := (.w (.chk (.scal (.c (.i .i64 1)))) (.ret [.agg [.c (.i .i64 1), .c (.s []), .c (.b false), .c (.s []), .v 2]]))
def Tw9 : T := (.w (.chk (.scal (.c (.i .i64 5)))) (.ret [.agg [.c (.i .i64 5), .c (.s []), .c (.b false), .c (.s []), .c (.l 16 [])]]))
def Tv1 : T := (.ite (.bin .gtr (.len (.v 2)) (.c (.i .i64 0))) Tz2 Tw9)
def Oz1 : T := (.blk 0 Zw1 Tv1)
theorem Dv7 : type_of% (And.intro (tev_eq @Wv8.eq_1) (And.intro (tev_eq @Vy9.eq_1) (And.intro (tev_eq @Vq6.eq_1) (And.intro (tev_eq @Uz1.eq_1) (And.intro (tev_eq @Uw5.eq_1) (And.intro (tev_eq @Uk8.eq_1) (And.intro (tev_eq @Oq2.eq_1) (And.intro (tev_eq @Tz2.eq_1) (And.intro (tev_eq @Tw9.eq_1) (And.intro (tev_eq @Tv1.eq_1) (tev_eq @Oz1.eq_1))))))))))) := (And.intro (tev_eq @Wv8.eq_1) (And.intro (tev_eq @Vy9.eq_1) (And.intro (tev_eq @Vq6.eq_1) (And.intro (tev_eq @Uz1.eq_1) (And.intro (tev_eq @Uw5.eq_1) (And.intro (tev_eq @Uk8.eq_1) (And.intro (tev_eq @Oq2.eq_1) (And.intro (tev_eq @Tz2.eq_1) (And.intro (tev_eq @Tw9.eq_1) (And.intro (tev_eq @Tv1.eq_1) (tev_eq @Oz1.eq_1)))))))))))
def Wv7 : T := (.w (.chk (.fit 16 (.sub 0 16 (.idx 16 (.proj 1 (.v 0)) (.v 3))))) (.yld 1 [.app 16 (.v 2) (.lit 16 [.sub 0 16 (.idx 16 (.proj 1 (.v 0)) (.v 3))]), .bin .add (.v 3) (.c (.i .i64 1))]))
def Vy8 : T := (.yld 1 [.v 2, .bin .add (.v 3) (.c (.i .i64 1))])
def Vq5 : T := (.ite (.bin .eql (.proj 0 (.idx 16 (.proj 1 (.v 0)) (.v 3))) (.v 1)) Wv7 Vy8)
def Xj8 : T := (.ite (.bin .lss (.v 3) (.len (.proj 1 (.v 0)))) Vq5 (.yld 0 [.v 2]))
def Zw0 : T := .loop 1 [.c (.l 16 []), .c (.i .i64 0)] Xj8
def Oz0 : T := (.w (.chk (.fit 2 (.v 0))) (.blk 0 Zw0 (.ret [.v 2])))
theorem Xw6 : type_of% (And.intro (tev_eq @Wv7.eq_1) (And.intro (tev_eq @Vy8.eq_1) (And.intro (tev_eq @Vq5.eq_1) (And.intro (tev_eq @Xj8.eq_1) (tev_eq @Oz0.eq_1))))) := (And.intro (tev_eq @Wv7.eq_1) (And.intro (tev_eq @Vy8.eq_1) (And.intro (tev_eq @Vq5.eq_1) (And.intro (tev_eq @Xj8.eq_1) (tev_eq @Oz0.eq_1)))))
def Wv6 : T := (.yld 1 [.proj 0 (.idx 1 (.v 2) (.v 4)), .bin .add (.v 4) (.c (.i .i64 1))])
def Vy7 : T := (.yld 1 [.v 3, .bin .add (.v 4) (.c (.i .i64 1))])
def Vq4 : T := (.w (.chk (.ite (.ite (.v 5) (.un .not (.bin .eql (.v 3) (.c (.s [])))) (.c (.b false))) (.bin .gtr (.len (.v 6)) (.len (.v 7))) (.c .u))) (.ite (.ite (.v 5) (.ite (.bin .eql (.v 3) (.c (.s []))) (.c (.b true)) (.bin .gtr (.len (.v 6)) (.len (.v 7)))) (.c (.b false))) Wv6 Vy7))
def Uz0 : T := (.w (.chk (.ite (.ite (.v 5) (.un .not (.bin .eql (.v 3) (.c (.s [])))) (.c (.b false))) (.len (.v 6)) (.c .u))) (.w (.call (some (.ite (.v 5) (.un .not (.bin .eql (.v 3) (.c (.s [])))) (.c (.b false)))) false Ek9 [.v 3] 1) Vq4))
def Uw4 : T := (.w (.chk (.ite (.ite (.v 5) (.un .not (.bin .eql (.v 3) (.c (.s [])))) (.c (.b false))) (.proj 0 (.idx 1 (.v 2) (.v 4))) (.c .u))) (.w (.call (some (.ite (.v 5) (.un .not (.bin .eql (.v 3) (.c (.s [])))) (.c (.b false)))) false Ek9 [.proj 0 (.idx 1 (.v 2) (.v 4))] 1) Uz0))
def Uk7 : T := (.w (.call none true Dk8 [.v 1, .proj 0 (.idx 1 (.v 2) (.v 4))] 1) Uw4)
def Xj7 : T := (.ite (.bin .lss (.v 4) (.len (.v 2))) Uk7 (.yld 0 [.v 3]))
def Zv9 : T := .loop 1 [.c (.s []), .c (.i .i64 0)] Xj7
def Tz1 : T := (.ret [.v 3, .bin .neq (.v 3) (.c (.s []))])
def Tw8 : T := (.blk 0 Zv9 Tz1)
def Oy9 : T := (.w (.chk (.fit 2 (.v 0))) (.w (.call none false Px9 [.sub 0 2 (.v 0)] 1) Tw8))
theorem Ov2 : type_of% (And.intro (tev_eq @Wv6.eq_1) (And.intro (tev_eq @Vy7.eq_1) (And.intro (tev_eq @Vq4.eq_1) (And.intro (tev_eq @Uz0.eq_1) (And.intro (tev_eq @Uw4.eq_1) (And.intro (tev_eq @Uk7.eq_1) (And.intro (tev_eq @Xj7.eq_1) (And.intro (tev_eq @Tz1.eq_1) (And.intro (tev_eq @Tw8.eq_1) (tev_eq @Oy9.eq_1)))))))))) := (And.intro (tev_eq @Wv6.eq_1) (And.intro (tev_eq @Vy7.eq_1) (And.intro (tev_eq @Vq4.eq_1) (And.intro (tev_eq @Uz0.eq_1) (And.intro (tev_eq @Uw4.eq_1) (And.intro (tev_eq @Uk7.eq_1) (And.intro (tev_eq @Xj7.eq_1) (And.intro (tev_eq @Tz1.eq_1) (And.intro (tev_eq @Tw8.eq_1) (tev_eq @Oy9.eq_1))))))))))
def Wv5 : T := (.ret [.c (.s []), .c (.b false)])
def Vy6 : T := (.yld 0 [.bin .add (.c (.s [42, 46])) (.v 0)])
def Vq3 : T := (.yld 0 [.c (.s [42, 46])])
def Uy9 : T := (.ite (.bin .neq (.v 0) (.c (.s [46]))) Vy6 Vq3)
def Uw3 : T := (.ret [.c (.s []), .c (.b false)])
def Uk6 : T := (.ret [.v 3, .c (.b true)])
def Tz0 : T := (.ite (.un .not (.v 4)) Uw3 Uk6)
def Tw7 : T := (.w (.call none true Eq0 [.v 3] 1) Tz0)
def Oj7 : T := (.blk 0 Uy9 Tw7)
def Tk4 : T := (.w (.chk (.ite (.ite (.un .not (.un .not (.v 2))) (.bin .gtr (.len (.v 1)) (.c (.i .i64 0))) (.c (.b false))) (.bin .eql (.proj 0 (.idx 1 (.v 1) (.c (.i .i64 0)))) (.c (.s [42]))) (.c .u))) (.ite (.ite (.un .not (.v 2)) (.c (.b true)) (.ite (.bin .gtr (.len (.v 1)) (.c (.i .i64 0))) (.bin .eql (.proj 0 (.idx 1 (.v 1) (.c (.i .i64 0)))) (.c (.s [42]))) (.c (.b false)))) Wv5 Oj7))
def Oy8 : T := (.w (.call none false Cq4 [.v 0] 2) Tk4)
theorem Jw1 : type_of% (And.intro (tev_eq @Wv5.eq_1) (And.intro (tev_eq @Vy6.eq_1) (And.intro (tev_eq @Vq3.eq_1) (And.intro (tev_eq @Uy9.eq_1) (And.intro (tev_eq @Uw3.eq_1) (And.intro (tev_eq @Uk6.eq_1) (And.intro (tev_eq @Tz0.eq_1) (And.intro (tev_eq @Tw7.eq_1) (And.intro (tev_eq @Oj7.eq_1) (And.intro (tev_eq @Tk4.eq_1) (tev_eq @Oy8.eq_1))))))))))) := (And.intro (tev_eq @Wv5.eq_1) (And.intro (tev_eq @Vy6.eq_1) (And.intro (tev_eq @Vq3.eq_1) (And.intro (tev_eq @Uy9.eq_1) (And.intro (tev_eq @Uw3.eq_1) (And.intro (tev_eq @Uk6.eq_1) (And.intro (tev_eq @Tz0.eq_1) (And.intro (tev_eq @Tw7.eq_1) (And.intro (tev_eq @Oj7.eq_1) (And.intro (tev_eq @Tk4.eq_1) (tev_eq @Oy8.eq_1)))))))))))
def Wv4 : T := (.ret [.bin .geq (.v 2) (.c (.i .i64 0))])
def Oy7 : T := (.w (.call none true Rz4 [.v 0, .v 1] 1) Wv4)
theorem x_u43 : type_of% (And.intro (tev_eq @Wv4.eq_1) (tev_eq @Oy7.eq_1)) := (And.intro (tev_eq @Wv4.eq_1) (tev_eq @Oy7.eq_1))
def Oy6 : T := (.w (.chk (.fit 5 (.v 0))) (.ret [.ite (.ite (.bin .eql (.proj 0 (.v 0)) (.c (.i .i64 2))) (.c (.b true)) (.bin .eql (.proj 0 (.v 0)) (.c (.i .i64 3)))) (.bin .neq (.proj 3 (.v 0)) (.c (.s []))) (.c (.b false))]))
theorem Zy5 : type_of% (tev_eq @Oy6.eq_1) := (tev_eq @Oy6.eq_1)
def Wv3 : T := (.yld 1 [.bin .add (.v 3) (.c (.i .i64 1))])
def Vy5 : T := (.w (.chk (.ite (.ite (.un .not (.v 4)) (.un .not (.bin .gtr (.v 3) (.c (.i .i64 0)))) (.c (.b false))) (.bin .neq (.proj 0 (.idx 1 (.v 2) (.v 3))) (.c (.s [42]))) (.c .u))) (.ite (.ite (.un .not (.v 4)) (.ite (.bin .gtr (.v 3) (.c (.i .i64 0))) (.c (.b true)) (.bin .neq (.proj 0 (.idx 1 (.v 2) (.v 3))) (.c (.s [42])))) (.c (.b false))) (.ret [.c (.b false)]) Wv3))
def Vq2 : T := (.w (.call none true Rz3 [.proj 0 (.idx 1 (.v 2) (.v 3))] 1) Vy5)
def Oq1 : T := (.ite (.bin .lss (.v 3) (.len (.v 2))) Vq2 (.yld 0 []))
def Zv8 : T := .loop 1 [.c (.i .i64 0)] Oq1
def Uy8 : T := (.w (.chk (.len (.v 2))) (.blk 0 Zv8 (.ret [.c (.b true)])))
def Uw2 : T := (.w (.call none false Px7 [.ssl (.v 0) (.c (.i .i64 0)) (.bin .sub (.slen (.v 0)) (.c (.i .i64 1))), .c (.s [46])] 1) Uy8)
def Uk5 : T := (.ite (.ite (.bin .geq (.slen (.v 0)) (.c (.i .i64 255))) (.c (.b true)) (.un .not (.v 1))) (.ret [.c (.b false)]) Uw2)
def Ty9 : T := (.w (.call (some (.un .not (.bin .geq (.slen (.v 0)) (.c (.i .i64 255))))) true Px8 [.v 0, .c (.s [46])] 1) Uk5)
def Oy5 : T := (.ite (.bin .eql (.v 0) (.c (.s [46]))) (.ret [.c (.b true)]) Ty9)
theorem Fv6 : type_of% (And.intro (tev_eq @Wv3.eq_1) (And.intro (tev_eq @Vy5.eq_1) (And.intro (tev_eq @Vq2.eq_1) (And.intro (tev_eq @Oq1.eq_1) (And.intro (tev_eq @Uy8.eq_1) (And.intro (tev_eq @Uw2.eq_1) (And.intro (tev_eq @Uk5.eq_1) (And.intro (tev_eq @Ty9.eq_1) (tev_eq @Oy5.eq_1))))))))) := (And.intro (tev_eq @Wv3.eq_1) (And.intro (tev_eq @Vy5.eq_1) (And.intro (tev_eq @Vq2.eq_1) (And.intro (tev_eq @Oq1.eq_1) (And.intro (tev_eq @Uy8.eq_1) (And.intro (tev_eq @Uw2.eq_1) (And.intro (tev_eq @Uk5.eq_1) (And.intro (tev_eq @Ty9.eq_1) (tev_eq @Oy5.eq_1)))))))))
def Wv2 : T := (.ret [.ite (.ite (.bin .eql (.v 1) (.c (.s [46]))) (.c (.b true)) (.bin .eql (.v 0) (.v 1))) (.c (.b true)) (.v 2)])
def Oy4 : T := (.w (.chk (.ite (.un .not (.ite (.bin .eql (.v 1) (.c (.s [46]))) (.c (.b true)) (.bin .eql (.v 0) (.v 1)))) (.bin .add (.c (.s [46])) (.v 1)) (.c .u))) (.w (.call (some (.un .not (.ite (.bin .eql (.v 1) (.c (.s [46]))) (.c (.b true)) (.bin .eql (.v 0) (.v 1))))) true Px8 [.v 0, .bin .add (.c (.s [46])) (.v 1)] 1) Wv2))
theorem x_u65 : type_of% (And.intro (tev_eq @Wv2.eq_1) (tev_eq @Oy4.eq_1)) := (And.intro (tev_eq @Wv2.eq_1) (tev_eq @Oy4.eq_1))
def Oy3 : T := (.w (.call none false Cq4 [.v 0] 2) (.ret [.v 2]))
theorem x_u66 : type_of% (tev_eq @Oy3.eq_1) := (tev_eq @Oy3.eq_1)
def Wv1 : T := (.w (.chk (.fit 16 (.sub 0 16 (.idx 16 (.v 0) (.v 4))))) (.yld 1 [.app 16 (.v 3) (.lit 16 [.sub 0 16 (.idx 16 (.v 0) (.v 4))]), .bin .add (.v 4) (.c (.i .i64 1))]))
def Vy4 : T := (.yld 1 [.v 3, .bin .add (.v 4) (.c (.i .i64 1))])
def Vq1 : T := (.ite (.ite (.bin .eql (.proj 0 (.idx 16 (.v 0) (.v 4))) (.v 1)) (.bin .eql (.proj 1 (.idx 16 (.v 0) (.v 4))) (.v 2)) (.c (.b false))) Wv1 Vy4)
def Xj6 : T := (.ite (.bin .lss (.v 4) (.len (.v 0))) Vq1 (.yld 0 [.v 3]))
def Zv7 : T := .loop 1 [.c (.l 16 []), .c (.i .i64 0)] Xj6
def Oy2 : T := (.blk 0 Zv7 (.ret [.v 3]))
theorem Qq6 : type_of% (And.intro (tev_eq @Wv1.eq_1) (And.intro (tev_eq @Vy4.eq_1) (And.intro (tev_eq @Vq1.eq_1) (And.intro (tev_eq @Xj6.eq_1) (tev_eq @Oy2.eq_1))))) := (And.intro (tev_eq @Wv1.eq_1) (And.intro (tev_eq @Vy4.eq_1) (And.intro (tev_eq @Vq1.eq_1) (And.intro (tev_eq @Xj6.eq_1) (tev_eq @Oy2.eq_1)))))
def Wv0 : T := (.ret [.ite (.ite (.ite (.ite (.v 1) (.v 2) (.c (.b false))) (.bin .geq (.proj 2 (.v 0)) (.c (.i .i64 0))) (.c (.b false))) (.bin .leq (.proj 2 (.v 0)) (.c (.i .i64 2147483647))) (.c (.b false))) (.v 3) (.c (.b false))])
def Vy3 : T := (.w (.call (some (.ite (.ite (.ite (.v 1) (.v 2) (.c (.b false))) (.bin .geq (.proj 2 (.v 0)) (.c (.i .i64 0))) (.c (.b false))) (.bin .leq (.proj 2 (.v 0)) (.c (.i .i64 2147483647))) (.c (.b false)))) true Fk4 [.proj 1 (.v 0), .agg [.proj 3 (.v 0), .proj 4 (.v 0), .proj 5 (.v 0), .proj 6 (.v 0), .proj 7 (.v 0), .proj 8 (.v 0), .proj 9 (.v 0), .proj 10 (.v 0), .proj 11 (.v 0), .proj 12 (.v 0), .proj 13 (.v 0), .proj 14 (.v 0), .proj 15 (.v 0)]] 1) Wv0)
def Vq0 : T := (.w (.chk (.ite (.v 1) (.c .u) (.c .u))) (.w (.call (some (.v 1)) true Cw8 [.proj 1 (.v 0)] 1) Vy3))
def Oy1 : T := (.w (.chk (.fit 16 (.v 0))) (.w (.call none true Eq0 [.proj 0 (.v 0)] 1) Vq0))
theorem x_u68 : type_of% (And.intro (tev_eq @Wv0.eq_1) (And.intro (tev_eq @Vy3.eq_1) (And.intro (tev_eq @Vq0.eq_1) (tev_eq @Oy1.eq_1)))) := (And.intro (tev_eq @Wv0.eq_1) (And.intro (tev_eq @Vy3.eq_1) (And.intro (tev_eq @Vq0.eq_1) (tev_eq @Oy1.eq_1))))
def Wq9 : T := (.yld 1 [.bin .add (.v 2) (.c (.i .i64 1))])
def Vy2 : T := (.ite (.eqs true true [.s, .i .i64, .i .i64, .b, .i .u64, .i .u64, .s, .s, .s, .i .i64, .i .i64, .i .i64, .i .i64, .i .i64, .i .i64, .i .u64] (.sub 0 16 (.idx 16 (.v 0) (.v 2))) (.sub 0 16 (.idx 16 (.v 1) (.v 2)))) (.ret [.c (.b false)]) Wq9)
def Xj5 : T := (.ite (.bin .lss (.v 2) (.len (.v 0))) Vy2 (.yld 0 []))
def Zv6 : T := .loop 1 [.c (.i .i64 0)] Xj5
def Vk9 : T := (.blk 0 Zv6 (.ret [.c (.b true)]))
def Oy0 : T := (.ite (.bin .neq (.len (.v 0)) (.len (.v 1))) (.ret [.c (.b false)]) Vk9)
theorem Ov1 : type_of% (And.intro (tev_eq @Wq9.eq_1) (And.intro (tev_eq @Vy2.eq_1) (And.intro (tev_eq @Xj5.eq_1) (And.intro (tev_eq @Vk9.eq_1) (tev_eq @Oy0.eq_1))))) := (And.intro (tev_eq @Wq9.eq_1) (And.intro (tev_eq @Vy2.eq_1) (And.intro (tev_eq @Xj5.eq_1) (And.intro (tev_eq @Vk9.eq_1) (tev_eq @Oy0.eq_1)))))
def Wq8 : T := (.yld 3 [.bin .add (.v 3) (.c (.i .i64 1))])
def Vy1 : T := (.ite (.ite (.bin .lss (.v 3) (.len (.v 1))) (.bin .lss (.v 4) (.c (.i .i64 0))) (.c (.b false))) Wq8 (.yld 2 [.v 3]))
def Wz4 : T := (.w (.chk (.ite (.bin .lss (.v 3) (.len (.v 1))) (.sub 0 16 (.idx 16 (.v 1) (.v 3))) (.c .u))) (.w (.chk (.ite (.bin .lss (.v 3) (.len (.v 1))) (.sub 0 16 (.idx 16 (.v 0) (.v 2))) (.c .u))) (.w (.call (some (.bin .lss (.v 3) (.len (.v 1)))) true Fk3 [.sub 0 16 (.idx 16 (.v 1) (.v 3)), .sub 0 16 (.idx 16 (.v 0) (.v 2))] 1) Vy1)))
def Sv7 : T := .loop 3 [.c (.i .i64 0)] Wz4
def Vk8 : T := (.w (.chk (.idx 16 (.v 1) (.v 3))) (.w (.chk (.fit 16 (.sub 0 16 (.idx 16 (.v 0) (.v 2))))) (.yld 2 [.set 16 (.v 1) (.v 3) 0 [.proj 0 (.sub 0 16 (.idx 16 (.v 0) (.v 2))), .proj 1 (.sub 0 16 (.idx 16 (.v 0) (.v 2))), .proj 2 (.sub 0 16 (.idx 16 (.v 0) (.v 2))), .proj 3 (.sub 0 16 (.idx 16 (.v 0) (.v 2))), .proj 4 (.sub 0 16 (.idx 16 (.v 0) (.v 2))), .proj 5 (.sub 0 16 (.idx 16 (.v 0) (.v 2))), .proj 6 (.sub 0 16 (.idx 16 (.v 0) (.v 2))), .proj 7 (.sub 0 16 (.idx 16 (.v 0) (.v 2))), .proj 8 (.sub 0 16 (.idx 16 (.v 0) (.v 2))), .proj 9 (.sub 0 16 (.idx 16 (.v 0) (.v 2))), .proj 10 (.sub 0 16 (.idx 16 (.v 0) (.v 2))), .proj 11 (.sub 0 16 (.idx 16 (.v 0) (.v 2))), .proj 12 (.sub 0 16 (.idx 16 (.v 0) (.v 2))), .proj 13 (.sub 0 16 (.idx 16 (.v 0) (.v 2))), .proj 14 (.sub 0 16 (.idx 16 (.v 0) (.v 2))), .proj 15 (.sub 0 16 (.idx 16 (.v 0) (.v 2)))]])))
def Uy7 : T := (.ite (.bin .lss (.proj 2 (.idx 16 (.v 0) (.v 2))) (.proj 2 (.idx 16 (.v 1) (.v 3)))) Vk8 (.yld 2 [.v 1]))
def Uw1 : T := (.yld 1 [.v 5, .bin .add (.v 2) (.c (.i .i64 1))])
def Uk4 : T := (.blk 2 Uy7 Uw1)
def Ty8 : T := (.w (.chk (.fit 16 (.sub 0 16 (.idx 16 (.v 0) (.v 2))))) (.yld 1 [.app 16 (.app 16 (.app 16 (.c (.l 16 [])) (.lsl 16 (.v 1) (.c (.i .i64 0)) (.v 3))) (.lit 16 [.sub 0 16 (.idx 16 (.v 0) (.v 2))])) (.lsl 16 (.v 1) (.v 3) (.len (.v 1))), .bin .add (.v 2) (.c (.i .i64 1))]))
def Tw6 : T := (.ite (.ite (.bin .lss (.v 3) (.len (.v 1))) (.bin .eql (.v 4) (.c (.i .i64 0))) (.c (.b false))) Uk4 Ty8)
def Tv0 : T := (.w (.chk (.ite (.bin .lss (.v 3) (.len (.v 1))) (.sub 0 16 (.idx 16 (.v 1) (.v 3))) (.c .u))) (.w (.chk (.ite (.bin .lss (.v 3) (.len (.v 1))) (.sub 0 16 (.idx 16 (.v 0) (.v 2))) (.c .u))) (.w (.call (some (.bin .lss (.v 3) (.len (.v 1)))) true Fk3 [.sub 0 16 (.idx 16 (.v 1) (.v 3)), .sub 0 16 (.idx 16 (.v 0) (.v 2))] 1) Tw6)))
def Tk3 : T := (.blk 2 Sv7 Tv0)
def Xj4 : T := (.ite (.bin .lss (.v 2) (.len (.v 0))) Tk3 (.yld 0 [.v 1]))
def Zv5 : T := .loop 1 [.c (.l 16 []), .c (.i .i64 0)] Xj4
def Ox9 : T := (.blk 0 Zv5 (.ret [.v 1]))
theorem Fv5 : type_of% (And.intro (tev_eq @Wq8.eq_1) (And.intro (tev_eq @Vy1.eq_1) (And.intro (tev_eq @Wz4.eq_1) (And.intro (tev_eq @Vk8.eq_1) (And.intro (tev_eq @Uy7.eq_1) (And.intro (tev_eq @Uw1.eq_1) (And.intro (tev_eq @Uk4.eq_1) (And.intro (tev_eq @Ty8.eq_1) (And.intro (tev_eq @Tw6.eq_1) (And.intro (tev_eq @Tv0.eq_1) (And.intro (tev_eq @Tk3.eq_1) (And.intro (tev_eq @Xj4.eq_1) (tev_eq @Ox9.eq_1))))))))))))) := (And.intro (tev_eq @Wq8.eq_1) (And.intro (tev_eq @Vy1.eq_1) (And.intro (tev_eq @Wz4.eq_1) (And.intro (tev_eq @Vk8.eq_1) (And.intro (tev_eq @Uy7.eq_1) (And.intro (tev_eq @Uw1.eq_1) (And.intro (tev_eq @Uk4.eq_1) (And.intro (tev_eq @Ty8.eq_1) (And.intro (tev_eq @Tw6.eq_1) (And.intro (tev_eq @Tv0.eq_1) (And.intro (tev_eq @Tk3.eq_1) (And.intro (tev_eq @Xj4.eq_1) (tev_eq @Ox9.eq_1)))))))))))))
def Wq7 : T := (.ret [.bin .gtr (.len (.v 3)) (.c (.i .i64 0))])
def Ox8 : T := (.w (.call none false Ix7 [.v 0, .v 1, .v 2] 1) Wq7)
theorem x_u71 : type_of% (And.intro (tev_eq @Wq7.eq_1) (tev_eq @Ox8.eq_1)) := (And.intro (tev_eq @Wq7.eq_1) (tev_eq @Ox8.eq_1))
def Wq6 : T := (.yld 1 [.bin .add (.v 2) (.c (.i .i64 1))])
def Vy0 : T := (.yld 1 [.bin .add (.v 2) (.c (.i .i64 1))])
def Vk7 : T := (.ite (.ite (.ite (.ite (.bin .eql (.proj 1 (.v 1)) (.c (.i .i64 5))) (.bin .neq (.proj 1 (.sub 0 16 (.idx 16 (.proj 1 (.v 0)) (.v 2)))) (.c (.i .i64 5))) (.c (.b false))) (.bin .neq (.proj 1 (.sub 0 16 (.idx 16 (.proj 1 (.v 0)) (.v 2)))) (.c (.i .i64 46))) (.c (.b false))) (.bin .neq (.proj 1 (.sub 0 16 (.idx 16 (.proj 1 (.v 0)) (.v 2)))) (.c (.i .i64 47))) (.c (.b false))) (.ret [.c (.b false)]) Vy0)
def Uy6 : T := (.ite (.ite (.ite (.bin .eql (.proj 1 (.sub 0 16 (.idx 16 (.proj 1 (.v 0)) (.v 2)))) (.proj 1 (.v 1))) (.v 3) (.c (.b false))) (.eqs true true [.s, .i .i64, .i .i64, .b, .i .u64, .i .u64, .s, .s, .s, .i .i64, .i .i64, .i .i64, .i .i64, .i .i64, .i .i64, .i .u64] (.sub 0 16 (.sub 0 16 (.idx 16 (.proj 1 (.v 0)) (.v 2)))) (.sub 0 16 (.v 1))) (.c (.b false))) (.ret [.c (.b false)]) Vk7)
def Uw0 : T := (.w (.call (some (.bin .eql (.proj 1 (.sub 0 16 (.idx 16 (.proj 1 (.v 0)) (.v 2)))) (.proj 1 (.v 1)))) true Jj1 [.proj 1 (.v 1)] 1) Uy6)
def Uk3 : T := (.ite (.ite (.ite (.bin .eql (.proj 1 (.sub 0 16 (.idx 16 (.proj 1 (.v 0)) (.v 2)))) (.proj 1 (.v 1))) (.bin .neq (.proj 1 (.v 1)) (.c (.i .i64 46))) (.c (.b false))) (.bin .neq (.proj 2 (.sub 0 16 (.idx 16 (.proj 1 (.v 0)) (.v 2)))) (.proj 2 (.v 1))) (.c (.b false))) (.ret [.c (.b false)]) Uw0)
def Ty7 : T := (.w (.chk (.fit 16 (.sub 0 16 (.idx 16 (.proj 1 (.v 0)) (.v 2))))) (.ite (.bin .neq (.proj 0 (.sub 0 16 (.idx 16 (.proj 1 (.v 0)) (.v 2)))) (.proj 0 (.v 1))) Wq6 Uk3))
def Oq0 : T := (.ite (.bin .lss (.v 2) (.len (.proj 1 (.v 0)))) Ty7 (.yld 0 []))
def Zv4 : T := .loop 1 [.c (.i .i64 0)] Oq0
def Ox7 : T := (.w (.chk (.fit 2 (.v 0))) (.w (.chk (.fit 16 (.v 1))) (.blk 0 Zv4 (.ret [.c (.b true)]))))
theorem Qq5 : type_of% (And.intro (tev_eq @Wq6.eq_1) (And.intro (tev_eq @Vy0.eq_1) (And.intro (tev_eq @Vk7.eq_1) (And.intro (tev_eq @Uy6.eq_1) (And.intro (tev_eq @Uw0.eq_1) (And.intro (tev_eq @Uk3.eq_1) (And.intro (tev_eq @Ty7.eq_1) (And.intro (tev_eq @Oq0.eq_1) (tev_eq @Ox7.eq_1))))))))) := (And.intro (tev_eq @Wq6.eq_1) (And.intro (tev_eq @Vy0.eq_1) (And.intro (tev_eq @Vk7.eq_1) (And.intro (tev_eq @Uy6.eq_1) (And.intro (tev_eq @Uw0.eq_1) (And.intro (tev_eq @Uk3.eq_1) (And.intro (tev_eq @Ty7.eq_1) (And.intro (tev_eq @Oq0.eq_1) (tev_eq @Ox7.eq_1)))))))))
def Wq5 : T := (.yld 1 [.bin .add (.v 3) (.c (.i .i64 1))])
def Vx9 : T := (.ite (.ite (.ite (.ite (.ite (.bin .eql (.proj 1 (.sub 0 16 (.idx 16 (.proj 1 (.v 0)) (.v 3)))) (.c (.i .i64 2))) (.v 5) (.c (.b false))) (.v 6) (.c (.b false))) (.bin .neq (.proj 1 (.v 1)) (.c (.i .i64 1))) (.c (.b false))) (.bin .neq (.proj 1 (.v 1)) (.c (.i .i64 28))) (.c (.b false))) (.ret [.c (.b false)]) Wq5)
def Vk6 : T := (.w (.chk (.ite (.ite (.bin .eql (.proj 1 (.sub 0 16 (.idx 16 (.proj 1 (.v 0)) (.v 3)))) (.c (.i .i64 2))) (.v 5) (.c (.b false))) (.c .u) (.c .u))) (.w (.call (some (.ite (.bin .eql (.proj 1 (.sub 0 16 (.idx 16 (.proj 1 (.v 0)) (.v 3)))) (.c (.i .i64 2))) (.v 5) (.c (.b false)))) true Fy2 [.proj 0 (.v 1), .proj 0 (.sub 0 16 (.idx 16 (.proj 1 (.v 0)) (.v 3)))] 1) Vx9))
def Uy5 : T := (.w (.call (some (.bin .eql (.proj 1 (.sub 0 16 (.idx 16 (.proj 1 (.v 0)) (.v 3)))) (.c (.i .i64 2)))) true Fy2 [.proj 0 (.sub 0 16 (.idx 16 (.proj 1 (.v 0)) (.v 3))), .proj 0 (.v 0)] 1) Vk6)
def Uv9 : T := (.ite (.ite (.bin .eql (.proj 1 (.sub 0 16 (.idx 16 (.proj 1 (.v 0)) (.v 3)))) (.c (.i .i64 39))) (.v 4) (.c (.b false))) (.ret [.c (.b false)]) Uy5)
def Uk2 : T := (.w (.chk (.fit 16 (.sub 0 16 (.idx 16 (.proj 1 (.v 0)) (.v 3))))) (.w (.call (some (.bin .eql (.proj 1 (.sub 0 16 (.idx 16 (.proj 1 (.v 0)) (.v 3)))) (.c (.i .i64 39)))) true Fy2 [.proj 0 (.v 1), .proj 0 (.sub 0 16 (.idx 16 (.proj 1 (.v 0)) (.v 3)))] 1) Uv9))
def Ok9 : T := (.ite (.bin .lss (.v 3) (.len (.proj 1 (.v 0)))) Uk2 (.yld 0 []))
def Zv3 : T := .loop 1 [.c (.i .i64 0)] Ok9
def Ty6 : T := (.ite (.bin .eql (.proj 1 (.v 1)) (.c (.i .i64 2))) (.ret [.c (.b true)]) (.ret [.c (.b false)]))
def Tw5 : T := (.ite (.bin .eql (.proj 1 (.v 1)) (.c (.i .i64 43))) (.ret [.c (.b true)]) (.ret [.c (.b false)]))
def Tq9 : T := (.ite (.bin .eql (.proj 1 (.v 1)) (.c (.i .i64 47))) (.ret [.c (.b true)]) (.ret [.c (.b false)]))
def Tk2 : T := (.ite (.bin .eql (.proj 1 (.v 1)) (.c (.i .i64 46))) (.ret [.c (.b true)]) (.ret [.c (.b false)]))
def Mx0 : T := (.ite (.bin .eql (.proj 1 (.v 1)) (.c (.i .i64 1))) (.ret [.c (.b true)]) (.ret [.c (.b false)]))
def Mv9 : T := (.ite (.bin .eql (.proj 1 (.v 1)) (.c (.i .i64 28))) (.ret [.c (.b true)]) (.ret [.c (.b false)]))
def Mv2 : T := (.ite (.bin .eql (.proj 1 (.v 1)) (.c (.i .i64 1))) Mx0 Mv9)
def Mq5 : T := (.ite (.bin .eql (.proj 1 (.v 1)) (.c (.i .i64 46))) Tk2 Mv2)
def Mq0 : T := (.ite (.bin .eql (.proj 1 (.v 1)) (.c (.i .i64 47))) Tq9 Mq5)
def Mk5 : T := (.ite (.bin .eql (.proj 1 (.v 1)) (.c (.i .i64 43))) Tw5 Mq0)
def Mk0 : T := (.ite (.bin .eql (.proj 1 (.v 1)) (.c (.i .i64 2))) Ty6 Mk5)
def Mj6 : T := (.ret [.bin .neq (.proj 1 (.v 1)) (.c (.i .i64 43))])
def Mj3 : T := (.ite (.ite (.v 3) (.v 4) (.c (.b false))) Mk0 Mj6)
def Mj0 : T := (.w (.chk (.ite (.v 3) (.c .u) (.c .u))) (.w (.call (some (.v 3)) true Py5 [.proj 1 (.v 0), .proj 0 (.v 1), .c (.i .i64 2)] 1) Mj3))
def Lx1 : T := (.w (.call none true Fy2 [.proj 0 (.v 1), .proj 0 (.v 0)] 1) Mj0)
def Hk6 : T := (.blk 0 Zv3 Lx1)
def Lw7 : T := (.w (.chk (.ite (.ite (.ite (.bin .gtr (.len (.v 2)) (.c (.i .i64 0))) (.bin .eql (.proj 0 (.idx 1 (.v 2) (.c (.i .i64 0)))) (.c (.s [42]))) (.c (.b false))) (.un .not (.bin .eql (.proj 1 (.v 1)) (.c (.i .i64 2)))) (.c (.b false))) (.bin .eql (.proj 1 (.v 1)) (.c (.i .i64 39))) (.c .u))) (.ite (.ite (.ite (.bin .gtr (.len (.v 2)) (.c (.i .i64 0))) (.bin .eql (.proj 0 (.idx 1 (.v 2) (.c (.i .i64 0)))) (.c (.s [42]))) (.c (.b false))) (.ite (.bin .eql (.proj 1 (.v 1)) (.c (.i .i64 2))) (.c (.b true)) (.bin .eql (.proj 1 (.v 1)) (.c (.i .i64 39)))) (.c (.b false))) (.ret [.c (.b false)]) Hk6))
def Ox6 : T := (.w (.chk (.fit 2 (.v 0))) (.w (.chk (.fit 16 (.v 1))) (.w (.call none false Ek9 [.proj 0 (.v 1)] 1) Lw7)))
theorem Fv4 : type_of% (And.intro (tev_eq @Wq5.eq_1) (And.intro (tev_eq @Vx9.eq_1) (And.intro (tev_eq @Vk6.eq_1) (And.intro (tev_eq @Uy5.eq_1) (And.intro (tev_eq @Uv9.eq_1) (And.intro (tev_eq @Uk2.eq_1) (And.intro (tev_eq @Ok9.eq_1) (And.intro (tev_eq @Ty6.eq_1) (And.intro (tev_eq @Tw5.eq_1) (And.intro (tev_eq @Tq9.eq_1) (And.intro (tev_eq @Tk2.eq_1) (And.intro (tev_eq @Mx0.eq_1) (And.intro (tev_eq @Mv9.eq_1) (And.intro (tev_eq @Mv2.eq_1) (And.intro (tev_eq @Mq5.eq_1) (And.intro (tev_eq @Mq0.eq_1) (And.intro (tev_eq @Mk5.eq_1) (And.intro (tev_eq @Mk0.eq_1) (And.intro (tev_eq @Mj6.eq_1) (And.intro (tev_eq @Mj3.eq_1) (And.intro (tev_eq @Mj0.eq_1) (And.intro (tev_eq @Lx1.eq_1) (And.intro (tev_eq @Hk6.eq_1) (And.intro (tev_eq @Lw7.eq_1) (tev_eq @Ox6.eq_1))))))))))))))))))))))))) := (And.intro (tev_eq @Wq5.eq_1) (And.intro (tev_eq @Vx9.eq_1) (And.intro (tev_eq @Vk6.eq_1) (And.intro (tev_eq @Uy5.eq_1) (And.intro (tev_eq @Uv9.eq_1) (And.intro (tev_eq @Uk2.eq_1) (And.intro (tev_eq @Ok9.eq_1) (And.intro (tev_eq @Ty6.eq_1) (And.intro (tev_eq @Tw5.eq_1) (And.intro (tev_eq @Tq9.eq_1) (And.intro (tev_eq @Tk2.eq_1) (And.intro (tev_eq @Mx0.eq_1) (And.intro (tev_eq @Mv9.eq_1) (And.intro (tev_eq @Mv2.eq_1) (And.intro (tev_eq @Mq5.eq_1) (And.intro (tev_eq @Mq0.eq_1) (And.intro (tev_eq @Mk5.eq_1) (And.intro (tev_eq @Mk0.eq_1) (And.intro (tev_eq @Mj6.eq_1) (And.intro (tev_eq @Mj3.eq_1) (And.intro (tev_eq @Mj0.eq_1) (And.intro (tev_eq @Lx1.eq_1) (And.intro (tev_eq @Hk6.eq_1) (And.intro (tev_eq @Lw7.eq_1) (tev_eq @Ox6.eq_1)))))))))))))))))))))))))
def Wq4 : T := (.w (.chk (.fit 16 (.sub 0 16 (.sub 0 16 (.idx 16 (.v 0) (.v 4)))))) (.yld 1 [.app 16 (.v 3) (.lit 16 [.sub 0 16 (.sub 0 16 (.idx 16 (.v 0) (.v 4)))]), .bin .add (.v 4) (.c (.i .i64 1))]))
def Vx8 : T := (.yld 1 [.v 3, .bin .add (.v 4) (.c (.i .i64 1))])
def Vk5 : T := (.w (.chk (.fit 16 (.sub 0 16 (.idx 16 (.v 0) (.v 4))))) (.ite (.ite (.bin .eql (.proj 1 (.sub 0 16 (.idx 16 (.v 0) (.v 4)))) (.v 2)) (.bin .eql (.proj 0 (.sub 0 16 (.idx 16 (.v 0) (.v 4)))) (.v 1)) (.c (.b false))) Wq4 Vx8))
def Xj3 : T := (.ite (.bin .lss (.v 4) (.len (.v 0))) Vk5 (.yld 0 [.v 3]))
def Zv2 : T := .loop 1 [.c (.l 16 []), .c (.i .i64 0)] Xj3
def Ox5 : T := (.w (.chk (.len (.v 0))) (.blk 0 Zv2 (.ret [.v 3])))
theorem Qq4 : type_of% (And.intro (tev_eq @Wq4.eq_1) (And.intro (tev_eq @Vx8.eq_1) (And.intro (tev_eq @Vk5.eq_1) (And.intro (tev_eq @Xj3.eq_1) (tev_eq @Ox5.eq_1))))) := (And.intro (tev_eq @Wq4.eq_1) (And.intro (tev_eq @Vx8.eq_1) (And.intro (tev_eq @Vk5.eq_1) (And.intro (tev_eq @Xj3.eq_1) (tev_eq @Ox5.eq_1)))))
def Wq3 : T := (.ret [.c (.s []), .c (.b false)])
def Vx7 : T := (.ret [.c (.s [46]), .c (.b true)])
def Vk4 : T := (.ret [.ssl (.v 0) (.bin .add (.v 2) (.c (.i .i64 1))) (.slen (.v 0)), .c (.b true)])
def Uy4 : T := (.ite (.bin .eql (.ssl (.v 0) (.bin .add (.v 2) (.c (.i .i64 1))) (.slen (.v 0))) (.c (.s []))) Vx7 Vk4)
def Uv8 : T := (.w (.call none true Jj0 [.v 0, .c (.i .u8 46)] 1) Uy4)
def Uk1 : T := (.ite (.ite (.bin .eql (.v 0) (.c (.s [46]))) (.c (.b true)) (.un .not (.v 1))) Wq3 Uv8)
def Ox4 : T := (.w (.call (some (.un .not (.bin .eql (.v 0) (.c (.s [46]))))) true Cq5 [.v 0] 1) Uk1)
theorem Xw5 : type_of% (And.intro (tev_eq @Wq3.eq_1) (And.intro (tev_eq @Vx7.eq_1) (And.intro (tev_eq @Vk4.eq_1) (And.intro (tev_eq @Uy4.eq_1) (And.intro (tev_eq @Uv8.eq_1) (And.intro (tev_eq @Uk1.eq_1) (tev_eq @Ox4.eq_1))))))) := (And.intro (tev_eq @Wq3.eq_1) (And.intro (tev_eq @Vx7.eq_1) (And.intro (tev_eq @Vk4.eq_1) (And.intro (tev_eq @Uy4.eq_1) (And.intro (tev_eq @Uv8.eq_1) (And.intro (tev_eq @Uk1.eq_1) (tev_eq @Ox4.eq_1)))))))
def Wq2 : T := (.ret [.c (.s []), .c (.i .i64 2)])
def Vx6 : T := (.ret [.c (.s []), .c (.i .i64 1)])
def Vk3 : T := (.w (.call none true Iz9 [.v 0, .v 1] 1) (.yld 0 [.v 7]))
def Ok1 : T := (.ite (.bin .neq (.v 1) (.c (.s [46]))) Vk3 (.yld 0 [.v 0]))
def Uv7 : T := (.yld 0 [.bin .add (.v 7) (.v 2)])
def Uk0 : T := (.ite (.bin .eql (.v 2) (.c (.s [46]))) (.yld 0 [.v 7]) Uv7)
def Ty5 : T := (.ret [.c (.s []), .c (.i .i64 9)])
def Tw4 : T := (.ret [.v 8, .c (.i .i64 0)])
def Tq8 : T := (.ite (.bin .geq (.slen (.v 8)) (.c (.i .i64 255))) Ty5 Tw4)
def Tk1 : T := (.w (.chk (.bin .add (.v 7) (.v 2))) (.blk 0 Uk0 Tq8))
def Mw9 : T := (.blk 0 Ok1 Tk1)
def Mv8 : T := (.ite (.ite (.bin .eql (.v 0) (.v 1)) (.c (.b true)) (.un .not (.v 6))) Vx6 Mw9)
def Mv1 : T := (.w (.call (some (.un .not (.bin .eql (.v 0) (.v 1)))) true Py6 [.v 0, .v 1] 1) Mv8)
def Mq4 : T := (.ite (.ite (.ite (.ite (.un .not (.v 3)) (.c (.b true)) (.un .not (.v 4))) (.c (.b true)) (.un .not (.v 5))) (.c (.b true)) (.bin .eql (.sidx (.v 2) (.c (.i .i64 0))) (.c (.i .u8 42)))) Wq2 Mv1)
def Mk9 : T := (.w (.chk (.ite (.un .not (.ite (.un .not (.v 3)) (.c (.b true)) (.un .not (.v 4)))) (.c .u) (.c .u))) (.w (.call (some (.un .not (.ite (.un .not (.v 3)) (.c (.b true)) (.un .not (.v 4))))) true Cq5 [.v 2] 1) Mq4))
def Mk4 : T := (.w (.chk (.ite (.un .not (.un .not (.v 3))) (.c .u) (.c .u))) (.w (.call (some (.un .not (.un .not (.v 3)))) true Cq5 [.v 1] 1) Mk9))
def Ox3 : T := (.w (.call none true Cq5 [.v 0] 1) Mk4)
theorem Dv6 : type_of% (And.intro (tev_eq @Wq2.eq_1) (And.intro (tev_eq @Vx6.eq_1) (And.intro (tev_eq @Vk3.eq_1) (And.intro (tev_eq @Ok1.eq_1) (And.intro (tev_eq @Uv7.eq_1) (And.intro (tev_eq @Uk0.eq_1) (And.intro (tev_eq @Ty5.eq_1) (And.intro (tev_eq @Tw4.eq_1) (And.intro (tev_eq @Tq8.eq_1) (And.intro (tev_eq @Tk1.eq_1) (And.intro (tev_eq @Mw9.eq_1) (And.intro (tev_eq @Mv8.eq_1) (And.intro (tev_eq @Mv1.eq_1) (And.intro (tev_eq @Mq4.eq_1) (And.intro (tev_eq @Mk9.eq_1) (And.intro (tev_eq @Mk4.eq_1) (tev_eq @Ox3.eq_1))))))))))))))))) := (And.intro (tev_eq @Wq2.eq_1) (And.intro (tev_eq @Vx6.eq_1) (And.intro (tev_eq @Vk3.eq_1) (And.intro (tev_eq @Ok1.eq_1) (And.intro (tev_eq @Uv7.eq_1) (And.intro (tev_eq @Uk0.eq_1) (And.intro (tev_eq @Ty5.eq_1) (And.intro (tev_eq @Tw4.eq_1) (And.intro (tev_eq @Tq8.eq_1) (And.intro (tev_eq @Tk1.eq_1) (And.intro (tev_eq @Mw9.eq_1) (And.intro (tev_eq @Mv8.eq_1) (And.intro (tev_eq @Mv1.eq_1) (And.intro (tev_eq @Mq4.eq_1) (And.intro (tev_eq @Mk9.eq_1) (And.intro (tev_eq @Mk4.eq_1) (tev_eq @Ox3.eq_1)))))))))))))))))
def Wq1 : T := (.yld 1 [.v 3, .bin .add (.v 4) (.c (.i .i64 1))])
def Vx5 : T := (.yld 2 [.app 1 (.v 7) (.lit 1 [.v 8])])
def Vk2 : T := (.yld 3 [.app 1 (.v 7) (.lit 1 [.v 8]), .v 9])
def Uy3 : T := (.w (.call none true Jy9 [.v 8] 2) Vk2)
def Ok5 : T := (.w (.chk (.scal (.v 8))) (.w (.chk (.app 1 (.v 7) (.lit 1 [.v 8]))) (.ite (.bin .eql (.v 8) (.proj 0 (.v 0))) Vx5 Uy3)))
def Sv6 : T := .loop 3 [.v 3, .proj 0 (.idx 1 (.v 2) (.v 4))] Ok5
def Uv6 : T := (.yld 1 [.v 7, .bin .add (.v 4) (.c (.i .i64 1))])
def Uj9 : T := (.blk 2 Sv6 Uv6)
def Ty4 : T := (.ite (.ite (.un .not (.v 5)) (.c (.b true)) (.v 6)) Wq1 Uj9)
def Tw3 : T := (.w (.chk (.ite (.un .not (.un .not (.v 5))) (.c .u) (.c .u))) (.w (.call (some (.un .not (.un .not (.v 5)))) true Iz6 [.v 1, .clo Fk2 [.proj 0 (.idx 1 (.v 2) (.v 4))]] 1) Ty4))
def Tq7 : T := (.w (.chk (.scal (.proj 0 (.idx 1 (.v 2) (.v 4))))) (.w (.call none true Dk9 [.proj 0 (.idx 1 (.v 2) (.v 4)), .proj 0 (.v 0)] 1) Tw3))
def Xj2 : T := (.ite (.bin .lss (.v 4) (.len (.v 2))) Tq7 (.yld 0 [.v 3]))
def Zv1 : T := .loop 1 [.c (.l 1 []), .c (.i .i64 0)] Xj2
def Tk0 : T := (.w (.mcall Dy8 [.v 4]) (.ret [.v 5]))
def Mw8 : T := (.w (.mcall Cw7 [.v 3, .c (.f Bx4 [])]) Tk0)
def Mv7 : T := (.w (.chk (.len (.v 2))) (.blk 0 Zv1 Mw8))
def Mv0 : T := (.w (.call none false Iz7 [.proj 1 (.v 0)] 1) Mv7)
def Ox2 : T := (.w (.chk (.fit 2 (.v 0))) (.w (.call none false Iz8 [.sub 0 2 (.v 0)] 1) Mv0))
theorem Jw0 : type_of% (And.intro (tev_eq @Wq1.eq_1) (And.intro (tev_eq @Vx5.eq_1) (And.intro (tev_eq @Vk2.eq_1) (And.intro (tev_eq @Uy3.eq_1) (And.intro (tev_eq @Ok5.eq_1) (And.intro (tev_eq @Uv6.eq_1) (And.intro (tev_eq @Uj9.eq_1) (And.intro (tev_eq @Ty4.eq_1) (And.intro (tev_eq @Tw3.eq_1) (And.intro (tev_eq @Tq7.eq_1) (And.intro (tev_eq @Xj2.eq_1) (And.intro (tev_eq @Tk0.eq_1) (And.intro (tev_eq @Mw8.eq_1) (And.intro (tev_eq @Mv7.eq_1) (And.intro (tev_eq @Mv0.eq_1) (tev_eq @Ox2.eq_1)))))))))))))))) := (And.intro (tev_eq @Wq1.eq_1) (And.intro (tev_eq @Vx5.eq_1) (And.intro (tev_eq @Vk2.eq_1) (And.intro (tev_eq @Uy3.eq_1) (And.intro (tev_eq @Ok5.eq_1) (And.intro (tev_eq @Uv6.eq_1) (And.intro (tev_eq @Uj9.eq_1) (And.intro (tev_eq @Ty4.eq_1) (And.intro (tev_eq @Tw3.eq_1) (And.intro (tev_eq @Tq7.eq_1) (And.intro (tev_eq @Xj2.eq_1) (And.intro (tev_eq @Tk0.eq_1) (And.intro (tev_eq @Mw8.eq_1) (And.intro (tev_eq @Mv7.eq_1) (And.intro (tev_eq @Mv0.eq_1) (tev_eq @Ox2.eq_1))))))))))))))))
def Wq0 : T := (.w (.mcall Iz5 [.v 2, .clo Fk1 [.v 1]]) (.ret [.v 3]))
def Vx4 : T := (.w (.call none false Rz2 [.v 0] 1) Wq0)
def Ox1 : T := (.w (.chk (.scal (.v 1))) (.ite (.bin .eql (.v 1) (.c (.i .i64 255))) (.ret [.v 0]) Vx4))
theorem x_u78 : type_of% (And.intro (tev_eq @Wq0.eq_1) (And.intro (tev_eq @Vx4.eq_1) (tev_eq @Ox1.eq_1))) := (And.intro (tev_eq @Wq0.eq_1) (And.intro (tev_eq @Vx4.eq_1) (tev_eq @Ox1.eq_1)))
def Wk9 : T := (.ite (.bin .eql (.v 0) (.c (.i .i64 5))) (.ret [.c (.b true)]) (.ret [.c (.b false)]))
def Vx3 : T := (.ite (.bin .eql (.v 0) (.c (.i .i64 47))) (.ret [.c (.b true)]) (.ret [.c (.b false)]))
def Vk1 : T := (.ite (.bin .eql (.v 0) (.c (.i .i64 46))) (.ret [.c (.b true)]) (.ret [.c (.b false)]))
def Uy2 : T := (.ite (.bin .eql (.v 0) (.c (.i .i64 255))) (.ret [.c (.b true)]) (.ret [.c (.b false)]))
def Uv5 : T := (.ite (.bin .eql (.v 0) (.c (.i .i64 46))) Vk1 Uy2)
def Uj8 : T := (.ite (.bin .eql (.v 0) (.c (.i .i64 47))) Vx3 Uv5)
def Ox0 : T := (.ite (.bin .eql (.v 0) (.c (.i .i64 5))) Wk9 Uj8)
theorem Qq3 : type_of% (And.intro (tev_eq @Wk9.eq_1) (And.intro (tev_eq @Vx3.eq_1) (And.intro (tev_eq @Vk1.eq_1) (And.intro (tev_eq @Uy2.eq_1) (And.intro (tev_eq @Uv5.eq_1) (And.intro (tev_eq @Uj8.eq_1) (tev_eq @Ox0.eq_1))))))) := (And.intro (tev_eq @Wk9.eq_1) (And.intro (tev_eq @Vx3.eq_1) (And.intro (tev_eq @Vk1.eq_1) (And.intro (tev_eq @Uy2.eq_1) (And.intro (tev_eq @Uv5.eq_1) (And.intro (tev_eq @Uj8.eq_1) (tev_eq @Ox0.eq_1)))))))
def Wk8 : T := (.ret [.c (.s []), .c (.b false)])
def Vx2 : T := (.ret [.c (.s []), .c (.b false)])
def Vk0 : T := (.w (.call none true Jy9 [.v 4] 2) (.yld 1 [.v 6]))
def Uy1 : T := (.ite (.bin .eql (.v 4) (.proj 0 (.v 0))) Vx2 Vk0)
def Uv4 : T := (.ite (.un .not (.v 5)) Uy1 (.yld 0 [.v 4]))
def Ok8 : T := (.w (.call none true Ix8 [.v 3, .v 4] 1) Uv4)
def Zv0 : T := .loop 1 [.v 1] Ok8
def Uj7 : T := (.ret [.v 4, .c (.b true)])
def Ty3 : T := (.blk 0 Zv0 Uj7)
def Tw2 : T := (.w (.call none false Py4 [.sub 0 2 (.v 0)] 1) Ty3)
def Tq6 : T := (.ite (.un .not (.v 2)) Wk8 Tw2)
def Ow9 : T := (.w (.chk (.fit 2 (.v 0))) (.w (.call none true Dk9 [.v 1, .proj 0 (.v 0)] 1) Tq6))
theorem Jv9 : type_of% (And.intro (tev_eq @Wk8.eq_1) (And.intro (tev_eq @Vx2.eq_1) (And.intro (tev_eq @Vk0.eq_1) (And.intro (tev_eq @Uy1.eq_1) (And.intro (tev_eq @Uv4.eq_1) (And.intro (tev_eq @Ok8.eq_1) (And.intro (tev_eq @Uj7.eq_1) (And.intro (tev_eq @Ty3.eq_1) (And.intro (tev_eq @Tw2.eq_1) (And.intro (tev_eq @Tq6.eq_1) (tev_eq @Ow9.eq_1))))))))))) := (And.intro (tev_eq @Wk8.eq_1) (And.intro (tev_eq @Vx2.eq_1) (And.intro (tev_eq @Vk0.eq_1) (And.intro (tev_eq @Uy1.eq_1) (And.intro (tev_eq @Uv4.eq_1) (And.intro (tev_eq @Ok8.eq_1) (And.intro (tev_eq @Uj7.eq_1) (And.intro (tev_eq @Ty3.eq_1) (And.intro (tev_eq @Tw2.eq_1) (And.intro (tev_eq @Tq6.eq_1) (tev_eq @Ow9.eq_1)))))))))))
def Wk7 : T := (.yld 0 [.c (.s [42, 46])])
def Vx1 : T := (.yld 0 [.bin .add (.c (.s [42, 46])) (.v 0)])
def Vj9 : T := (.ite (.bin .eql (.v 0) (.c (.s [46]))) Wk7 Vx1)
def Uy0 : T := (.ret [.c (.s []), .c (.b false)])
def Uv3 : T := (.ret [.v 1, .c (.b true)])
def Uj6 : T := (.ite (.ite (.ite (.un .not (.v 2)) (.c (.b true)) (.bin .eql (.sidx (.v 0) (.c (.i .i64 0))) (.c (.i .u8 42)))) (.c (.b true)) (.un .not (.v 3))) Uy0 Uv3)
def Ty2 : T := (.w (.call (some (.un .not (.ite (.un .not (.v 2)) (.c (.b true)) (.bin .eql (.sidx (.v 0) (.c (.i .i64 0))) (.c (.i .u8 42)))))) true Cq5 [.v 1] 1) Uj6)
def Oj9 : T := (.w (.call none true Cq5 [.v 0] 1) Ty2)
def Ow8 : T := (.w (.chk (.bin .add (.c (.s [42, 46])) (.v 0))) (.blk 0 Vj9 Oj9))
theorem Xw4 : type_of% (And.intro (tev_eq @Wk7.eq_1) (And.intro (tev_eq @Vx1.eq_1) (And.intro (tev_eq @Vj9.eq_1) (And.intro (tev_eq @Uy0.eq_1) (And.intro (tev_eq @Uv3.eq_1) (And.intro (tev_eq @Uj6.eq_1) (And.intro (tev_eq @Ty2.eq_1) (And.intro (tev_eq @Oj9.eq_1) (tev_eq @Ow8.eq_1))))))))) := (And.intro (tev_eq @Wk7.eq_1) (And.intro (tev_eq @Vx1.eq_1) (And.intro (tev_eq @Vj9.eq_1) (And.intro (tev_eq @Uy0.eq_1) (And.intro (tev_eq @Uv3.eq_1) (And.intro (tev_eq @Uj6.eq_1) (And.intro (tev_eq @Ty2.eq_1) (And.intro (tev_eq @Oj9.eq_1) (tev_eq @Ow8.eq_1)))))))))
def Wk6 : T := (.ret [.c (.l 1 []), .c (.b true)])
def Vx0 : T := (.ret [.c (.l 1 []), .c (.b false)])
def Vj8 : T := (.yld 1 [.v 1, .v 2, .bin .add (.v 3) (.c (.i .i64 1))])
def Ux9 : T := (.ret [.c (.l 1 []), .c (.b false)])
def Uv2 : T := (.w (.chk (.scal (.ssl (.v 0) (.v 2) (.v 3)))) (.yld 1 [.app 1 (.v 1) (.lit 1 [.ssl (.v 0) (.v 2) (.v 3)]), .bin .add (.v 3) (.c (.i .i64 1)), .bin .add (.v 3) (.c (.i .i64 1))]))
def Uj5 : T := (.w (.chk (.ite (.ite (.un .not (.un .not (.v 4))) (.bin .eql (.ssl (.v 0) (.v 2) (.v 3)) (.c (.s [42]))) (.c (.b false))) (.bin .gtr (.v 2) (.c (.i .i64 0))) (.c .u))) (.ite (.ite (.un .not (.v 4)) (.c (.b true)) (.ite (.bin .eql (.ssl (.v 0) (.v 2) (.v 3)) (.c (.s [42]))) (.bin .gtr (.v 2) (.c (.i .i64 0))) (.c (.b false)))) Ux9 Uv2))
def Ty1 : T := (.w (.call none true Iz4 [.ssl (.v 0) (.v 2) (.v 3)] 1) Uj5)
def Tw1 : T := (.ite (.bin .neq (.sidx (.v 0) (.v 3)) (.c (.i .u8 46))) Vj8 Ty1)
def Xj1 : T := (.ite (.bin .lss (.v 3) (.slen (.v 0))) Tw1 (.yld 0 [.v 1]))
def Zq9 : T := .loop 1 [.c (.l 1 []), .c (.i .i64 0), .c (.i .i64 0)] Xj1
def Tq5 : T := (.ret [.v 1, .c (.b true)])
def Tj9 : T := (.blk 0 Zq9 Tq5)
def Mw7 : T := (.ite (.ite (.ite (.bin .lss (.slen (.v 0)) (.c (.i .i64 2))) (.c (.b true)) (.bin .gtr (.slen (.v 0)) (.c (.i .i64 254)))) (.c (.b true)) (.bin .neq (.sidx (.v 0) (.bin .sub (.slen (.v 0)) (.c (.i .i64 1)))) (.c (.i .u8 46)))) Vx0 Tj9)
def Ow7 : T := (.ite (.bin .eql (.v 0) (.c (.s [46]))) Wk6 Mw7)
theorem Ik2 : type_of% (And.intro (tev_eq @Wk6.eq_1) (And.intro (tev_eq @Vx0.eq_1) (And.intro (tev_eq @Vj8.eq_1) (And.intro (tev_eq @Ux9.eq_1) (And.intro (tev_eq @Uv2.eq_1) (And.intro (tev_eq @Uj5.eq_1) (And.intro (tev_eq @Ty1.eq_1) (And.intro (tev_eq @Tw1.eq_1) (And.intro (tev_eq @Xj1.eq_1) (And.intro (tev_eq @Tq5.eq_1) (And.intro (tev_eq @Tj9.eq_1) (And.intro (tev_eq @Mw7.eq_1) (tev_eq @Ow7.eq_1))))))))))))) := (And.intro (tev_eq @Wk6.eq_1) (And.intro (tev_eq @Vx0.eq_1) (And.intro (tev_eq @Vj8.eq_1) (And.intro (tev_eq @Ux9.eq_1) (And.intro (tev_eq @Uv2.eq_1) (And.intro (tev_eq @Uj5.eq_1) (And.intro (tev_eq @Ty1.eq_1) (And.intro (tev_eq @Tw1.eq_1) (And.intro (tev_eq @Xj1.eq_1) (And.intro (tev_eq @Tq5.eq_1) (And.intro (tev_eq @Tj9.eq_1) (And.intro (tev_eq @Mw7.eq_1) (tev_eq @Ow7.eq_1)))))))))))))
def Wk5 : T := (.yld 1 [.bin .add (.v 2) (.c (.i .i64 1))])
def Ok7 : T := (.ite (.ite (.ite (.bin .lss (.v 2) (.len (.v 0))) (.bin .lss (.v 2) (.len (.v 1))) (.c (.b false))) (.bin .eql (.proj 0 (.idx 1 (.v 0) (.bin .sub (.bin .sub (.len (.v 0)) (.c (.i .i64 1))) (.v 2)))) (.proj 0 (.idx 1 (.v 1) (.bin .sub (.bin .sub (.len (.v 1)) (.c (.i .i64 1))) (.v 2))))) (.c (.b false))) Wk5 (.yld 0 [.v 2]))
def Sw3 : T := .loop 1 [.c (.i .i64 0)] Ok7
def Ow6 : T := (.blk 0 Sw3 (.ret [.v 2]))
theorem Xw3 : type_of% (And.intro (tev_eq @Wk5.eq_1) (And.intro (tev_eq @Ok7.eq_1) (tev_eq @Ow6.eq_1))) := (And.intro (tev_eq @Wk5.eq_1) (And.intro (tev_eq @Ok7.eq_1) (tev_eq @Ow6.eq_1)))
def Wk4 : T := (.ret [.ite (.bin .neq (.v 0) (.v 1)) (.v 2) (.c (.b false))])
def Ow5 : T := (.w (.call (some (.bin .neq (.v 0) (.v 1))) true Dk8 [.v 0, .v 1] 1) Wk4)
theorem x_u84 : type_of% (And.intro (tev_eq @Wk4.eq_1) (tev_eq @Ow5.eq_1)) := (And.intro (tev_eq @Wk4.eq_1) (tev_eq @Ow5.eq_1))
def Ow4 : T := (.w (.call none false Cq4 [.v 0] 2) (.ret [.v 1]))
theorem x_u85 : type_of% (tev_eq @Ow4.eq_1) := (tev_eq @Ow4.eq_1)
def Wk3 : T := (.ret [.c (.s []), .c (.b false)])
def Vw9 : T := (.ret [.v 3, .c (.b true)])
def Vj7 : T := (.w (.call none true Py0 [.lsl 1 (.v 1) (.c (.i .i64 1)) (.len (.v 1))] 1) Vw9)
def Ux8 : T := (.ite (.bin .eql (.len (.v 1)) (.c (.i .i64 0))) Wk3 Vj7)
def Ow3 : T := (.w (.call none false Cq4 [.v 0] 2) Ux8)
theorem x_u86 : type_of% (And.intro (tev_eq @Wk3.eq_1) (And.intro (tev_eq @Vw9.eq_1) (And.intro (tev_eq @Vj7.eq_1) (And.intro (tev_eq @Ux8.eq_1) (tev_eq @Ow3.eq_1))))) := (And.intro (tev_eq @Wk3.eq_1) (And.intro (tev_eq @Vw9.eq_1) (And.intro (tev_eq @Vj7.eq_1) (And.intro (tev_eq @Ux8.eq_1) (tev_eq @Ow3.eq_1)))))
def Wk2 : T := (.yld 1 [.bin .add (.bin .add (.v 1) (.proj 0 (.idx 1 (.v 0) (.v 2)))) (.c (.s [46])), .bin .add (.v 2) (.c (.i .i64 1))])
def Xj0 : T := (.ite (.bin .lss (.v 2) (.len (.v 0))) Wk2 (.yld 0 [.v 1]))
def Sw2 : T := .loop 1 [.c (.s []), .c (.i .i64 0)] Xj0
def Vw8 : T := (.blk 0 Sw2 (.ret [.v 1]))
def Ow2 : T := (.ite (.bin .eql (.len (.v 0)) (.c (.i .i64 0))) (.ret [.c (.s [46])]) Vw8)
theorem Xw2 : type_of% (And.intro (tev_eq @Wk2.eq_1) (And.intro (tev_eq @Xj0.eq_1) (And.intro (tev_eq @Vw8.eq_1) (tev_eq @Ow2.eq_1)))) := (And.intro (tev_eq @Wk2.eq_1) (And.intro (tev_eq @Xj0.eq_1) (And.intro (tev_eq @Vw8.eq_1) (tev_eq @Ow2.eq_1))))
def Wk1 : T := (.yld 1 [.v 1, .bin .add (.v 2) (.c (.i .i64 1))])
def Vw7 : T := (.yld 2 [.app 16 (.v 5) (.lit 16 [.agg [.v 6, .c (.i .i64 0), .c (.i .i64 0), .c (.b false), .c (.i .u64 0), .c (.i .u64 0), .c (.s []), .c (.s []), .c (.s []), .c (.i .i64 0), .c (.i .i64 0), .c (.i .i64 0), .c (.i .i64 0), .c (.i .i64 0), .c (.i .i64 0), .c (.i .u64 0)]])])
def Vj6 : T := (.yld 3 [.app 16 (.v 5) (.lit 16 [.agg [.v 6, .c (.i .i64 0), .c (.i .i64 0), .c (.b false), .c (.i .u64 0), .c (.i .u64 0), .c (.s []), .c (.s []), .c (.s []), .c (.i .i64 0), .c (.i .i64 0), .c (.i .i64 0), .c (.i .i64 0), .c (.i .i64 0), .c (.i .i64 0), .c (.i .u64 0)]]), .v 9, .bin .add (.v 7) (.c (.i .i64 1))])
def Ux7 : T := (.ite (.un .not (.v 10)) Vw7 Vj6)
def Uv1 : T := (.w (.chk (.scal (.v 6))) (.w (.chk (.app 16 (.v 5) (.lit 16 [.agg [.v 6, .c (.i .i64 0), .c (.i .i64 0), .c (.b false), .c (.i .u64 0), .c (.i .u64 0), .c (.s []), .c (.s []), .c (.s []), .c (.i .i64 0), .c (.i .i64 0), .c (.i .i64 0), .c (.i .i64 0), .c (.i .i64 0), .c (.i .i64 0), .c (.i .u64 0)]]))) (.w (.call none true Py1 [.v 6] 2) Ux7)))
def Uj4 : T := (.ite (.ite (.bin .leq (.v 7) (.c (.i .i64 255))) (.v 8) (.c (.b false))) Uv1 (.yld 2 [.v 5]))
def Jq6 : T := (.w (.call (some (.bin .leq (.v 7) (.c (.i .i64 255)))) true Dk8 [.v 6, .proj 0 (.v 0)] 1) Uj4)
def Sv5 : T := .loop 3 [.v 1, .proj 0 (.idx 16 (.proj 1 (.v 0)) (.v 2)), .c (.i .i64 0)] Jq6
def Ty0 : T := (.yld 1 [.v 5, .bin .add (.v 2) (.c (.i .i64 1))])
def Tw0 : T := (.blk 2 Sv5 Ty0)
def Tq4 : T := (.ite (.ite (.v 4) (.bin .neq (.v 3) (.proj 0 (.idx 16 (.proj 1 (.v 0)) (.v 2)))) (.c (.b false))) Wk1 Tw0)
def Tj8 : T := (.w (.call none true Py9 [.sub 0 2 (.v 0), .proj 0 (.idx 16 (.proj 1 (.v 0)) (.v 2))] 2) Tq4)
def Wz9 : T := (.ite (.bin .lss (.v 2) (.len (.proj 1 (.v 0)))) Tj8 (.yld 0 [.v 1]))
def Zq8 : T := .loop 1 [.c (.l 16 []), .c (.i .i64 0)] Wz9
def Mw6 : T := (.w (.call none false Iz3 [.v 1] 1) (.ret [.v 2]))
def Ow1 : T := (.w (.chk (.fit 2 (.v 0))) (.blk 0 Zq8 Mw6))
theorem Dv5 : type_of% (And.intro (tev_eq @Wk1.eq_1) (And.intro (tev_eq @Vw7.eq_1) (And.intro (tev_eq @Vj6.eq_1) (And.intro (tev_eq @Ux7.eq_1) (And.intro (tev_eq @Uv1.eq_1) (And.intro (tev_eq @Uj4.eq_1) (And.intro (tev_eq @Jq6.eq_1) (And.intro (tev_eq @Ty0.eq_1) (And.intro (tev_eq @Tw0.eq_1) (And.intro (tev_eq @Tq4.eq_1) (And.intro (tev_eq @Tj8.eq_1) (And.intro (tev_eq @Wz9.eq_1) (And.intro (tev_eq @Mw6.eq_1) (tev_eq @Ow1.eq_1)))))))))))))) := (And.intro (tev_eq @Wk1.eq_1) (And.intro (tev_eq @Vw7.eq_1) (And.intro (tev_eq @Vj6.eq_1) (And.intro (tev_eq @Ux7.eq_1) (And.intro (tev_eq @Uv1.eq_1) (And.intro (tev_eq @Uj4.eq_1) (And.intro (tev_eq @Jq6.eq_1) (And.intro (tev_eq @Ty0.eq_1) (And.intro (tev_eq @Tw0.eq_1) (And.intro (tev_eq @Tq4.eq_1) (And.intro (tev_eq @Tj8.eq_1) (And.intro (tev_eq @Wz9.eq_1) (And.intro (tev_eq @Mw6.eq_1) (tev_eq @Ow1.eq_1))))))))))))))
def Wk0 : T := (.yld 1 [.bin .add (.v 2) (.c (.i .i64 1))])
def Vw6 : T := (.ite (.bin .eql (.v 1) (.proj 0 (.idx 1 (.v 0) (.v 2)))) (.ret [.v 2]) Wk0)
def Wz8 : T := (.ite (.bin .lss (.v 2) (.len (.v 0))) Vw6 (.yld 0 []))
def Zq7 : T := .loop 1 [.c (.i .i64 0)] Wz8
def Ow0 : T := (.w (.chk (.len (.v 0))) (.blk 0 Zq7 (.ret [.c (.i .i64 (-1))])))
theorem Qq2 : type_of% (And.intro (tev_eq @Wk0.eq_1) (And.intro (tev_eq @Vw6.eq_1) (And.intro (tev_eq @Wz8.eq_1) (tev_eq @Ow0.eq_1)))) := (And.intro (tev_eq @Wk0.eq_1) (And.intro (tev_eq @Vw6.eq_1) (And.intro (tev_eq @Wz8.eq_1) (tev_eq @Ow0.eq_1))))
def Ov9 : T := (.w (.call none true Fk0 [.v 0, .v 1] 1) (.ret [.v 2]))
theorem x_u90 : type_of% (tev_eq @Ov9.eq_1) := (tev_eq @Ov9.eq_1)
def Ov8 : T := (.w (.call none false Iz2 [.v 0, .v 1, .c (.i .i64 0), .c (.i .i64 (-1))] 1) (.ret [.v 2]))
theorem x_u91 : type_of% (tev_eq @Ov8.eq_1) := (tev_eq @Ov8.eq_1)
def Wj9 : T := (.yld 1 [.bin .add (.v 1) (.c (.i .i64 1))])
def Vw5 : T := (.w (.chk (.ite (.ite (.ite (.bin .lss (.sidx (.v 0) (.v 1)) (.c (.i .u8 97))) (.c (.b true)) (.bin .gtr (.sidx (.v 0) (.v 1)) (.c (.i .u8 122)))) (.un .not (.bin .lss (.sidx (.v 0) (.v 1)) (.c (.i .u8 48)))) (.c (.b false))) (.bin .gtr (.sidx (.v 0) (.v 1)) (.c (.i .u8 57))) (.c .u))) (.ite (.ite (.ite (.ite (.ite (.bin .lss (.sidx (.v 0) (.v 1)) (.c (.i .u8 97))) (.c (.b true)) (.bin .gtr (.sidx (.v 0) (.v 1)) (.c (.i .u8 122)))) (.ite (.bin .lss (.sidx (.v 0) (.v 1)) (.c (.i .u8 48))) (.c (.b true)) (.bin .gtr (.sidx (.v 0) (.v 1)) (.c (.i .u8 57)))) (.c (.b false))) (.bin .neq (.sidx (.v 0) (.v 1)) (.c (.i .u8 45))) (.c (.b false))) (.bin .neq (.sidx (.v 0) (.v 1)) (.c (.i .u8 95))) (.c (.b false))) (.ret [.c (.b false)]) Wj9))
def Ok6 : T := (.ite (.bin .lss (.v 1) (.slen (.v 0))) Vw5 (.yld 0 []))
def Zq6 : T := .loop 1 [.c (.i .i64 0)] Ok6
def Vj5 : T := (.w (.chk (.slen (.v 0))) (.blk 0 Zq6 (.ret [.c (.b true)])))
def Ov7 : T := (.ite (.ite (.bin .eql (.v 0) (.c (.s []))) (.c (.b true)) (.bin .gtr (.slen (.v 0)) (.c (.i .i64 63)))) (.ret [.c (.b false)]) Vj5)
theorem Qq1 : type_of% (And.intro (tev_eq @Wj9.eq_1) (And.intro (tev_eq @Vw5.eq_1) (And.intro (tev_eq @Ok6.eq_1) (And.intro (tev_eq @Vj5.eq_1) (tev_eq @Ov7.eq_1))))) := (And.intro (tev_eq @Wj9.eq_1) (And.intro (tev_eq @Vw5.eq_1) (And.intro (tev_eq @Ok6.eq_1) (And.intro (tev_eq @Vj5.eq_1) (tev_eq @Ov7.eq_1)))))
def Wj8 : T := (.yld 1 [.bin .add (.v 2) (.c (.i .i64 1))])
def Vw4 : T := (.ite (.v 3) (.ret [.v 2]) Wj8)
def Vj4 : T := (.w (.clo none true (.v 1) [.sub 0 16 (.idx 16 (.v 0) (.v 2))] 1) Vw4)
def Wz7 : T := (.ite (.bin .lss (.v 2) (.len (.v 0))) Vj4 (.yld 0 []))
def Zq5 : T := .loop 1 [.c (.i .i64 0)] Wz7
def Ov6 : T := (.w (.chk (.len (.v 0))) (.blk 0 Zq5 (.ret [.c (.i .i64 (-1))])))
theorem Qq0 : type_of% (And.intro (tev_eq @Wj8.eq_1) (And.intro (tev_eq @Vw4.eq_1) (And.intro (tev_eq @Vj4.eq_1) (And.intro (tev_eq @Wz7.eq_1) (tev_eq @Ov6.eq_1))))) := (And.intro (tev_eq @Wj8.eq_1) (And.intro (tev_eq @Vw4.eq_1) (And.intro (tev_eq @Vj4.eq_1) (And.intro (tev_eq @Wz7.eq_1) (tev_eq @Ov6.eq_1)))))
def Ov5 : T := (.w (.chk (.len (.v 0))) (.w (.chk (.lit 16 [])) (.ret [.app 16 (.c (.l 16 [])) (.v 0)])))
theorem x_u98 : type_of% (tev_eq @Ov5.eq_1) := (tev_eq @Ov5.eq_1)
def Nj9 : T := (.ret [.bin .neq (.v 1) (.c (.s []))])
def Ez0 : T := (.w (.call none true Iz1 [.v 0] 1) Nj9)
theorem x_u107 : type_of% (And.intro (tev_eq @Nj9.eq_1) (tev_eq @Ez0.eq_1)) := (And.intro (tev_eq @Nj9.eq_1) (tev_eq @Ez0.eq_1))
def Nj8 : T := (.ret [.ite (.v 4) (.un .not (.proj 0 (.v 1))) (.c (.b false))])
def Lz9 : T := (.w (.call none true Fj9 [.sub 0 3 (.v 1)] 1) Nj8)
def Lw3 : T := (.ret [.ite (.ite (.ite (.ite (.ite (.ite (.v 4) (.v 5) (.c (.b false))) (.v 6) (.c (.b false))) (.v 7) (.c (.b false))) (.v 8) (.c (.b false))) (.v 9) (.c (.b false))) (.v 10) (.c (.b false))])
def Lk9 : T := (.w (.chk (.ite (.ite (.ite (.ite (.ite (.ite (.v 4) (.v 5) (.c (.b false))) (.v 6) (.c (.b false))) (.v 7) (.c (.b false))) (.v 8) (.c (.b false))) (.v 9) (.c (.b false))) (.c .u) (.c .u))) (.w (.call (some (.ite (.ite (.ite (.ite (.ite (.v 4) (.v 5) (.c (.b false))) (.v 6) (.c (.b false))) (.v 7) (.c (.b false))) (.v 8) (.c (.b false))) (.v 9) (.c (.b false)))) true Ax1 [.proj 10 (.v 1), .c (.i .i64 2147483647)] 1) Lw3))
def Lj1 : T := (.w (.chk (.ite (.ite (.ite (.ite (.ite (.v 4) (.v 5) (.c (.b false))) (.v 6) (.c (.b false))) (.v 7) (.c (.b false))) (.v 8) (.c (.b false))) (.c .u) (.c .u))) (.w (.call (some (.ite (.ite (.ite (.ite (.v 4) (.v 5) (.c (.b false))) (.v 6) (.c (.b false))) (.v 7) (.c (.b false))) (.v 8) (.c (.b false)))) true Ax1 [.proj 9 (.v 1), .c (.i .i64 2147483647)] 1) Lk9))
def Ky5 : T := (.w (.chk (.ite (.ite (.ite (.ite (.v 4) (.v 5) (.c (.b false))) (.v 6) (.c (.b false))) (.v 7) (.c (.b false))) (.c .u) (.c .u))) (.w (.call (some (.ite (.ite (.ite (.v 4) (.v 5) (.c (.b false))) (.v 6) (.c (.b false))) (.v 7) (.c (.b false)))) true Ax1 [.proj 8 (.v 1), .c (.i .i64 2147483647)] 1) Lj1))
def Kx0 : T := (.w (.chk (.ite (.ite (.ite (.v 4) (.v 5) (.c (.b false))) (.v 6) (.c (.b false))) (.c .u) (.c .u))) (.w (.call (some (.ite (.ite (.v 4) (.v 5) (.c (.b false))) (.v 6) (.c (.b false)))) true Ax1 [.proj 7 (.v 1), .c (.i .i64 2147483647)] 1) Ky5))
def Kv9 : T := (.w (.chk (.ite (.ite (.v 4) (.v 5) (.c (.b false))) (.c .u) (.c .u))) (.w (.call (some (.ite (.v 4) (.v 5) (.c (.b false)))) true Iy9 [.proj 6 (.v 1)] 1) Kx0))
def Kv0 : T := (.w (.chk (.ite (.v 4) (.c .u) (.c .u))) (.w (.call (some (.v 4)) true Ck8 [.proj 4 (.v 1)] 1) Kv9))
def Kq3 : T := (.w (.call none true Ck8 [.proj 3 (.v 1)] 1) Kv0)
def Hz1 : T := (.ret [.ite (.v 4) (.v 5) (.c (.b false))])
def Hy5 : T := (.w (.chk (.ite (.v 4) (.c .u) (.c .u))) (.w (.call (some (.v 4)) true Ax1 [.proj 6 (.v 1), .c (.i .i64 65535)] 1) Hz1))
def Hx9 : T := (.w (.call none true Ck8 [.proj 3 (.v 1)] 1) Hy5)
def Hx3 : T := (.ret [.bin .leq (.slen (.proj 5 (.v 1))) (.c (.i .i64 255))])
def Hw9 : T := (.ret [.ite (.ite (.ite (.v 4) (.v 5) (.c (.b false))) (.v 6) (.c (.b false))) (.v 7) (.c (.b false))])
def Hw4 : T := (.w (.chk (.ite (.ite (.ite (.v 4) (.v 5) (.c (.b false))) (.v 6) (.c (.b false))) (.c .u) (.c .u))) (.w (.call (some (.ite (.ite (.v 4) (.v 5) (.c (.b false))) (.v 6) (.c (.b false)))) true Ax1 [.proj 8 (.v 1), .c (.i .i64 65535)] 1) Hw9))
def Hw0 : T := (.w (.chk (.ite (.ite (.v 4) (.v 5) (.c (.b false))) (.c .u) (.c .u))) (.w (.call (some (.ite (.v 4) (.v 5) (.c (.b false)))) true Ax1 [.proj 7 (.v 1), .c (.i .i64 65535)] 1) Hw4))
def Hv6 : T := (.w (.chk (.ite (.v 4) (.c .u) (.c .u))) (.w (.call (some (.v 4)) true Ax1 [.proj 6 (.v 1), .c (.i .i64 65535)] 1) Hw0))
def Hv2 : T := (.w (.call none true Ck8 [.proj 3 (.v 1)] 1) Hv6)
def Hq8 : T := (.ret [.ite (.ite (.ite (.v 4) (.v 5) (.c (.b false))) (.v 6) (.c (.b false))) (.v 7) (.c (.b false))])
def Hq4 : T := (.w (.chk (.ite (.ite (.ite (.v 4) (.v 5) (.c (.b false))) (.v 6) (.c (.b false))) (.c .u) (.c .u))) (.w (.call (some (.ite (.ite (.v 4) (.v 5) (.c (.b false))) (.v 6) (.c (.b false)))) true Dy7 [.proj 5 (.v 1)] 1) Hq8))
def Hq0 : T := (.w (.chk (.ite (.ite (.v 4) (.v 5) (.c (.b false))) (.c .u) (.c .u))) (.w (.call (some (.ite (.v 4) (.v 5) (.c (.b false)))) true Ax1 [.proj 8 (.v 1), .c (.i .i64 255)] 1) Hq4))
def Hk5 : T := (.w (.chk (.ite (.v 4) (.c .u) (.c .u))) (.w (.call (some (.v 4)) true Ax1 [.proj 7 (.v 1), .c (.i .i64 255)] 1) Hq0))
def Hk1 : T := (.w (.call none true Ax1 [.proj 6 (.v 1), .c (.i .i64 65535)] 1) Hk5)
def Hj6 : T := (.ret [.ite (.ite (.ite (.ite (.ite (.ite (.ite (.ite (.v 4) (.bin .neq (.proj 6 (.v 1)) (.c (.i .i64 46))) (.c (.b false))) (.v 5) (.c (.b false))) (.v 6) (.c (.b false))) (.v 7) (.c (.b false))) (.v 8) (.c (.b false))) (.v 9) (.c (.b false))) (.v 10) (.c (.b false))) (.v 11) (.c (.b false))])
def Hj2 : T := (.w (.chk (.ite (.ite (.ite (.ite (.ite (.ite (.ite (.ite (.v 4) (.bin .neq (.proj 6 (.v 1)) (.c (.i .i64 46))) (.c (.b false))) (.v 5) (.c (.b false))) (.v 6) (.c (.b false))) (.v 7) (.c (.b false))) (.v 8) (.c (.b false))) (.v 9) (.c (.b false))) (.v 10) (.c (.b false))) (.c .u) (.c .u))) (.w (.call (some (.ite (.ite (.ite (.ite (.ite (.ite (.ite (.v 4) (.bin .neq (.proj 6 (.v 1)) (.c (.i .i64 46))) (.c (.b false))) (.v 5) (.c (.b false))) (.v 6) (.c (.b false))) (.v 7) (.c (.b false))) (.v 8) (.c (.b false))) (.v 9) (.c (.b false))) (.v 10) (.c (.b false)))) true Dy7 [.proj 5 (.v 1)] 1) Hj6))
def Gz8 : T := (.w (.chk (.ite (.ite (.ite (.ite (.ite (.ite (.ite (.v 4) (.bin .neq (.proj 6 (.v 1)) (.c (.i .i64 46))) (.c (.b false))) (.v 5) (.c (.b false))) (.v 6) (.c (.b false))) (.v 7) (.c (.b false))) (.v 8) (.c (.b false))) (.v 9) (.c (.b false))) (.c .u) (.c .u))) (.w (.call (some (.ite (.ite (.ite (.ite (.ite (.ite (.v 4) (.bin .neq (.proj 6 (.v 1)) (.c (.i .i64 46))) (.c (.b false))) (.v 5) (.c (.b false))) (.v 6) (.c (.b false))) (.v 7) (.c (.b false))) (.v 8) (.c (.b false))) (.v 9) (.c (.b false)))) true Ck8 [.proj 3 (.v 1)] 1) Hj2))
def Gz5 : T := (.w (.chk (.ite (.ite (.ite (.ite (.ite (.ite (.v 4) (.bin .neq (.proj 6 (.v 1)) (.c (.i .i64 46))) (.c (.b false))) (.v 5) (.c (.b false))) (.v 6) (.c (.b false))) (.v 7) (.c (.b false))) (.v 8) (.c (.b false))) (.c .u) (.c .u))) (.w (.call (some (.ite (.ite (.ite (.ite (.ite (.v 4) (.bin .neq (.proj 6 (.v 1)) (.c (.i .i64 46))) (.c (.b false))) (.v 5) (.c (.b false))) (.v 6) (.c (.b false))) (.v 7) (.c (.b false))) (.v 8) (.c (.b false)))) true Ax1 [.proj 11 (.v 1), .c (.i .i64 65535)] 1) Gz8))
def Gz2 : T := (.w (.chk (.ite (.ite (.ite (.ite (.ite (.v 4) (.bin .neq (.proj 6 (.v 1)) (.c (.i .i64 46))) (.c (.b false))) (.v 5) (.c (.b false))) (.v 6) (.c (.b false))) (.v 7) (.c (.b false))) (.c .u) (.c .u))) (.w (.call (some (.ite (.ite (.ite (.ite (.v 4) (.bin .neq (.proj 6 (.v 1)) (.c (.i .i64 46))) (.c (.b false))) (.v 5) (.c (.b false))) (.v 6) (.c (.b false))) (.v 7) (.c (.b false)))) true Ax1 [.proj 10 (.v 1), .c (.i .i64 4294967295)] 1) Gz5))
def Gy9 : T := (.w (.chk (.ite (.ite (.ite (.ite (.v 4) (.bin .neq (.proj 6 (.v 1)) (.c (.i .i64 46))) (.c (.b false))) (.v 5) (.c (.b false))) (.v 6) (.c (.b false))) (.c .u) (.c .u))) (.w (.call (some (.ite (.ite (.ite (.v 4) (.bin .neq (.proj 6 (.v 1)) (.c (.i .i64 46))) (.c (.b false))) (.v 5) (.c (.b false))) (.v 6) (.c (.b false)))) true Ax1 [.proj 9 (.v 1), .c (.i .i64 4294967295)] 1) Gz2))
def Gy6 : T := (.w (.chk (.ite (.ite (.ite (.v 4) (.bin .neq (.proj 6 (.v 1)) (.c (.i .i64 46))) (.c (.b false))) (.v 5) (.c (.b false))) (.c .u) (.c .u))) (.w (.call (some (.ite (.ite (.v 4) (.bin .neq (.proj 6 (.v 1)) (.c (.i .i64 46))) (.c (.b false))) (.v 5) (.c (.b false)))) true Ax1 [.proj 8 (.v 1), .c (.i .i64 2147483647)] 1) Gy9))
def Gy3 : T := (.w (.call (some (.ite (.v 4) (.bin .neq (.proj 6 (.v 1)) (.c (.i .i64 46))) (.c (.b false)))) true Ax1 [.proj 7 (.v 1), .c (.i .i64 127)] 1) Gy6)
def Gy0 : T := (.w (.call none true Cw8 [.proj 6 (.v 1)] 1) Gy3)
def Gx7 : T := (.ret [.ite (.ite (.v 4) (.bin .neq (.proj 12 (.v 1)) (.c (.i .u64 0))) (.c (.b false))) (.v 5) (.c (.b false))])
def Gx4 : T := (.w (.call (some (.ite (.v 4) (.bin .neq (.proj 12 (.v 1)) (.c (.i .u64 0))) (.c (.b false)))) true Iy8 [.proj 12 (.v 1)] 1) Gx7)
def Gx1 : T := (.w (.call none true Eq0 [.proj 3 (.v 1)] 1) Gx4)
def Gw8 : T := (.ret [.ite (.ite (.ite (.ite (.bin .eql (.proj 6 (.v 1)) (.c (.i .i64 256))) (.c (.b true)) (.bin .eql (.proj 6 (.v 1)) (.c (.i .i64 257)))) (.bin .eql (.proj 7 (.v 1)) (.c (.i .i64 3))) (.c (.b false))) (.v 4) (.c (.b false))) (.v 5) (.c (.b false))])
def Gw5 : T := (.w (.chk (.ite (.ite (.ite (.ite (.bin .eql (.proj 6 (.v 1)) (.c (.i .i64 256))) (.c (.b true)) (.bin .eql (.proj 6 (.v 1)) (.c (.i .i64 257)))) (.bin .eql (.proj 7 (.v 1)) (.c (.i .i64 3))) (.c (.b false))) (.v 4) (.c (.b false))) (.c .u) (.c .u))) (.w (.call (some (.ite (.ite (.ite (.bin .eql (.proj 6 (.v 1)) (.c (.i .i64 256))) (.c (.b true)) (.bin .eql (.proj 6 (.v 1)) (.c (.i .i64 257)))) (.bin .eql (.proj 7 (.v 1)) (.c (.i .i64 3))) (.c (.b false))) (.v 4) (.c (.b false)))) true Dy7 [.proj 5 (.v 1)] 1) Gw8))
def Gw2 : T := (.w (.call (some (.ite (.ite (.bin .eql (.proj 6 (.v 1)) (.c (.i .i64 256))) (.c (.b true)) (.bin .eql (.proj 6 (.v 1)) (.c (.i .i64 257)))) (.bin .eql (.proj 7 (.v 1)) (.c (.i .i64 3))) (.c (.b false)))) true Ax1 [.proj 8 (.v 1), .c (.i .i64 255)] 1) Gw5)
def Gv9 : T := (.w (.call none true Ck8 [.proj 3 (.v 1)] 1) (.ret [.v 4]))
def Gv6 : T := (.ite (.bin .eql (.v 0) (.c (.i .i64 48))) Gw2 Gv9)
def Gv3 : T := (.ite (.bin .eql (.v 0) (.c (.i .i64 47))) Gx1 Gv6)
def Gv0 : T := (.ite (.bin .eql (.v 0) (.c (.i .i64 46))) Gy0 Gv3)
def Gq8 : T := (.ite (.bin .eql (.v 0) (.c (.i .i64 43))) Hk1 Gv0)
def Gq6 : T := (.ite (.bin .eql (.v 0) (.c (.i .i64 33))) Hv2 Gq8)
def Gq4 : T := (.ite (.bin .eql (.v 0) (.c (.i .i64 16))) Hx3 Gq6)
def Gq2 : T := (.ite (.bin .eql (.v 0) (.c (.i .i64 15))) Hx9 Gq4)
def Gq0 : T := (.ite (.bin .eql (.v 0) (.c (.i .i64 6))) Kq3 Gq2)
def Gk8 : T := (.ite (.bin .eql (.v 0) (.c (.i .i64 28))) (.ret [.proj 0 (.v 1)]) Gq0)
def Gk6 : T := (.ite (.bin .eql (.v 0) (.c (.i .i64 1))) Lz9 Gk8)
def Gk4 : T := (.ite (.ite (.un .not (.v 2)) (.c (.b true)) (.eqs true true [.b, .i .u64, .i .u64, .s, .s, .s, .i .i64, .i .i64, .i .i64, .i .i64, .i .i64, .i .i64, .i .u64] (.v 3) (.sub 0 13 (.v 1)))) (.ret [.c (.b false)]) Gk6)
def Gk2 : T := (.w (.chk (.ite (.un .not (.un .not (.v 2))) (.c .u) (.c .u))) (.w (.call (some (.un .not (.un .not (.v 2)))) true Iz0 [.v 0, .sub 0 13 (.v 1)] 1) Gk4))
def Ey9 : T := (.w (.chk (.fit 13 (.v 1))) (.w (.call none true Cw8 [.v 0] 1) Gk2))
theorem Bj2 : type_of% (And.intro (tev_eq @Nj8.eq_1) (And.intro (tev_eq @Lz9.eq_1) (And.intro (tev_eq @Lw3.eq_1) (And.intro (tev_eq @Lk9.eq_1) (And.intro (tev_eq @Lj1.eq_1) (And.intro (tev_eq @Ky5.eq_1) (And.intro (tev_eq @Kx0.eq_1) (And.intro (tev_eq @Kv9.eq_1) (And.intro (tev_eq @Kv0.eq_1) (And.intro (tev_eq @Kq3.eq_1) (And.intro (tev_eq @Hz1.eq_1) (And.intro (tev_eq @Hy5.eq_1) (And.intro (tev_eq @Hx9.eq_1) (And.intro (tev_eq @Hx3.eq_1) (And.intro (tev_eq @Hw9.eq_1) (And.intro (tev_eq @Hw4.eq_1) (And.intro (tev_eq @Hw0.eq_1) (And.intro (tev_eq @Hv6.eq_1) (And.intro (tev_eq @Hv2.eq_1) (And.intro (tev_eq @Hq8.eq_1) (And.intro (tev_eq @Hq4.eq_1) (And.intro (tev_eq @Hq0.eq_1) (And.intro (tev_eq @Hk5.eq_1) (And.intro (tev_eq @Hk1.eq_1) (And.intro (tev_eq @Hj6.eq_1) (And.intro (tev_eq @Hj2.eq_1) (And.intro (tev_eq @Gz8.eq_1) (And.intro (tev_eq @Gz5.eq_1) (And.intro (tev_eq @Gz2.eq_1) (And.intro (tev_eq @Gy9.eq_1) (And.intro (tev_eq @Gy6.eq_1) (And.intro (tev_eq @Gy3.eq_1) (And.intro (tev_eq @Gy0.eq_1) (And.intro (tev_eq @Gx7.eq_1) (And.intro (tev_eq @Gx4.eq_1) (And.intro (tev_eq @Gx1.eq_1) (And.intro (tev_eq @Gw8.eq_1) (And.intro (tev_eq @Gw5.eq_1) (And.intro (tev_eq @Gw2.eq_1) (And.intro (tev_eq @Gv9.eq_1) (And.intro (tev_eq @Gv6.eq_1) (And.intro (tev_eq @Gv3.eq_1) (And.intro (tev_eq @Gv0.eq_1) (And.intro (tev_eq @Gq8.eq_1) (And.intro (tev_eq @Gq6.eq_1) (And.intro (tev_eq @Gq4.eq_1) (And.intro (tev_eq @Gq2.eq_1) (And.intro (tev_eq @Gq0.eq_1) (And.intro (tev_eq @Gk8.eq_1) (And.intro (tev_eq @Gk6.eq_1) (And.intro (tev_eq @Gk4.eq_1) (And.intro (tev_eq @Gk2.eq_1) (tev_eq @Ey9.eq_1))))))))))))))))))))))))))))))))))))))))))))))))))))) := (And.intro (tev_eq @Nj8.eq_1) (And.intro (tev_eq @Lz9.eq_1) (And.intro (tev_eq @Lw3.eq_1) (And.intro (tev_eq @Lk9.eq_1) (And.intro (tev_eq @Lj1.eq_1) (And.intro (tev_eq @Ky5.eq_1) (And.intro (tev_eq @Kx0.eq_1) (And.intro (tev_eq @Kv9.eq_1) (And.intro (tev_eq @Kv0.eq_1) (And.intro (tev_eq @Kq3.eq_1) (And.intro (tev_eq @Hz1.eq_1) (And.intro (tev_eq @Hy5.eq_1) (And.intro (tev_eq @Hx9.eq_1) (And.intro (tev_eq @Hx3.eq_1) (And.intro (tev_eq @Hw9.eq_1) (And.intro (tev_eq @Hw4.eq_1) (And.intro (tev_eq @Hw0.eq_1) (And.intro (tev_eq @Hv6.eq_1) (And.intro (tev_eq @Hv2.eq_1) (And.intro (tev_eq @Hq8.eq_1) (And.intro (tev_eq @Hq4.eq_1) (And.intro (tev_eq @Hq0.eq_1) (And.intro (tev_eq @Hk5.eq_1) (And.intro (tev_eq @Hk1.eq_1) (And.intro (tev_eq @Hj6.eq_1) (And.intro (tev_eq @Hj2.eq_1) (And.intro (tev_eq @Gz8.eq_1) (And.intro (tev_eq @Gz5.eq_1) (And.intro (tev_eq @Gz2.eq_1) (And.intro (tev_eq @Gy9.eq_1) (And.intro (tev_eq @Gy6.eq_1) (And.intro (tev_eq @Gy3.eq_1) (And.intro (tev_eq @Gy0.eq_1) (And.intro (tev_eq @Gx7.eq_1) (And.intro (tev_eq @Gx4.eq_1) (And.intro (tev_eq @Gx1.eq_1) (And.intro (tev_eq @Gw8.eq_1) (And.intro (tev_eq @Gw5.eq_1) (And.intro (tev_eq @Gw2.eq_1) (And.intro (tev_eq @Gv9.eq_1) (And.intro (tev_eq @Gv6.eq_1) (And.intro (tev_eq @Gv3.eq_1) (And.intro (tev_eq @Gv0.eq_1) (And.intro (tev_eq @Gq8.eq_1) (And.intro (tev_eq @Gq6.eq_1) (And.intro (tev_eq @Gq4.eq_1) (And.intro (tev_eq @Gq2.eq_1) (And.intro (tev_eq @Gq0.eq_1) (And.intro (tev_eq @Gk8.eq_1) (And.intro (tev_eq @Gk6.eq_1) (And.intro (tev_eq @Gk4.eq_1) (And.intro (tev_eq @Gk2.eq_1) (tev_eq @Ey9.eq_1)))))))))))))))))))))))))))))))))))))))))))))))))))))
def Nj7 : T := (.w (.call none true Iy6 [.proj 1 (.v 0), .agg [.proj 3 (.v 0), .proj 4 (.v 0), .proj 5 (.v 0), .proj 6 (.v 0), .proj 7 (.v 0), .proj 8 (.v 0), .proj 9 (.v 0), .proj 10 (.v 0), .proj 11 (.v 0), .proj 12 (.v 0), .proj 13 (.v 0), .proj 14 (.v 0), .proj 15 (.v 0)], .agg [.proj 3 (.v 1), .proj 4 (.v 1), .proj 5 (.v 1), .proj 6 (.v 1), .proj 7 (.v 1), .proj 8 (.v 1), .proj 9 (.v 1), .proj 10 (.v 1), .proj 11 (.v 1), .proj 12 (.v 1), .proj 13 (.v 1), .proj 14 (.v 1), .proj 15 (.v 1)]] 1) (.ret [.v 4]))
def Lz8 : T := (.ite (.bin .neq (.v 3) (.c (.i .i64 0))) (.ret [.v 3]) Nj7)
def Lw2 : T := (.w (.call none true Iy7 [.proj 1 (.v 0), .proj 1 (.v 1)] 1) Lz8)
def Lk8 : T := (.ite (.bin .neq (.v 2) (.c (.i .i64 0))) (.ret [.v 2]) Lw2)
def Ey8 : T := (.w (.chk (.fit 16 (.v 0))) (.w (.chk (.fit 16 (.v 1))) (.w (.call none true Fj8 [.proj 0 (.v 0), .proj 0 (.v 1)] 1) Lk8)))
theorem x_u109 : type_of% (And.intro (tev_eq @Nj7.eq_1) (And.intro (tev_eq @Lz8.eq_1) (And.intro (tev_eq @Lw2.eq_1) (And.intro (tev_eq @Lk8.eq_1) (tev_eq @Ey8.eq_1))))) := (And.intro (tev_eq @Nj7.eq_1) (And.intro (tev_eq @Lz8.eq_1) (And.intro (tev_eq @Lw2.eq_1) (And.intro (tev_eq @Lk8.eq_1) (tev_eq @Ey8.eq_1)))))
def Ey7 : T := (.ret [.ite (.ite (.bin .eql (.v 0) (.c (.i .i64 6))) (.c (.b true)) (.bin .eql (.v 0) (.c (.i .i64 5)))) (.c (.b true)) (.bin .eql (.v 0) (.c (.i .i64 39)))])
theorem x_u110 : type_of% (tev_eq @Ey7.eq_1) := (tev_eq @Ey7.eq_1)
def Ey6 : T := (.w (.call none true Fj7 [.v 0, .v 1] 1) (.ret [.v 2]))
theorem x_u111 : type_of% (tev_eq @Ey6.eq_1) := (tev_eq @Ey6.eq_1)
def Ey5 : T := (.w (.call none true Iy5 [.v 0, .v 1] 1) (.ret [.v 2]))
theorem x_u112 : type_of% (tev_eq @Ey5.eq_1) := (tev_eq @Ey5.eq_1)
def Nj6 : T := (.w (.chk (.scal (.proj 0 (.sub 0 16 (.idx 16 (.proj 1 (.v 0)) (.v 2)))))) (.yld 1 [.app 1 (.v 1) (.lit 1 [.proj 0 (.sub 0 16 (.idx 16 (.proj 1 (.v 0)) (.v 2)))]), .bin .add (.v 2) (.c (.i .i64 1))]))
def Lz7 : T := (.yld 1 [.v 1, .bin .add (.v 2) (.c (.i .i64 1))])
def Lw1 : T := (.ite (.ite (.ite (.bin .eql (.proj 1 (.sub 0 16 (.idx 16 (.proj 1 (.v 0)) (.v 2)))) (.c (.i .i64 2))) (.bin .neq (.proj 0 (.sub 0 16 (.idx 16 (.proj 1 (.v 0)) (.v 2)))) (.proj 0 (.v 0))) (.c (.b false))) (.v 3) (.c (.b false))) Nj6 Lz7)
def Lk7 : T := (.w (.chk (.fit 16 (.sub 0 16 (.idx 16 (.proj 1 (.v 0)) (.v 2))))) (.w (.call (some (.ite (.bin .eql (.proj 1 (.sub 0 16 (.idx 16 (.proj 1 (.v 0)) (.v 2)))) (.c (.i .i64 2))) (.bin .neq (.proj 0 (.sub 0 16 (.idx 16 (.proj 1 (.v 0)) (.v 2)))) (.proj 0 (.v 0))) (.c (.b false)))) true Dk9 [.proj 0 (.sub 0 16 (.idx 16 (.proj 1 (.v 0)) (.v 2))), .proj 0 (.v 0)] 1) Lw1))
def Nq4 : T := (.ite (.bin .lss (.v 2) (.len (.proj 1 (.v 0)))) Lk7 (.yld 0 [.v 1]))
def Sx2 : T := .loop 1 [.c (.l 1 []), .c (.i .i64 0)] Nq4
def Lj0 : T := (.w (.mcall Dy8 [.v 2]) (.ret [.v 3]))
def Ky4 : T := (.w (.mcall Cw7 [.v 1, .c (.f Bx4 [])]) Lj0)
def Ey4 : T := (.w (.chk (.fit 2 (.v 0))) (.w (.chk (.len (.proj 1 (.v 0)))) (.blk 0 Sx2 Ky4)))
theorem Eq3 : type_of% (And.intro (tev_eq @Nj6.eq_1) (And.intro (tev_eq @Lz7.eq_1) (And.intro (tev_eq @Lw1.eq_1) (And.intro (tev_eq @Lk7.eq_1) (And.intro (tev_eq @Nq4.eq_1) (And.intro (tev_eq @Lj0.eq_1) (And.intro (tev_eq @Ky4.eq_1) (tev_eq @Ey4.eq_1)))))))) := (And.intro (tev_eq @Nj6.eq_1) (And.intro (tev_eq @Lz7.eq_1) (And.intro (tev_eq @Lw1.eq_1) (And.intro (tev_eq @Lk7.eq_1) (And.intro (tev_eq @Nq4.eq_1) (And.intro (tev_eq @Lj0.eq_1) (And.intro (tev_eq @Ky4.eq_1) (tev_eq @Ey4.eq_1))))))))
def Nj5 : T := (.w (.chk (.fit 16 (.sub 0 16 (.idx 16 (.v 0) (.v 2))))) (.w (.chk (.scal (.proj 0 (.sub 0 16 (.idx 16 (.v 0) (.v 2)))))) (.yld 1 [.app 1 (.v 1) (.lit 1 [.proj 0 (.sub 0 16 (.idx 16 (.v 0) (.v 2)))]), .bin .add (.v 2) (.c (.i .i64 1))])))
def Nq3 : T := (.ite (.bin .lss (.v 2) (.len (.v 0))) Nj5 (.yld 0 [.v 1]))
def Sx1 : T := .loop 1 [.c (.l 1 []), .c (.i .i64 0)] Nq3
def Lz6 : T := (.w (.mcall Dy8 [.v 2]) (.ret [.v 3]))
def Lw0 : T := (.w (.mcall Cw7 [.v 1, .c (.f Bx4 [])]) Lz6)
def Ey3 : T := (.w (.chk (.len (.v 0))) (.blk 0 Sx1 Lw0))
theorem Qv5 : type_of% (And.intro (tev_eq @Nj5.eq_1) (And.intro (tev_eq @Nq3.eq_1) (And.intro (tev_eq @Lz6.eq_1) (And.intro (tev_eq @Lw0.eq_1) (tev_eq @Ey3.eq_1))))) := (And.intro (tev_eq @Nj5.eq_1) (And.intro (tev_eq @Nq3.eq_1) (And.intro (tev_eq @Lz6.eq_1) (And.intro (tev_eq @Lw0.eq_1) (tev_eq @Ey3.eq_1)))))
def Nj4 : T := (.ret [.ite (.bin .neq (.v 0) (.proj 0 (.v 1))) (.v 2) (.c (.b false))])
def Ey2 : T := (.w (.chk (.ite (.bin .neq (.v 0) (.proj 0 (.v 1))) (.proj 0 (.v 1)) (.c .u))) (.w (.call (some (.bin .neq (.v 0) (.proj 0 (.v 1)))) true Dk9 [.proj 0 (.v 1), .v 0] 1) Nj4))
theorem Zj8 : type_of% (And.intro (tev_eq @Nj4.eq_1) (tev_eq @Ey2.eq_1)) := (And.intro (tev_eq @Nj4.eq_1) (tev_eq @Ey2.eq_1))
def Nj3 : T := (.ret [.bin .geq (.v 2) (.c (.i .i64 0))])
def Ey1 : T := (.w (.call none true Iy4 [.v 0, .v 1] 1) Nj3)
theorem x_u116 : type_of% (And.intro (tev_eq @Nj3.eq_1) (tev_eq @Ey1.eq_1)) := (And.intro (tev_eq @Nj3.eq_1) (tev_eq @Ey1.eq_1))
def Nj2 : T := (.w (.call none true Dy6 [.v 0, .v 1] 1) (.ret [.v 4]))
def Lz5 : T := (.yld 1 [.bin .add (.v 6) (.c (.i .i64 1))])
def Lv9 : T := (.ite (.bin .neq (.v 7) (.c (.i .i64 0))) (.ret [.v 7]) Lz5)
def Lk6 : T := (.w (.call none true Dy6 [.proj 0 (.idx 1 (.v 4) (.bin .sub (.len (.v 4)) (.v 6))), .proj 0 (.idx 1 (.v 5) (.bin .sub (.len (.v 5)) (.v 6)))] 1) Lv9)
def Hz9 : T := (.ite (.ite (.bin .leq (.v 6) (.len (.v 4))) (.bin .leq (.v 6) (.len (.v 5))) (.c (.b false))) Lk6 (.yld 0 []))
def Jz9 : T := .loop 1 [.c (.i .i64 1)] Hz9
def Kz9 : T := (.ite (.bin .gtr (.len (.v 4)) (.len (.v 5))) (.ret [.c (.i .i64 1)]) (.ret [.c (.i .i64 0)]))
def Ky3 : T := (.ite (.bin .lss (.len (.v 4)) (.len (.v 5))) (.ret [.c (.i .i64 (-1))]) Kz9)
def Kw9 : T := (.blk 0 Jz9 Ky3)
def Kv8 : T := (.w (.call none false Fj6 [.v 1] 1) Kw9)
def Kq9 : T := (.w (.call none false Fj6 [.v 0] 1) Kv8)
def Kq2 : T := (.ite (.un .not (.v 2)) Nj2 Kq9)
def Hz0 : T := (.ite (.ite (.v 3) (.un .not (.v 2)) (.c (.b false))) (.ret [.c (.i .i64 1)]) Kq2)
def Hy4 : T := (.ite (.ite (.v 2) (.un .not (.v 3)) (.c (.b false))) (.ret [.c (.i .i64 (-1))]) Hz0)
def Hx8 : T := (.w (.call none true Cq5 [.v 1] 1) Hy4)
def Ey0 : T := (.w (.call none true Cq5 [.v 0] 1) Hx8)
theorem Dv8 : type_of% (And.intro (tev_eq @Nj2.eq_1) (And.intro (tev_eq @Lz5.eq_1) (And.intro (tev_eq @Lv9.eq_1) (And.intro (tev_eq @Lk6.eq_1) (And.intro (tev_eq @Hz9.eq_1) (And.intro (tev_eq @Kz9.eq_1) (And.intro (tev_eq @Ky3.eq_1) (And.intro (tev_eq @Kw9.eq_1) (And.intro (tev_eq @Kv8.eq_1) (And.intro (tev_eq @Kq9.eq_1) (And.intro (tev_eq @Kq2.eq_1) (And.intro (tev_eq @Hz0.eq_1) (And.intro (tev_eq @Hy4.eq_1) (And.intro (tev_eq @Hx8.eq_1) (tev_eq @Ey0.eq_1))))))))))))))) := (And.intro (tev_eq @Nj2.eq_1) (And.intro (tev_eq @Lz5.eq_1) (And.intro (tev_eq @Lv9.eq_1) (And.intro (tev_eq @Lk6.eq_1) (And.intro (tev_eq @Hz9.eq_1) (And.intro (tev_eq @Kz9.eq_1) (And.intro (tev_eq @Ky3.eq_1) (And.intro (tev_eq @Kw9.eq_1) (And.intro (tev_eq @Kv8.eq_1) (And.intro (tev_eq @Kq9.eq_1) (And.intro (tev_eq @Kq2.eq_1) (And.intro (tev_eq @Hz0.eq_1) (And.intro (tev_eq @Hy4.eq_1) (And.intro (tev_eq @Hx8.eq_1) (tev_eq @Ey0.eq_1)))))))))))))))
def Nj1 : T := (.w (.chk (.idx 1 (.lsl 1 (.v 5) (.v 1) (.len (.v 5))) (.v 4))) (.w (.chk (.bin .add (.v 1) (.c (.i .i64 0)))) (.w (.chk (.idx 1 (.v 5) (.v 3))) (.w (.chk (.scal (.proj 0 (.idx 1 (.v 5) (.bin .add (.v 1) (.v 4)))))) (.yld 3 [.bin .add (.v 3) (.c (.i .i64 1)), .bin .add (.v 4) (.c (.i .i64 1)), .set 1 (.v 5) (.v 3) 0 [.proj 0 (.idx 1 (.v 5) (.bin .add (.v 1) (.v 4)))]])))))
def Lz4 : T := (.yld 3 [.v 3, .bin .add (.v 4) (.c (.i .i64 1)), .v 5])
def Lv8 : T := (.w (.chk (.idx 1 (.lsl 1 (.v 5) (.v 1) (.len (.v 5))) (.v 4))) (.w (.chk (.idx 1 (.lsl 1 (.v 5) (.v 1) (.len (.v 5))) (.bin .sub (.v 4) (.c (.i .i64 1))))) (.w (.chk (.bin .add (.v 1) (.c (.i .i64 0)))) (.ite (.bin .neq (.proj 0 (.idx 1 (.v 5) (.bin .add (.v 1) (.v 4)))) (.proj 0 (.idx 1 (.v 5) (.bin .add (.v 1) (.bin .sub (.v 4) (.c (.i .i64 1))))))) Nj1 Lz4))))
def Hz3 : T := (.ite (.bin .lss (.v 4) (.bin .sub (.len (.v 5)) (.v 1))) Lv8 (.yld 2 [.v 3, .v 5]))
def Sw1 : T := .loop 3 [.v 1, .c (.i .i64 1), .v 2] Hz3
def Lk5 : T := (.w (.chk (.lsl 1 (.v 4) (.v 3) (.len (.v 4)))) (.ret [.lsl 1 (.app 1 (.lsl 1 (.v 4) (.c (.i .i64 0)) (.v 3)) (.rep 1 (.bin .sub (.len (.v 4)) (.v 3)) (.c (.s [])))) (.c (.i .i64 0)) (.v 3)]))
def Kz8 : T := (.w (.chk (.lsl 1 (.v 2) (.v 1) (.len (.v 2)))) (.blk 2 Sw1 Lk5))
def Ky2 : T := (.yld 1 [.bin .add (.v 1) (.c (.i .i64 1)), .v 2])
def Kw8 : T := (.ite (.bin .eql (.proj 0 (.idx 1 (.v 2) (.v 1))) (.proj 0 (.idx 1 (.v 2) (.bin .sub (.v 1) (.c (.i .i64 1)))))) Kz8 Ky2)
def Hz8 : T := (.ite (.bin .lss (.v 1) (.len (.v 2))) Kw8 (.yld 0 [.v 2]))
def Sx0 : T := .loop 1 [.c (.i .i64 1), .v 0] Hz8
def Kv7 : T := (.blk 0 Sx0 (.ret [.v 1]))
def Ex9 : T := (.ite (.bin .lss (.len (.v 0)) (.c (.i .i64 2))) (.ret [.v 0]) Kv7)
theorem Cv3 : type_of% (And.intro (tev_eq @Nj1.eq_1) (And.intro (tev_eq @Lz4.eq_1) (And.intro (tev_eq @Lv8.eq_1) (And.intro (tev_eq @Hz3.eq_1) (And.intro (tev_eq @Lk5.eq_1) (And.intro (tev_eq @Kz8.eq_1) (And.intro (tev_eq @Ky2.eq_1) (And.intro (tev_eq @Kw8.eq_1) (And.intro (tev_eq @Hz8.eq_1) (And.intro (tev_eq @Kv7.eq_1) (tev_eq @Ex9.eq_1))))))))))) := (And.intro (tev_eq @Nj1.eq_1) (And.intro (tev_eq @Lz4.eq_1) (And.intro (tev_eq @Lv8.eq_1) (And.intro (tev_eq @Hz3.eq_1) (And.intro (tev_eq @Lk5.eq_1) (And.intro (tev_eq @Kz8.eq_1) (And.intro (tev_eq @Ky2.eq_1) (And.intro (tev_eq @Kw8.eq_1) (And.intro (tev_eq @Hz8.eq_1) (And.intro (tev_eq @Kv7.eq_1) (tev_eq @Ex9.eq_1)))))))))))
def Nj0 : T := (.w (.chk (.idx 16 (.v 5) (.v 3))) (.w (.chk (.fit 16 (.sub 0 16 (.sub 0 16 (.idx 16 (.v 5) (.v 4)))))) (.yld 1 [.bin .add (.v 3) (.c (.i .i64 1)), .bin .add (.v 4) (.c (.i .i64 1)), .set 16 (.v 5) (.v 3) 0 [.proj 0 (.sub 0 16 (.sub 0 16 (.idx 16 (.v 5) (.v 4)))), .proj 1 (.sub 0 16 (.sub 0 16 (.idx 16 (.v 5) (.v 4)))), .proj 2 (.sub 0 16 (.sub 0 16 (.idx 16 (.v 5) (.v 4)))), .proj 3 (.sub 0 16 (.sub 0 16 (.idx 16 (.v 5) (.v 4)))), .proj 4 (.sub 0 16 (.sub 0 16 (.idx 16 (.v 5) (.v 4)))), .proj 5 (.sub 0 16 (.sub 0 16 (.idx 16 (.v 5) (.v 4)))), .proj 6 (.sub 0 16 (.sub 0 16 (.idx 16 (.v 5) (.v 4)))), .proj 7 (.sub 0 16 (.sub 0 16 (.idx 16 (.v 5) (.v 4)))), .proj 8 (.sub 0 16 (.sub 0 16 (.idx 16 (.v 5) (.v 4)))), .proj 9 (.sub 0 16 (.sub 0 16 (.idx 16 (.v 5) (.v 4)))), .proj 10 (.sub 0 16 (.sub 0 16 (.idx 16 (.v 5) (.v 4)))), .proj 11 (.sub 0 16 (.sub 0 16 (.idx 16 (.v 5) (.v 4)))), .proj 12 (.sub 0 16 (.sub 0 16 (.idx 16 (.v 5) (.v 4)))), .proj 13 (.sub 0 16 (.sub 0 16 (.idx 16 (.v 5) (.v 4)))), .proj 14 (.sub 0 16 (.sub 0 16 (.idx 16 (.v 5) (.v 4)))), .proj 15 (.sub 0 16 (.sub 0 16 (.idx 16 (.v 5) (.v 4))))]])))
def Lz3 : T := (.yld 1 [.v 3, .bin .add (.v 4) (.c (.i .i64 1)), .v 5])
def Lv7 : T := (.ite (.un .not (.v 6)) Nj0 Lz3)
def Lk4 : T := (.w (.chk (.fit 16 (.sub 0 16 (.idx 16 (.v 5) (.v 4))))) (.w (.clo none true (.v 1) [.sub 0 16 (.sub 0 16 (.idx 16 (.v 5) (.v 4)))] 1) Lv7))
def Nq2 : T := (.ite (.bin .lss (.v 4) (.len (.v 5))) Lk4 (.yld 0 [.v 3, .v 5]))
def Sw9 : T := .loop 1 [.v 2, .bin .add (.v 2) (.c (.i .i64 1)), .v 0] Nq2
def Kz7 : T := (.w (.chk (.lsl 16 (.v 4) (.v 3) (.len (.v 4)))) (.ret [.lsl 16 (.app 16 (.lsl 16 (.v 4) (.c (.i .i64 0)) (.v 3)) (.rep 16 (.bin .sub (.len (.v 4)) (.v 3)) (.agg [.c (.s []), .c (.i .i64 0), .c (.i .i64 0), .c (.b false), .c (.i .u64 0), .c (.i .u64 0), .c (.s []), .c (.s []), .c (.s []), .c (.i .i64 0), .c (.i .i64 0), .c (.i .i64 0), .c (.i .i64 0), .c (.i .i64 0), .c (.i .i64 0), .c (.i .u64 0)]))) (.c (.i .i64 0)) (.v 3)]))
def Ky1 : T := (.blk 0 Sw9 Kz7)
def Kw7 : T := (.ite (.bin .eql (.v 2) (.c (.i .i64 (-1)))) (.ret [.v 0]) Ky1)
def Ex8 : T := (.w (.call none true Px6 [.v 0, .v 1] 1) Kw7)
theorem Ik9 : type_of% (And.intro (tev_eq @Nj0.eq_1) (And.intro (tev_eq @Lz3.eq_1) (And.intro (tev_eq @Lv7.eq_1) (And.intro (tev_eq @Lk4.eq_1) (And.intro (tev_eq @Nq2.eq_1) (And.intro (tev_eq @Kz7.eq_1) (And.intro (tev_eq @Ky1.eq_1) (And.intro (tev_eq @Kw7.eq_1) (tev_eq @Ex8.eq_1))))))))) := (And.intro (tev_eq @Nj0.eq_1) (And.intro (tev_eq @Lz3.eq_1) (And.intro (tev_eq @Lv7.eq_1) (And.intro (tev_eq @Lk4.eq_1) (And.intro (tev_eq @Nq2.eq_1) (And.intro (tev_eq @Kz7.eq_1) (And.intro (tev_eq @Ky1.eq_1) (And.intro (tev_eq @Kw7.eq_1) (tev_eq @Ex8.eq_1)))))))))
def Ex7 : T := (.w (.chk (.fit 16 (.v 0))) (.ret [.bin .neq (.proj 1 (.v 0)) (.proj 0 (.v 1))]))
theorem x_u121 : type_of% (tev_eq @Ex7.eq_1) := (tev_eq @Ex7.eq_1)
def Mz9 : T := (.yld 1 [.bin .add (.v 1) (.c (.i .i64 1))])
def Lz2 : T := (.w (.chk (.ite (.ite (.un .not (.ite (.bin .geq (.sidx (.v 0) (.v 1)) (.c (.i .u8 97))) (.bin .leq (.sidx (.v 0) (.v 1)) (.c (.i .u8 122))) (.c (.b false)))) (.bin .geq (.sidx (.v 0) (.v 1)) (.c (.i .u8 48))) (.c (.b false))) (.bin .leq (.sidx (.v 0) (.v 1)) (.c (.i .u8 57))) (.c .u))) (.ite (.un .not (.ite (.ite (.ite (.ite (.bin .geq (.sidx (.v 0) (.v 1)) (.c (.i .u8 97))) (.bin .leq (.sidx (.v 0) (.v 1)) (.c (.i .u8 122))) (.c (.b false))) (.c (.b true)) (.ite (.bin .geq (.sidx (.v 0) (.v 1)) (.c (.i .u8 48))) (.bin .leq (.sidx (.v 0) (.v 1)) (.c (.i .u8 57))) (.c (.b false)))) (.c (.b true)) (.bin .eql (.sidx (.v 0) (.v 1)) (.c (.i .u8 45)))) (.c (.b true)) (.bin .eql (.sidx (.v 0) (.v 1)) (.c (.i .u8 95))))) (.ret [.c (.b false)]) Mz9))
def Nq1 : T := (.ite (.bin .lss (.v 1) (.slen (.v 0))) Lz2 (.yld 0 []))
def Sw8 : T := .loop 1 [.c (.i .i64 0)] Nq1
def Lv6 : T := (.blk 0 Sw8 (.ret [.c (.b true)]))
def Lk3 : T := (.ite (.ite (.bin .lss (.slen (.v 0)) (.c (.i .i64 1))) (.c (.b true)) (.bin .gtr (.slen (.v 0)) (.c (.i .i64 63)))) (.ret [.c (.b false)]) Lv6)
def Ex6 : T := (.ite (.bin .eql (.v 0) (.c (.s [42]))) (.ret [.c (.b true)]) Lk3)
theorem Qv4 : type_of% (And.intro (tev_eq @Mz9.eq_1) (And.intro (tev_eq @Lz2.eq_1) (And.intro (tev_eq @Nq1.eq_1) (And.intro (tev_eq @Lv6.eq_1) (And.intro (tev_eq @Lk3.eq_1) (tev_eq @Ex6.eq_1)))))) := (And.intro (tev_eq @Mz9.eq_1) (And.intro (tev_eq @Lz2.eq_1) (And.intro (tev_eq @Nq1.eq_1) (And.intro (tev_eq @Lv6.eq_1) (And.intro (tev_eq @Lk3.eq_1) (tev_eq @Ex6.eq_1))))))
def Mz8 : T := (.yld 3 [.bin .add (.v 3) (.c (.i .i64 1))])
def Lz1 : T := (.ite (.ite (.bin .lss (.v 3) (.len (.v 1))) (.bin .lss (.v 4) (.c (.i .i64 0))) (.c (.b false))) Mz8 (.yld 2 [.v 3]))
def Nk5 : T := (.w (.chk (.ite (.bin .lss (.v 3) (.len (.v 1))) (.proj 0 (.idx 1 (.v 1) (.v 3))) (.c .u))) (.w (.chk (.ite (.bin .lss (.v 3) (.len (.v 1))) (.proj 0 (.idx 16 (.v 0) (.v 2))) (.c .u))) (.w (.call (some (.bin .lss (.v 3) (.len (.v 1)))) true Fj8 [.proj 0 (.idx 1 (.v 1) (.v 3)), .proj 0 (.idx 16 (.v 0) (.v 2))] 1) Lz1)))
def Jz4 : T := .loop 3 [.c (.i .i64 0)] Nk5
def Lv5 : T := (.yld 1 [.v 1, .bin .add (.v 2) (.c (.i .i64 1))])
def Lk2 : T := (.w (.chk (.scal (.proj 0 (.idx 16 (.v 0) (.v 2))))) (.yld 1 [.app 1 (.app 1 (.app 1 (.c (.l 1 [])) (.lsl 1 (.v 1) (.c (.i .i64 0)) (.v 3))) (.lit 1 [.proj 0 (.idx 16 (.v 0) (.v 2))])) (.lsl 1 (.v 1) (.v 3) (.len (.v 1))), .bin .add (.v 2) (.c (.i .i64 1))]))
def Kz6 : T := (.ite (.ite (.bin .lss (.v 3) (.len (.v 1))) (.bin .eql (.proj 0 (.idx 1 (.v 1) (.v 3))) (.proj 0 (.idx 16 (.v 0) (.v 2)))) (.c (.b false))) Lv5 Lk2)
def Ky0 : T := (.blk 2 Jz4 Kz6)
def Nq0 : T := (.ite (.bin .lss (.v 2) (.len (.v 0))) Ky0 (.yld 0 [.v 1]))
def Sw7 : T := .loop 1 [.c (.l 1 []), .c (.i .i64 0)] Nq0
def Ex5 : T := (.blk 0 Sw7 (.ret [.v 1]))
theorem Dj6 : type_of% (And.intro (tev_eq @Mz8.eq_1) (And.intro (tev_eq @Lz1.eq_1) (And.intro (tev_eq @Nk5.eq_1) (And.intro (tev_eq @Lv5.eq_1) (And.intro (tev_eq @Lk2.eq_1) (And.intro (tev_eq @Kz6.eq_1) (And.intro (tev_eq @Ky0.eq_1) (And.intro (tev_eq @Nq0.eq_1) (tev_eq @Ex5.eq_1))))))))) := (And.intro (tev_eq @Mz8.eq_1) (And.intro (tev_eq @Lz1.eq_1) (And.intro (tev_eq @Nk5.eq_1) (And.intro (tev_eq @Lv5.eq_1) (And.intro (tev_eq @Lk2.eq_1) (And.intro (tev_eq @Kz6.eq_1) (And.intro (tev_eq @Ky0.eq_1) (And.intro (tev_eq @Nq0.eq_1) (tev_eq @Ex5.eq_1)))))))))
def Ex4 : T := (.ret [.ite (.bin .geq (.slen (.v 0)) (.slen (.v 1))) (.bin .eql (.ssl (.v 0) (.bin .sub (.slen (.v 0)) (.slen (.v 1))) (.slen (.v 0))) (.v 1)) (.c (.b false))])
theorem Zj7 : type_of% (tev_eq @Ex4.eq_1) := (tev_eq @Ex4.eq_1)
def Mz7 : T := (.w (.call none false Sq0 [.v 0, .v 3] 1) (.ret [.v 4]))
def Lz0 : T := (.yld 0 [.bin .add (.v 4) (.c (.i .i64 1))])
def Lv4 : T := (.w (.call none true Iy3 [.v 0, .v 1] 1) Lz0)
def Lk1 : T := (.ite (.bin .lss (.v 3) (.c (.i .i64 0))) Lv4 (.yld 0 [.v 3]))
def Kz5 : T := (.yld 0 [.v 5, .v 6, .v 7])
def Kx9 : T := (.w (.chk (.idx 1 (.v 6) (.v 7))) (.w (.chk (.scal (.ssl (.v 5) (.c (.i .i64 0)) (.bin .add (.v 8) (.v 2))))) (.yld 1 [.ssl (.v 5) (.bin .add (.v 8) (.slen (.v 1))) (.slen (.v 5)), .set 1 (.v 6) (.v 7) 0 [.ssl (.v 5) (.c (.i .i64 0)) (.bin .add (.v 8) (.v 2))], .bin .add (.v 7) (.c (.i .i64 1))])))
def Kw6 : T := (.ite (.bin .lss (.v 8) (.c (.i .i64 0))) Kz5 Kx9)
def Kv6 : T := (.w (.call none true Fj5 [.v 5, .v 1] 1) Kw6)
def Kq8 : T := (.yld 0 [.v 5, .v 6, .v 7])
def Hz7 : T := (.ite (.bin .lss (.v 7) (.bin .sub (.mn (.v 4) (.bin .add (.slen (.v 0)) (.c (.i .i64 1)))) (.c (.i .i64 1)))) Kv6 Kq8)
def Jz8 : T := .loop 1 [.v 0, .rep 1 (.mn (.v 4) (.bin .add (.slen (.v 0)) (.c (.i .i64 1)))) (.c (.s [])), .c (.i .i64 0)] Hz7
def Kq1 : T := (.w (.chk (.idx 1 (.v 6) (.v 7))) (.w (.chk (.scal (.v 5))) (.ret [.lsl 1 (.set 1 (.v 6) (.v 7) 0 [.v 5]) (.c (.i .i64 0)) (.bin .add (.v 7) (.c (.i .i64 1)))])))
def Hy9 : T := (.w (.chk (.bin .sub (.mn (.v 4) (.bin .add (.slen (.v 0)) (.c (.i .i64 1)))) (.c (.i .i64 1)))) (.blk 0 Jz8 Kq1))
def Hy3 : T := (.blk 0 Lk1 Hy9)
def Hx7 : T := (.ite (.bin .eql (.v 1) (.c (.s []))) Mz7 Hy3)
def Ex3 : T := (.ite (.bin .eql (.v 3) (.c (.i .i64 0))) (.ret [.c (.l 1 [])]) Hx7)
theorem Qv3 : type_of% (And.intro (tev_eq @Mz7.eq_1) (And.intro (tev_eq @Lz0.eq_1) (And.intro (tev_eq @Lv4.eq_1) (And.intro (tev_eq @Lk1.eq_1) (And.intro (tev_eq @Kz5.eq_1) (And.intro (tev_eq @Kx9.eq_1) (And.intro (tev_eq @Kw6.eq_1) (And.intro (tev_eq @Kv6.eq_1) (And.intro (tev_eq @Kq8.eq_1) (And.intro (tev_eq @Hz7.eq_1) (And.intro (tev_eq @Kq1.eq_1) (And.intro (tev_eq @Hy9.eq_1) (And.intro (tev_eq @Hy3.eq_1) (And.intro (tev_eq @Hx7.eq_1) (tev_eq @Ex3.eq_1))))))))))))))) := (And.intro (tev_eq @Mz7.eq_1) (And.intro (tev_eq @Lz0.eq_1) (And.intro (tev_eq @Lv4.eq_1) (And.intro (tev_eq @Lk1.eq_1) (And.intro (tev_eq @Kz5.eq_1) (And.intro (tev_eq @Kx9.eq_1) (And.intro (tev_eq @Kw6.eq_1) (And.intro (tev_eq @Kv6.eq_1) (And.intro (tev_eq @Kq8.eq_1) (And.intro (tev_eq @Hz7.eq_1) (And.intro (tev_eq @Kq1.eq_1) (And.intro (tev_eq @Hy9.eq_1) (And.intro (tev_eq @Hy3.eq_1) (And.intro (tev_eq @Hx7.eq_1) (tev_eq @Ex3.eq_1)))))))))))))))
def Mz6 : T := (.ret [.c (.s [78, 83])])
def Ly9 : T := (.ret [.c (.s [67, 78, 65, 77, 69])])
def Lv3 : T := (.ret [.c (.s [83, 79, 65])])
def Lk0 : T := (.ret [.c (.s [80, 84, 82])])
def Kz4 : T := (.ret [.c (.s [77, 88])])
def Kx8 : T := (.ret [.c (.s [84, 88, 84])])
def Kw5 : T := (.ret [.c (.s [65, 65, 65, 65])])
def Kv5 : T := (.ret [.c (.s [83, 82, 86])])
def Kq7 : T := (.ret [.c (.s [68, 78, 65, 77, 69])])
def Kq0 : T := (.ret [.c (.s [68, 83])])
def Hy8 : T := (.ret [.c (.s [82, 82, 83, 73, 71])])
def Hy2 : T := (.ret [.c (.s [78, 83, 69, 67])])
def Hx6 : T := (.ret [.c (.s [68, 78, 83, 75, 69, 89])])
def Hx2 : T := (.ite (.bin .eql (.v 0) (.c (.i .i64 48))) Hx6 (.ret [.c (.s [])]))
def Hw7 : T := (.ite (.bin .eql (.v 0) (.c (.i .i64 47))) Hy2 Hx2)
def Hw3 : T := (.ite (.bin .eql (.v 0) (.c (.i .i64 46))) Hy8 Hw7)
def Hv9 : T := (.ite (.bin .eql (.v 0) (.c (.i .i64 43))) Kq0 Hw3)
def Hv5 : T := (.ite (.bin .eql (.v 0) (.c (.i .i64 39))) Kq7 Hv9)
def Hv1 : T := (.ite (.bin .eql (.v 0) (.c (.i .i64 33))) Kv5 Hv5)
def Hq7 : T := (.ite (.bin .eql (.v 0) (.c (.i .i64 28))) Kw5 Hv1)
def Hq3 : T := (.ite (.bin .eql (.v 0) (.c (.i .i64 16))) Kx8 Hq7)
def Hk9 : T := (.ite (.bin .eql (.v 0) (.c (.i .i64 15))) Kz4 Hq3)
def Hk4 : T := (.ite (.bin .eql (.v 0) (.c (.i .i64 12))) Lk0 Hk9)
def Hj9 : T := (.ite (.bin .eql (.v 0) (.c (.i .i64 6))) Lv3 Hk4)
def Hj5 : T := (.ite (.bin .eql (.v 0) (.c (.i .i64 5))) Ly9 Hj9)
def Hj1 : T := (.ite (.bin .eql (.v 0) (.c (.i .i64 2))) Mz6 Hj5)
def Ex2 : T := (.ite (.bin .eql (.v 0) (.c (.i .i64 1))) (.ret [.c (.s [65])]) Hj1)
theorem x_u141 : type_of% (And.intro (tev_eq @Mz6.eq_1) (And.intro (tev_eq @Ly9.eq_1) (And.intro (tev_eq @Lv3.eq_1) (And.intro (tev_eq @Lk0.eq_1) (And.intro (tev_eq @Kz4.eq_1) (And.intro (tev_eq @Kx8.eq_1) (And.intro (tev_eq @Kw5.eq_1) (And.intro (tev_eq @Kv5.eq_1) (And.intro (tev_eq @Kq7.eq_1) (And.intro (tev_eq @Kq0.eq_1) (And.intro (tev_eq @Hy8.eq_1) (And.intro (tev_eq @Hy2.eq_1) (And.intro (tev_eq @Hx6.eq_1) (And.intro (tev_eq @Hx2.eq_1) (And.intro (tev_eq @Hw7.eq_1) (And.intro (tev_eq @Hw3.eq_1) (And.intro (tev_eq @Hv9.eq_1) (And.intro (tev_eq @Hv5.eq_1) (And.intro (tev_eq @Hv1.eq_1) (And.intro (tev_eq @Hq7.eq_1) (And.intro (tev_eq @Hq3.eq_1) (And.intro (tev_eq @Hk9.eq_1) (And.intro (tev_eq @Hk4.eq_1) (And.intro (tev_eq @Hj9.eq_1) (And.intro (tev_eq @Hj5.eq_1) (And.intro (tev_eq @Hj1.eq_1) (tev_eq @Ex2.eq_1))))))))))))))))))))))))))) := (And.intro (tev_eq @Mz6.eq_1) (And.intro (tev_eq @Ly9.eq_1) (And.intro (tev_eq @Lv3.eq_1) (And.intro (tev_eq @Lk0.eq_1) (And.intro (tev_eq @Kz4.eq_1) (And.intro (tev_eq @Kx8.eq_1) (And.intro (tev_eq @Kw5.eq_1) (And.intro (tev_eq @Kv5.eq_1) (And.intro (tev_eq @Kq7.eq_1) (And.intro (tev_eq @Kq0.eq_1) (And.intro (tev_eq @Hy8.eq_1) (And.intro (tev_eq @Hy2.eq_1) (And.intro (tev_eq @Hx6.eq_1) (And.intro (tev_eq @Hx2.eq_1) (And.intro (tev_eq @Hw7.eq_1) (And.intro (tev_eq @Hw3.eq_1) (And.intro (tev_eq @Hv9.eq_1) (And.intro (tev_eq @Hv5.eq_1) (And.intro (tev_eq @Hv1.eq_1) (And.intro (tev_eq @Hq7.eq_1) (And.intro (tev_eq @Hq3.eq_1) (And.intro (tev_eq @Hk9.eq_1) (And.intro (tev_eq @Hk4.eq_1) (And.intro (tev_eq @Hj9.eq_1) (And.intro (tev_eq @Hj5.eq_1) (And.intro (tev_eq @Hj1.eq_1) (tev_eq @Ex2.eq_1)))))))))))))))))))))))))))
def Mz5 : T := (.yld 0 [.bin .eql (.v 0) (.c (.i .i64 1)), .c (.b false), .c (.i .u64 0), .c (.i .u64 0), .c (.s []), .c (.s []), .c (.s []), .c (.i .i64 0), .c (.i .i64 0), .c (.i .i64 0), .c (.i .i64 0), .c (.i .i64 0), .c (.i .i64 0), .c (.i .u64 0)])
def Ly8 : T := (.yld 0 [.bin .eql (.v 0) (.c (.i .i64 28)), .c (.b false), .c (.i .u64 0), .c (.i .u64 0), .c (.s []), .c (.s []), .c (.s []), .c (.i .i64 0), .c (.i .i64 0), .c (.i .i64 0), .c (.i .i64 0), .c (.i .i64 0), .c (.i .i64 0), .c (.i .u64 0)])
def Lv2 : T := (.ite (.bin .eql (.v 0) (.c (.i .i64 1))) Mz5 Ly8)
def Lj9 : T := (.w (.chk (.fit 3 (.sub 0 3 (.v 1)))) (.ret [.agg [.proj 0 (.sub 0 3 (.v 1)), .proj 1 (.sub 0 3 (.v 1)), .proj 2 (.sub 0 3 (.v 1)), .c (.s []), .c (.s []), .c (.s []), .c (.i .i64 0), .c (.i .i64 0), .c (.i .i64 0), .c (.i .i64 0), .c (.i .i64 0), .c (.i .i64 0), .c (.i .u64 0)]]))
def Kz3 : T := (.yld 1 [.bin .eql (.v 0) (.c (.i .i64 2)), .v 3, .v 4, .v 5, .v 6, .v 7, .v 8, .v 9, .v 10, .v 11, .v 12, .v 13, .v 14, .v 15])
def Kx7 : T := (.yld 2 [.bin .eql (.v 0) (.c (.i .i64 5)), .v 3, .v 4, .v 5, .v 6, .v 7, .v 8, .v 9, .v 10, .v 11, .v 12, .v 13, .v 14, .v 15])
def Kw4 : T := (.yld 3 [.bin .eql (.v 0) (.c (.i .i64 12)), .v 3, .v 4, .v 5, .v 6, .v 7, .v 8, .v 9, .v 10, .v 11, .v 12, .v 13, .v 14, .v 15])
def Kv4 : T := (.yld 3 [.bin .eql (.v 0) (.c (.i .i64 39)), .v 3, .v 4, .v 5, .v 6, .v 7, .v 8, .v 9, .v 10, .v 11, .v 12, .v 13, .v 14, .v 15])
def Kq6 : T := (.ite (.bin .eql (.v 0) (.c (.i .i64 12))) Kw4 Kv4)
def Kk9 : T := (.yld 2 [.v 16, .v 17, .v 18, .v 19, .v 20, .v 21, .v 22, .v 23, .v 24, .v 25, .v 26, .v 27, .v 28, .v 29])
def Hy7 : T := (.blk 3 Kq6 Kk9)
def Hy1 : T := (.ite (.bin .eql (.v 0) (.c (.i .i64 5))) Kx7 Hy7)
def Hx5 : T := (.yld 1 [.v 16, .v 17, .v 18, .v 19, .v 20, .v 21, .v 22, .v 23, .v 24, .v 25, .v 26, .v 27, .v 28, .v 29])
def Hx1 : T := (.blk 2 Hy1 Hx5)
def Hw6 : T := (.ite (.bin .eql (.v 0) (.c (.i .i64 2))) Kz3 Hx1)
def Hw2 : T := (.w (.chk (.scal (.proj 3 (.v 1)))) (.ret [.agg [.c (.b false), .c (.i .u64 0), .c (.i .u64 0), .proj 3 (.v 1), .c (.s []), .c (.s []), .c (.i .i64 0), .c (.i .i64 0), .c (.i .i64 0), .c (.i .i64 0), .c (.i .i64 0), .c (.i .i64 0), .c (.i .u64 0)]]))
def Hv8 : T := (.w (.chk (.scal (.proj 3 (.v 1)))) (.w (.chk (.scal (.proj 4 (.v 1)))) (.w (.chk (.scal (.proj 6 (.v 1)))) (.w (.chk (.scal (.proj 7 (.v 1)))) (.w (.chk (.scal (.proj 8 (.v 1)))) (.w (.chk (.scal (.proj 9 (.v 1)))) (.w (.chk (.scal (.proj 10 (.v 1)))) (.ret [.agg [.c (.b false), .c (.i .u64 0), .c (.i .u64 0), .proj 3 (.v 1), .proj 4 (.v 1), .c (.s []), .proj 6 (.v 1), .proj 7 (.v 1), .proj 8 (.v 1), .proj 9 (.v 1), .proj 10 (.v 1), .c (.i .i64 0), .c (.i .u64 0)]]))))))))
def Hv4 : T := (.w (.chk (.scal (.proj 6 (.v 1)))) (.w (.chk (.scal (.proj 3 (.v 1)))) (.ret [.agg [.c (.b false), .c (.i .u64 0), .c (.i .u64 0), .proj 3 (.v 1), .c (.s []), .c (.s []), .proj 6 (.v 1), .c (.i .i64 0), .c (.i .i64 0), .c (.i .i64 0), .c (.i .i64 0), .c (.i .i64 0), .c (.i .u64 0)]])))
def Hv0 : T := (.w (.chk (.scal (.proj 5 (.v 1)))) (.ret [.agg [.c (.b false), .c (.i .u64 0), .c (.i .u64 0), .c (.s []), .c (.s []), .proj 5 (.v 1), .c (.i .i64 0), .c (.i .i64 0), .c (.i .i64 0), .c (.i .i64 0), .c (.i .i64 0), .c (.i .i64 0), .c (.i .u64 0)]]))
def Hq6 : T := (.w (.chk (.scal (.proj 6 (.v 1)))) (.w (.chk (.scal (.proj 7 (.v 1)))) (.w (.chk (.scal (.proj 8 (.v 1)))) (.w (.chk (.scal (.proj 3 (.v 1)))) (.ret [.agg [.c (.b false), .c (.i .u64 0), .c (.i .u64 0), .proj 3 (.v 1), .c (.s []), .c (.s []), .proj 6 (.v 1), .proj 7 (.v 1), .proj 8 (.v 1), .c (.i .i64 0), .c (.i .i64 0), .c (.i .i64 0), .c (.i .u64 0)]])))))
def Hq2 : T := (.yld 2 [.bin .eql (.v 0) (.c (.i .i64 43)), .v 17, .v 18, .v 19, .v 20, .v 21, .v 22, .v 23, .v 24, .v 25, .v 26, .v 27, .v 28, .v 29])
def Hk8 : T := (.yld 2 [.bin .eql (.v 0) (.c (.i .i64 48)), .v 17, .v 18, .v 19, .v 20, .v 21, .v 22, .v 23, .v 24, .v 25, .v 26, .v 27, .v 28, .v 29])
def Hk3 : T := (.ite (.bin .eql (.v 0) (.c (.i .i64 43))) Hq2 Hk8)
def Hj8 : T := (.w (.chk (.scal (.proj 6 (.v 1)))) (.w (.chk (.scal (.proj 7 (.v 1)))) (.w (.chk (.scal (.proj 8 (.v 1)))) (.w (.chk (.scal (.proj 5 (.v 1)))) (.ret [.agg [.c (.b false), .c (.i .u64 0), .c (.i .u64 0), .c (.s []), .c (.s []), .proj 5 (.v 1), .proj 6 (.v 1), .proj 7 (.v 1), .proj 8 (.v 1), .c (.i .i64 0), .c (.i .i64 0), .c (.i .i64 0), .c (.i .u64 0)]])))))
def Hj4 : T := (.w (.chk (.scal (.proj 6 (.v 1)))) (.w (.chk (.scal (.proj 7 (.v 1)))) (.w (.chk (.scal (.proj 8 (.v 1)))) (.w (.chk (.scal (.proj 9 (.v 1)))) (.w (.chk (.scal (.proj 10 (.v 1)))) (.w (.chk (.scal (.proj 11 (.v 1)))) (.w (.chk (.scal (.proj 3 (.v 1)))) (.w (.chk (.scal (.proj 5 (.v 1)))) (.ret [.agg [.c (.b false), .c (.i .u64 0), .c (.i .u64 0), .proj 3 (.v 1), .c (.s []), .proj 5 (.v 1), .proj 6 (.v 1), .proj 7 (.v 1), .proj 8 (.v 1), .proj 9 (.v 1), .proj 10 (.v 1), .proj 11 (.v 1), .c (.i .u64 0)]])))))))))
def Hj0 : T := (.yld 2 [.v 30, .v 31, .v 32, .v 33, .v 34, .v 35, .v 36, .v 37, .v 38, .v 39, .v 40, .v 41, .v 42, .v 43])
def Gz7 : T := (.ite (.bin .eql (.v 0) (.c (.i .i64 46))) Hj4 Hj0)
def Gz4 : T := (.ite (.v 30) Hj8 Gz7)
def Gz1 : T := (.yld 1 [.v 16, .v 45, .v 46, .v 47, .v 48, .v 49, .v 50, .v 51, .v 52, .v 53, .v 54, .v 55, .v 56, .v 57])
def Gy8 : T := (.blk 2 Gz4 Gz1)
def Gy5 : T := (.blk 2 Hk3 Gy8)
def Gy2 : T := (.ite (.bin .eql (.v 0) (.c (.i .i64 33))) Hq6 Gy5)
def Gx9 : T := (.ite (.bin .eql (.v 0) (.c (.i .i64 16))) Hv0 Gy2)
def Gx6 : T := (.ite (.bin .eql (.v 0) (.c (.i .i64 15))) Hv4 Gx9)
def Gx3 : T := (.ite (.bin .eql (.v 0) (.c (.i .i64 6))) Hv8 Gx6)
def Gx0 : T := (.ite (.v 16) Hw2 Gx3)
def Gw7 : T := (.yld 0 [.v 2, .v 31, .v 32, .v 33, .v 34, .v 35, .v 36, .v 37, .v 38, .v 39, .v 40, .v 41, .v 42, .v 43])
def Gw4 : T := (.blk 1 Gx0 Gw7)
def Gw1 : T := (.blk 1 Hw6 Gw4)
def Gv8 : T := (.ite (.v 2) Lj9 Gw1)
def Gv5 : T := (.w (.chk (.scal (.proj 3 (.v 1)))) (.w (.chk (.scal (.proj 12 (.v 1)))) (.ret [.agg [.c (.b false), .c (.i .u64 0), .c (.i .u64 0), .proj 3 (.v 1), .c (.s []), .c (.s []), .c (.i .i64 0), .c (.i .i64 0), .c (.i .i64 0), .c (.i .i64 0), .c (.i .i64 0), .c (.i .i64 0), .proj 12 (.v 1)]])))
def Gv2 : T := (.blk 0 Gv8 Gv5)
def Ex1 : T := (.w (.chk (.fit 13 (.v 1))) (.blk 0 Lv2 Gv2))
theorem x_u142 : type_of% (And.intro (tev_eq @Mz5.eq_1) (And.intro (tev_eq @Ly8.eq_1) (And.intro (tev_eq @Lv2.eq_1) (And.intro (tev_eq @Lj9.eq_1) (And.intro (tev_eq @Kz3.eq_1) (And.intro (tev_eq @Kx7.eq_1) (And.intro (tev_eq @Kw4.eq_1) (And.intro (tev_eq @Kv4.eq_1) (And.intro (tev_eq @Kq6.eq_1) (And.intro (tev_eq @Kk9.eq_1) (And.intro (tev_eq @Hy7.eq_1) (And.intro (tev_eq @Hy1.eq_1) (And.intro (tev_eq @Hx5.eq_1) (And.intro (tev_eq @Hx1.eq_1) (And.intro (tev_eq @Hw6.eq_1) (And.intro (tev_eq @Hw2.eq_1) (And.intro (tev_eq @Hv8.eq_1) (And.intro (tev_eq @Hv4.eq_1) (And.intro (tev_eq @Hv0.eq_1) (And.intro (tev_eq @Hq6.eq_1) (And.intro (tev_eq @Hq2.eq_1) (And.intro (tev_eq @Hk8.eq_1) (And.intro (tev_eq @Hk3.eq_1) (And.intro (tev_eq @Hj8.eq_1) (And.intro (tev_eq @Hj4.eq_1) (And.intro (tev_eq @Hj0.eq_1) (And.intro (tev_eq @Gz7.eq_1) (And.intro (tev_eq @Gz4.eq_1) (And.intro (tev_eq @Gz1.eq_1) (And.intro (tev_eq @Gy8.eq_1) (And.intro (tev_eq @Gy5.eq_1) (And.intro (tev_eq @Gy2.eq_1) (And.intro (tev_eq @Gx9.eq_1) (And.intro (tev_eq @Gx6.eq_1) (And.intro (tev_eq @Gx3.eq_1) (And.intro (tev_eq @Gx0.eq_1) (And.intro (tev_eq @Gw7.eq_1) (And.intro (tev_eq @Gw4.eq_1) (And.intro (tev_eq @Gw1.eq_1) (And.intro (tev_eq @Gv8.eq_1) (And.intro (tev_eq @Gv5.eq_1) (And.intro (tev_eq @Gv2.eq_1) (tev_eq @Ex1.eq_1))))))))))))))))))))))))))))))))))))))))))) := (And.intro (tev_eq @Mz5.eq_1) (And.intro (tev_eq @Ly8.eq_1) (And.intro (tev_eq @Lv2.eq_1) (And.intro (tev_eq @Lj9.eq_1) (And.intro (tev_eq @Kz3.eq_1) (And.intro (tev_eq @Kx7.eq_1) (And.intro (tev_eq @Kw4.eq_1) (And.intro (tev_eq @Kv4.eq_1) (And.intro (tev_eq @Kq6.eq_1) (And.intro (tev_eq @Kk9.eq_1) (And.intro (tev_eq @Hy7.eq_1) (And.intro (tev_eq @Hy1.eq_1) (And.intro (tev_eq @Hx5.eq_1) (And.intro (tev_eq @Hx1.eq_1) (And.intro (tev_eq @Hw6.eq_1) (And.intro (tev_eq @Hw2.eq_1) (And.intro (tev_eq @Hv8.eq_1) (And.intro (tev_eq @Hv4.eq_1) (And.intro (tev_eq @Hv0.eq_1) (And.intro (tev_eq @Hq6.eq_1) (And.intro (tev_eq @Hq2.eq_1) (And.intro (tev_eq @Hk8.eq_1) (And.intro (tev_eq @Hk3.eq_1) (And.intro (tev_eq @Hj8.eq_1) (And.intro (tev_eq @Hj4.eq_1) (And.intro (tev_eq @Hj0.eq_1) (And.intro (tev_eq @Gz7.eq_1) (And.intro (tev_eq @Gz4.eq_1) (And.intro (tev_eq @Gz1.eq_1) (And.intro (tev_eq @Gy8.eq_1) (And.intro (tev_eq @Gy5.eq_1) (And.intro (tev_eq @Gy2.eq_1) (And.intro (tev_eq @Gx9.eq_1) (And.intro (tev_eq @Gx6.eq_1) (And.intro (tev_eq @Gx3.eq_1) (And.intro (tev_eq @Gx0.eq_1) (And.intro (tev_eq @Gw7.eq_1) (And.intro (tev_eq @Gw4.eq_1) (And.intro (tev_eq @Gw1.eq_1) (And.intro (tev_eq @Gv8.eq_1) (And.intro (tev_eq @Gv5.eq_1) (And.intro (tev_eq @Gv2.eq_1) (tev_eq @Ex1.eq_1)))))))))))))))))))))))))))))))))))))))))))
def Ex0 : T := (.w (.chk (.fit 3 (.v 0))) (.w (.chk (.ite (.ite (.un .not (.proj 0 (.v 0))) (.bin .eql (.proj 1 (.v 0)) (.c (.i .u64 0))) (.c (.b false))) (.bin .lss (.proj 2 (.v 0)) (.c (.i .u64 4294967296))) (.c .u))) (.ret [.ite (.proj 0 (.v 0)) (.c (.b true)) (.ite (.bin .eql (.proj 1 (.v 0)) (.c (.i .u64 0))) (.bin .lss (.proj 2 (.v 0)) (.c (.i .u64 4294967296))) (.c (.b false)))])))
theorem x_u143 : type_of% (tev_eq @Ex0.eq_1) := (tev_eq @Ex0.eq_1)
def Mz4 : T := (.ret [.ite (.v 1) (.bin .neq (.sidx (.v 0) (.c (.i .i64 0))) (.c (.i .u8 42))) (.c (.b false))])
def Ew9 : T := (.w (.call none true Eq0 [.v 0] 1) Mz4)
theorem Zj6 : type_of% (And.intro (tev_eq @Mz4.eq_1) (tev_eq @Ew9.eq_1)) := (And.intro (tev_eq @Mz4.eq_1) (tev_eq @Ew9.eq_1))
def Ew8 : T := (.ret [.ite (.bin .geq (.v 0) (.c (.i .i64 0))) (.bin .lss (.v 0) (.c (.i .i64 4294967296))) (.c (.b false))])
theorem x_u145 : type_of% (tev_eq @Ew8.eq_1) := (tev_eq @Ew8.eq_1)
def Ew7 : T := (.ret [.ite (.bin .geq (.v 0) (.c (.i .i64 0))) (.bin .leq (.v 0) (.v 1)) (.c (.b false))])
theorem x_u146 : type_of% (tev_eq @Ew7.eq_1) := (tev_eq @Ew7.eq_1)
def Ew6 : T := (.ret [.ite (.bin .geq (.slen (.v 0)) (.c (.i .i64 1))) (.bin .leq (.slen (.v 0)) (.c (.i .i64 255))) (.c (.b false))])
theorem x_u147 : type_of% (tev_eq @Ew6.eq_1) := (tev_eq @Ew6.eq_1)
def Mz3 : T := (.yld 1 [.bin .add (.v 1) (.c (.i .i64 1))])
def Ly7 : T := (.ite (.ite (.bin .eql (.bin .and (.bin .shr (.v 0) (.conv .u64 (.v 1))) (.c (.i .u64 1))) (.c (.i .u64 1))) (.un .not (.v 2)) (.c (.b false))) (.ret [.c (.b false)]) Mz3)
def Lv1 : T := (.w (.call (some (.bin .eql (.bin .and (.bin .shr (.v 0) (.conv .u64 (.v 1))) (.c (.i .u64 1))) (.c (.i .u64 1)))) true Cw8 [.v 1] 1) Ly7)
def Nk9 : T := (.ite (.bin .lss (.v 1) (.c (.i .i64 64))) Lv1 (.yld 0 []))
def Sw6 : T := .loop 1 [.c (.i .i64 0)] Nk9
def Ew5 : T := (.blk 0 Sw6 (.ret [.c (.b true)]))
theorem Qv2 : type_of% (And.intro (tev_eq @Mz3.eq_1) (And.intro (tev_eq @Ly7.eq_1) (And.intro (tev_eq @Lv1.eq_1) (And.intro (tev_eq @Nk9.eq_1) (tev_eq @Ew5.eq_1))))) := (And.intro (tev_eq @Mz3.eq_1) (And.intro (tev_eq @Ly7.eq_1) (And.intro (tev_eq @Lv1.eq_1) (And.intro (tev_eq @Nk9.eq_1) (tev_eq @Ew5.eq_1)))))
def Mz2 : T := (.w (.call none true Fj4 [.v 0, .v 1] 1) (.ret [.v 6]))
def Ly6 : T := (.ite (.v 5) (.ret [.c (.i .i64 1)]) Mz2)
def Lv0 : T := (.ite (.v 3) (.ret [.c (.i .i64 (-1))]) Ly6)
def Lj8 : T := (.w (.call none true Fj4 [.proj 0 (.idx 1 (.v 2) (.bin .sub (.bin .sub (.len (.v 2)) (.c (.i .i64 1))) (.v 6))), .proj 0 (.idx 1 (.v 4) (.bin .sub (.bin .sub (.len (.v 4)) (.c (.i .i64 1))) (.v 6)))] 1) (.ret [.v 7]))
def Kz2 : T := (.ite (.bin .gtr (.len (.v 2)) (.len (.v 4))) (.ret [.c (.i .i64 1)]) (.ret [.c (.i .i64 0)]))
def Kx6 : T := (.ite (.bin .lss (.len (.v 2)) (.len (.v 4))) (.ret [.c (.i .i64 (-1))]) Kz2)
def Kw3 : T := (.ite (.ite (.bin .lss (.v 6) (.len (.v 2))) (.bin .lss (.v 6) (.len (.v 4))) (.c (.b false))) Lj8 Kx6)
def Kv3 : T := (.w (.call none true Py2 [.v 2, .v 4] 1) Kw3)
def Kq5 : T := (.ite (.ite (.un .not (.v 3)) (.c (.b true)) (.un .not (.v 5))) Lv0 Kv3)
def Kk8 : T := (.w (.call none false Cq4 [.v 1] 2) Kq5)
def Ew4 : T := (.w (.call none false Cq4 [.v 0] 2) Kk8)
theorem Ik7 : type_of% (And.intro (tev_eq @Mz2.eq_1) (And.intro (tev_eq @Ly6.eq_1) (And.intro (tev_eq @Lv0.eq_1) (And.intro (tev_eq @Lj8.eq_1) (And.intro (tev_eq @Kz2.eq_1) (And.intro (tev_eq @Kx6.eq_1) (And.intro (tev_eq @Kw3.eq_1) (And.intro (tev_eq @Kv3.eq_1) (And.intro (tev_eq @Kq5.eq_1) (And.intro (tev_eq @Kk8.eq_1) (tev_eq @Ew4.eq_1))))))))))) := (And.intro (tev_eq @Mz2.eq_1) (And.intro (tev_eq @Ly6.eq_1) (And.intro (tev_eq @Lv0.eq_1) (And.intro (tev_eq @Lj8.eq_1) (And.intro (tev_eq @Kz2.eq_1) (And.intro (tev_eq @Kx6.eq_1) (And.intro (tev_eq @Kw3.eq_1) (And.intro (tev_eq @Kv3.eq_1) (And.intro (tev_eq @Kq5.eq_1) (And.intro (tev_eq @Kk8.eq_1) (tev_eq @Ew4.eq_1)))))))))))
def Mz1 : T := (.ite (.bin .gtr (.v 0) (.v 1)) (.ret [.c (.i .i64 1)]) (.ret [.c (.i .i64 0)]))
def Ew3 : T := (.ite (.bin .lss (.v 0) (.v 1)) (.ret [.c (.i .i64 (-1))]) Mz1)
theorem x_u150 : type_of% (And.intro (tev_eq @Mz1.eq_1) (tev_eq @Ew3.eq_1)) := (And.intro (tev_eq @Mz1.eq_1) (tev_eq @Ew3.eq_1))
def Mz0 : T := (.ite (.bin .eql (.v 6) (.c (.i .i64 0))) (.ret [.c (.i .i64 1)]) (.ret [.c (.i .i64 0)]))
def Ly5 : T := (.ite (.bin .eql (.v 4) (.c (.i .i64 0))) (.ret [.c (.i .i64 (-1))]) Mz0)
def Lq9 : T := (.ite (.bin .gtr (.v 3) (.v 5)) (.ret [.c (.i .i64 1)]) (.ret [.c (.i .i64 0)]))
def Lj7 : T := (.ite (.bin .lss (.v 3) (.v 5)) (.ret [.c (.i .i64 (-1))]) Lq9)
def Kz1 : T := (.ite (.ite (.bin .neq (.v 4) (.c (.i .i64 0))) (.c (.b true)) (.bin .neq (.v 6) (.c (.i .i64 0)))) Ly5 Lj7)
def Kx5 : T := (.w (.call none true Fj3 [.v 0, .sub 0 13 (.v 2)] 2) Kz1)
def Ew2 : T := (.w (.chk (.fit 13 (.v 1))) (.w (.chk (.fit 13 (.v 2))) (.w (.call none true Fj3 [.v 0, .sub 0 13 (.v 1)] 2) Kx5)))
theorem Zj5 : type_of% (And.intro (tev_eq @Mz0.eq_1) (And.intro (tev_eq @Ly5.eq_1) (And.intro (tev_eq @Lq9.eq_1) (And.intro (tev_eq @Lj7.eq_1) (And.intro (tev_eq @Kz1.eq_1) (And.intro (tev_eq @Kx5.eq_1) (tev_eq @Ew2.eq_1))))))) := (And.intro (tev_eq @Mz0.eq_1) (And.intro (tev_eq @Ly5.eq_1) (And.intro (tev_eq @Lq9.eq_1) (And.intro (tev_eq @Lj7.eq_1) (And.intro (tev_eq @Kz1.eq_1) (And.intro (tev_eq @Kx5.eq_1) (tev_eq @Ew2.eq_1)))))))
def Ew1 : T := (.w (.call none true Nx8 [.v 0, .v 1] 1) (.ret [.v 2]))
theorem x_u152 : type_of% (tev_eq @Ew1.eq_1) := (tev_eq @Ew1.eq_1)
def My9 : T := (.ret [.ssl (.v 0) (.c (.i .i64 0)) (.bin .sub (.slen (.v 0)) (.slen (.v 1)))])
def Ly4 : T := (.ite (.v 2) My9 (.ret [.v 0]))
def Ew0 : T := (.w (.call none true Fk0 [.v 0, .v 1] 1) Ly4)
theorem x_u153 : type_of% (And.intro (tev_eq @My9.eq_1) (And.intro (tev_eq @Ly4.eq_1) (tev_eq @Ew0.eq_1))) := (And.intro (tev_eq @My9.eq_1) (And.intro (tev_eq @Ly4.eq_1) (tev_eq @Ew0.eq_1)))
def My8 : T := (.yld 1 [.bin .add (.v 2) (.c (.i .i64 1))])
def Ly3 : T := (.ite (.v 3) (.ret [.v 2]) My8)
def Lq8 : T := (.w (.clo none true (.v 1) [.proj 0 (.idx 1 (.v 0) (.v 2))] 1) Ly3)
def Nk8 : T := (.ite (.bin .lss (.v 2) (.len (.v 0))) Lq8 (.yld 0 []))
def Sw5 : T := .loop 1 [.c (.i .i64 0)] Nk8
def Ev9 : T := (.w (.chk (.len (.v 0))) (.blk 0 Sw5 (.ret [.c (.i .i64 (-1))])))
theorem Ik6 : type_of% (And.intro (tev_eq @My8.eq_1) (And.intro (tev_eq @Ly3.eq_1) (And.intro (tev_eq @Lq8.eq_1) (And.intro (tev_eq @Nk8.eq_1) (tev_eq @Ev9.eq_1))))) := (And.intro (tev_eq @My8.eq_1) (And.intro (tev_eq @Ly3.eq_1) (And.intro (tev_eq @Lq8.eq_1) (And.intro (tev_eq @Nk8.eq_1) (tev_eq @Ev9.eq_1)))))
def Ev8 : T := (.w (.call none true Iy2 [.v 0, .v 1] 1) (.ret [.v 2]))
theorem x_u156 : type_of% (tev_eq @Ev8.eq_1) := (tev_eq @Ev8.eq_1)
def My7 : T := (.w (.call none false Px7 [.ssl (.v 0) (.c (.i .i64 0)) (.bin .sub (.slen (.v 0)) (.c (.i .i64 1))), .c (.s [46])] 1) (.ret [.v 2]))
def Ly2 : T := (.ite (.ite (.bin .eql (.v 0) (.c (.s [46]))) (.c (.b true)) (.un .not (.v 1))) (.ret [.c (.l 1 [])]) My7)
def Ev7 : T := (.w (.call (some (.un .not (.bin .eql (.v 0) (.c (.s [46]))))) true Cq5 [.v 0] 1) Ly2)
theorem Qv1 : type_of% (And.intro (tev_eq @My7.eq_1) (And.intro (tev_eq @Ly2.eq_1) (tev_eq @Ev7.eq_1))) := (And.intro (tev_eq @My7.eq_1) (And.intro (tev_eq @Ly2.eq_1) (tev_eq @Ev7.eq_1)))
def c0_u158 : T := (.ite (.ite (.bin .lss (.v 1) (.c (.i .i64 0))) (.c (.b true)) (.bin .gtr (.v 1) (.v 2))) (.yld 0 [.v 2]) (.yld 0 [.v 1]))
def c1_u158 : T := (.w (.chk (.idx 1 (.v 5) (.v 6))) (.w (.chk (.scal (.ssl (.v 4) (.c (.i .i64 0)) (.v 8)))) (.yld 1 [.ssl (.v 4) (.v 8) (.slen (.v 4)), .set 1 (.v 5) (.v 6) 0 [.ssl (.v 4) (.c (.i .i64 0)) (.v 8)], .bin .add (.v 6) (.c (.i .i64 1))])))
def c2_u158 : T := (.w (.call none true Sk7 [.v 4] 2) c1_u158)
def b0_u158 : T := (.ite (.bin .lss (.v 6) (.bin .sub (.v 3) (.c (.i .i64 1)))) c2_u158 (.yld 0 [.v 4, .v 5]))
def l0_u158 : T := .loop 1 [.v 0, .rep 1 (.v 3) (.c (.s [])), .c (.i .i64 0)] b0_u158
def c3_u158 : T := (.w (.chk (.idx 1 (.v 5) (.bin .sub (.v 3) (.c (.i .i64 1))))) (.w (.chk (.scal (.v 4))) (.ret [.set 1 (.v 5) (.bin .sub (.v 3) (.c (.i .i64 1))) 0 [.v 4]])))
def c4_u158 : T := (.ite (.bin .gtr (.v 3) (.c (.i .i64 0))) c3_u158 (.ret [.v 5]))
def c5_u158 : T := (.blk 0 l0_u158 c4_u158)
def c6_u158 : T := (.blk 0 c0_u158 c5_u158)
def Zk4 : T := (.w (.call none true Nx7 [.v 0] 1) c6_u158)
def My6 : T := (.ret [.bin .add (.v 2) (.c (.i .i64 1))])
def Ly1 : T := (.w (.call none true Nx7 [.v 0] 1) My6)
def Lq7 : T := (.w (.call none true Nx6 [.v 0, .sidx (.v 1) (.c (.i .i64 0))] 1) (.ret [.v 2]))
def Lj6 : T := (.yld 1 [.ssl (.v 2) (.bin .add (.v 4) (.slen (.v 1))) (.slen (.v 2)), .bin .add (.v 3) (.c (.i .i64 1))])
def Kz0 : T := (.ite (.bin .eql (.v 4) (.c (.i .i64 (-1)))) (.ret [.v 3]) Lj6)
def Nk7 : T := (.w (.call none true Fj5 [.v 2, .v 1] 1) Kz0)
def l0_u159 : T := .loop 1 [.v 0, .c (.i .i64 0)] Nk7
def Kx4 : T := (.blk 0 l0_u159 (.ret [.c .u]))
def Kw2 : T := (.ite (.bin .eql (.slen (.v 1)) (.c (.i .i64 1))) Lq7 Kx4)
def Ev6 : T := (.ite (.bin .eql (.slen (.v 1)) (.c (.i .i64 0))) Ly1 Kw2)
theorem x_u159 : type_of% (And.intro (tev_eq @My6.eq_1) (And.intro (tev_eq @Ly1.eq_1) (And.intro (tev_eq @Lq7.eq_1) (And.intro (tev_eq @Lj6.eq_1) (And.intro (tev_eq @Kz0.eq_1) (And.intro (tev_eq @Nk7.eq_1) (And.intro (tev_eq @Kx4.eq_1) (And.intro (tev_eq @Kw2.eq_1) (tev_eq @Ev6.eq_1))))))))) := (And.intro (tev_eq @My6.eq_1) (And.intro (tev_eq @Ly1.eq_1) (And.intro (tev_eq @Lq7.eq_1) (And.intro (tev_eq @Lj6.eq_1) (And.intro (tev_eq @Kz0.eq_1) (And.intro (tev_eq @Nk7.eq_1) (And.intro (tev_eq @Kx4.eq_1) (And.intro (tev_eq @Kw2.eq_1) (tev_eq @Ev6.eq_1)))))))))
def Ev5 : T := (.w (.call none true Iy1 [.v 0, .v 1] 1) (.ret [.v 2]))
theorem x_u160 : type_of% (tev_eq @Ev5.eq_1) := (tev_eq @Ev5.eq_1)
def My5 : T := (.ite (.bin .gtr (.v 0) (.v 1)) (.ret [.c (.i .i64 1)]) (.ret [.c (.i .i64 0)]))
def Ev4 : T := (.ite (.bin .lss (.v 0) (.v 1)) (.ret [.c (.i .i64 (-1))]) My5)
theorem x_u178 : type_of% (And.intro (tev_eq @My5.eq_1) (tev_eq @Ev4.eq_1)) := (And.intro (tev_eq @My5.eq_1) (tev_eq @Ev4.eq_1))
def My4 : T := (.ret [.c (.s []), .c (.i .i64 4)])
def Ly0 : T := (.ret [.c (.s []), .c (.i .i64 5)])
def Lq6 : T := (.yld 0 [.bin .eql (.v 0) (.c (.i .i64 1))])
def Lj5 : T := (.yld 0 [.bin .eql (.v 0) (.c (.i .i64 28))])
def Ky9 : T := (.ite (.bin .eql (.v 0) (.c (.i .i64 1))) Lq6 Lj5)
def Kx3 : T := (.w (.call none true Iy0 [.sub 0 3 (.v 1)] 2) (.ret [.v 5, .v 6]))
def Kw1 : T := (.ret [.bin .add (.bin .add (.bin .add (.bin .add (.bin .add (.bin .add (.v 5) (.v 6)) (.v 7)) (.v 8)) (.v 9)) (.v 10)) (.v 11), .c (.i .i64 0)])
def Kv2 : T := (.w (.chk (.bin .add (.bin .add (.bin .add (.bin .add (.bin .add (.v 5) (.v 6)) (.v 7)) (.v 8)) (.v 9)) (.v 10))) (.w (.call none true Aq8 [.proj 10 (.v 1), .c (.i .i64 4)] 1) Kw1))
def Kq4 : T := (.w (.chk (.bin .add (.bin .add (.bin .add (.bin .add (.v 5) (.v 6)) (.v 7)) (.v 8)) (.v 9))) (.w (.call none true Aq8 [.proj 9 (.v 1), .c (.i .i64 4)] 1) Kv2))
def Kk7 : T := (.w (.chk (.bin .add (.bin .add (.bin .add (.v 5) (.v 6)) (.v 7)) (.v 8))) (.w (.call none true Aq8 [.proj 8 (.v 1), .c (.i .i64 4)] 1) Kq4))
def Hy6 : T := (.w (.chk (.bin .add (.bin .add (.v 5) (.v 6)) (.v 7))) (.w (.call none true Aq8 [.proj 7 (.v 1), .c (.i .i64 4)] 1) Kk7))
def Hy0 : T := (.w (.chk (.bin .add (.v 5) (.v 6))) (.w (.call none true Aq8 [.proj 6 (.v 1), .c (.i .i64 4)] 1) Hy6))
def Hx4 : T := (.w (.call none true By5 [.proj 4 (.v 1)] 1) Hy0)
def Hx0 : T := (.w (.call none true By5 [.proj 3 (.v 1)] 1) Hx4)
def Hw5 : T := (.ret [.bin .add (.v 5) (.v 6), .c (.i .i64 0)])
def Hw1 : T := (.w (.call none true By5 [.proj 3 (.v 1)] 1) Hw5)
def Hv7 : T := (.w (.call none true Aq8 [.proj 6 (.v 1), .c (.i .i64 2)] 1) Hw1)
def Hv3 : T := (.ret [.bin .add (.v 5) (.proj 5 (.v 1)), .c (.i .i64 0)])
def Hq9 : T := (.w (.call none true Aq8 [.slen (.proj 5 (.v 1)), .c (.i .i64 1)] 1) Hv3)
def Hq5 : T := (.ret [.bin .add (.bin .add (.bin .add (.v 5) (.v 6)) (.v 7)) (.v 8), .c (.i .i64 0)])
def Hq1 : T := (.w (.chk (.bin .add (.bin .add (.v 5) (.v 6)) (.v 7))) (.w (.call none true By5 [.proj 3 (.v 1)] 1) Hq5))
def Hk7 : T := (.w (.chk (.bin .add (.v 5) (.v 6))) (.w (.call none true Aq8 [.proj 8 (.v 1), .c (.i .i64 2)] 1) Hq1))
def Hk2 : T := (.w (.call none true Aq8 [.proj 7 (.v 1), .c (.i .i64 2)] 1) Hk7)
def Hj7 : T := (.w (.call none true Aq8 [.proj 6 (.v 1), .c (.i .i64 2)] 1) Hk2)
def Hj3 : T := (.yld 1 [.bin .eql (.v 0) (.c (.i .i64 43))])
def Gz9 : T := (.yld 1 [.bin .eql (.v 0) (.c (.i .i64 48))])
def Gz6 : T := (.ite (.bin .eql (.v 0) (.c (.i .i64 43))) Hj3 Gz9)
def Gz3 : T := (.ret [.bin .add (.bin .add (.bin .add (.v 6) (.v 7)) (.v 8)) (.proj 5 (.v 1)), .c (.i .i64 0)])
def Gz0 : T := (.w (.chk (.bin .add (.v 6) (.v 7))) (.w (.call none true Aq8 [.proj 8 (.v 1), .c (.i .i64 1)] 1) Gz3))
def Gy7 : T := (.w (.call none true Aq8 [.proj 7 (.v 1), .c (.i .i64 1)] 1) Gz0)
def Gy4 : T := (.w (.call none true Aq8 [.proj 6 (.v 1), .c (.i .i64 2)] 1) Gy7)
def Gy1 : T := (.ret [.bin .add (.bin .add (.bin .add (.bin .add (.bin .add (.bin .add (.bin .add (.bin .add (.v 6) (.v 7)) (.v 8)) (.v 9)) (.v 10)) (.v 11)) (.v 12)) (.v 13)) (.proj 5 (.v 1)), .c (.i .i64 0)])
def Gx8 : T := (.w (.chk (.bin .add (.bin .add (.bin .add (.bin .add (.bin .add (.bin .add (.v 6) (.v 7)) (.v 8)) (.v 9)) (.v 10)) (.v 11)) (.v 12))) (.w (.call none true By5 [.proj 3 (.v 1)] 1) Gy1))
def Gx5 : T := (.w (.chk (.bin .add (.bin .add (.bin .add (.bin .add (.bin .add (.v 6) (.v 7)) (.v 8)) (.v 9)) (.v 10)) (.v 11))) (.w (.call none true Aq8 [.proj 11 (.v 1), .c (.i .i64 2)] 1) Gx8))
def Gx2 : T := (.w (.chk (.bin .add (.bin .add (.bin .add (.bin .add (.v 6) (.v 7)) (.v 8)) (.v 9)) (.v 10))) (.w (.call none true Aq8 [.proj 10 (.v 1), .c (.i .i64 4)] 1) Gx5))
def Gw9 : T := (.w (.chk (.bin .add (.bin .add (.bin .add (.v 6) (.v 7)) (.v 8)) (.v 9))) (.w (.call none true Aq8 [.proj 9 (.v 1), .c (.i .i64 4)] 1) Gx2))
def Gw6 : T := (.w (.chk (.bin .add (.bin .add (.v 6) (.v 7)) (.v 8))) (.w (.call none true Aq8 [.proj 8 (.v 1), .c (.i .i64 4)] 1) Gw9))
def Gw3 : T := (.w (.chk (.bin .add (.v 6) (.v 7))) (.w (.call none true Aq8 [.proj 7 (.v 1), .c (.i .i64 1)] 1) Gw6))
def Gw0 : T := (.w (.call none true Aq8 [.c (.i .i64 253), .c (.i .i64 1)] 1) Gw3)
def Gv7 : T := (.w (.call none true Aq8 [.proj 6 (.v 1), .c (.i .i64 2)] 1) Gw0)
def Gv4 : T := (.ret [.bin .add (.bin .add (.bin .add (.v 7) (.v 8)) (.v 9)) (.v 6), .c (.i .i64 0)])
def Gv1 : T := (.w (.chk (.bin .add (.v 7) (.v 8))) (.w (.call none true Aq8 [.slen (.v 6), .c (.i .i64 1)] 1) Gv4))
def Gq9 : T := (.w (.call none true Aq8 [.c (.i .i64 0), .c (.i .i64 1)] 1) Gv1)
def Gq7 : T := (.w (.call none true By5 [.proj 3 (.v 1)] 1) Gq9)
def Gq5 : T := (.w (.call none true Ix9 [.proj 12 (.v 1)] 1) Gq7)
def Gq3 : T := (.ite (.bin .eql (.v 0) (.c (.i .i64 47))) Gq5 (.yld 1 [.v 5]))
def Gq1 : T := (.ite (.bin .eql (.v 0) (.c (.i .i64 46))) Gv7 Gq3)
def Gk9 : T := (.ite (.v 5) Gy4 Gq1)
def Gk7 : T := (.blk 1 Gk9 (.yld 0 [.v 4]))
def Gk5 : T := (.blk 1 Gz6 Gk7)
def Gk3 : T := (.ite (.bin .eql (.v 0) (.c (.i .i64 33))) Hj7 Gk5)
def Gk1 : T := (.ite (.bin .eql (.v 0) (.c (.i .i64 16))) Hq9 Gk3)
def Gk0 : T := (.ite (.bin .eql (.v 0) (.c (.i .i64 15))) Hv7 Gk1)
def Gj9 : T := (.ite (.bin .eql (.v 0) (.c (.i .i64 6))) Hx0 Gk0)
def Gj8 : T := (.ite (.v 4) Kx3 Gj9)
def Gj7 : T := (.ret [.v 6, .c (.i .i64 0)])
def Gj6 : T := (.w (.call none true By5 [.proj 3 (.v 1)] 1) Gj7)
def Gj5 : T := (.blk 0 Gj8 Gj6)
def Gj4 : T := (.blk 0 Ky9 Gj5)
def Gj3 : T := (.ite (.un .not (.v 3)) Ly0 Gj4)
def Gj2 : T := (.w (.call none true Fk4 [.v 0, .sub 0 13 (.v 1)] 1) Gj3)
def Gj1 : T := (.ite (.un .not (.v 2)) My4 Gj2)
def Ev3 : T := (.w (.chk (.fit 13 (.v 1))) (.w (.call none true Cw8 [.v 0] 1) Gj1))
theorem Bj1 : type_of% (And.intro (tev_eq @My4.eq_1) (And.intro (tev_eq @Ly0.eq_1) (And.intro (tev_eq @Lq6.eq_1) (And.intro (tev_eq @Lj5.eq_1) (And.intro (tev_eq @Ky9.eq_1) (And.intro (tev_eq @Kx3.eq_1) (And.intro (tev_eq @Kw1.eq_1) (And.intro (tev_eq @Kv2.eq_1) (And.intro (tev_eq @Kq4.eq_1) (And.intro (tev_eq @Kk7.eq_1) (And.intro (tev_eq @Hy6.eq_1) (And.intro (tev_eq @Hy0.eq_1) (And.intro (tev_eq @Hx4.eq_1) (And.intro (tev_eq @Hx0.eq_1) (And.intro (tev_eq @Hw5.eq_1) (And.intro (tev_eq @Hw1.eq_1) (And.intro (tev_eq @Hv7.eq_1) (And.intro (tev_eq @Hv3.eq_1) (And.intro (tev_eq @Hq9.eq_1) (And.intro (tev_eq @Hq5.eq_1) (And.intro (tev_eq @Hq1.eq_1) (And.intro (tev_eq @Hk7.eq_1) (And.intro (tev_eq @Hk2.eq_1) (And.intro (tev_eq @Hj7.eq_1) (And.intro (tev_eq @Hj3.eq_1) (And.intro (tev_eq @Gz9.eq_1) (And.intro (tev_eq @Gz6.eq_1) (And.intro (tev_eq @Gz3.eq_1) (And.intro (tev_eq @Gz0.eq_1) (And.intro (tev_eq @Gy7.eq_1) (And.intro (tev_eq @Gy4.eq_1) (And.intro (tev_eq @Gy1.eq_1) (And.intro (tev_eq @Gx8.eq_1) (And.intro (tev_eq @Gx5.eq_1) (And.intro (tev_eq @Gx2.eq_1) (And.intro (tev_eq @Gw9.eq_1) (And.intro (tev_eq @Gw6.eq_1) (And.intro (tev_eq @Gw3.eq_1) (And.intro (tev_eq @Gw0.eq_1) (And.intro (tev_eq @Gv7.eq_1) (And.intro (tev_eq @Gv4.eq_1) (And.intro (tev_eq @Gv1.eq_1) (And.intro (tev_eq @Gq9.eq_1) (And.intro (tev_eq @Gq7.eq_1) (And.intro (tev_eq @Gq5.eq_1) (And.intro (tev_eq @Gq3.eq_1) (And.intro (tev_eq @Gq1.eq_1) (And.intro (tev_eq @Gk9.eq_1) (And.intro (tev_eq @Gk7.eq_1) (And.intro (tev_eq @Gk5.eq_1) (And.intro (tev_eq @Gk3.eq_1) (And.intro (tev_eq @Gk1.eq_1) (And.intro (tev_eq @Gk0.eq_1) (And.intro (tev_eq @Gj9.eq_1) (And.intro (tev_eq @Gj8.eq_1) (And.intro (tev_eq @Gj7.eq_1) (And.intro (tev_eq @Gj6.eq_1) (And.intro (tev_eq @Gj5.eq_1) (And.intro (tev_eq @Gj4.eq_1) (And.intro (tev_eq @Gj3.eq_1) (And.intro (tev_eq @Gj2.eq_1) (And.intro (tev_eq @Gj1.eq_1) (tev_eq @Ev3.eq_1))))))))))))))))))))))))))))))))))))))))))))))))))))))))))))))) := (And.intro (tev_eq @My4.eq_1) (And.intro (tev_eq @Ly0.eq_1) (And.intro (tev_eq @Lq6.eq_1) (And.intro (tev_eq @Lj5.eq_1) (And.intro (tev_eq @Ky9.eq_1) (And.intro (tev_eq @Kx3.eq_1) (And.intro (tev_eq @Kw1.eq_1) (And.intro (tev_eq @Kv2.eq_1) (And.intro (tev_eq @Kq4.eq_1) (And.intro (tev_eq @Kk7.eq_1) (And.intro (tev_eq @Hy6.eq_1) (And.intro (tev_eq @Hy0.eq_1) (And.intro (tev_eq @Hx4.eq_1) (And.intro (tev_eq @Hx0.eq_1) (And.intro (tev_eq @Hw5.eq_1) (And.intro (tev_eq @Hw1.eq_1) (And.intro (tev_eq @Hv7.eq_1) (And.intro (tev_eq @Hv3.eq_1) (And.intro (tev_eq @Hq9.eq_1) (And.intro (tev_eq @Hq5.eq_1) (And.intro (tev_eq @Hq1.eq_1) (And.intro (tev_eq @Hk7.eq_1) (And.intro (tev_eq @Hk2.eq_1) (And.intro (tev_eq @Hj7.eq_1) (And.intro (tev_eq @Hj3.eq_1) (And.intro (tev_eq @Gz9.eq_1) (And.intro (tev_eq @Gz6.eq_1) (And.intro (tev_eq @Gz3.eq_1) (And.intro (tev_eq @Gz0.eq_1) (And.intro (tev_eq @Gy7.eq_1) (And.intro (tev_eq @Gy4.eq_1) (And.intro (tev_eq @Gy1.eq_1) (And.intro (tev_eq @Gx8.eq_1) (And.intro (tev_eq @Gx5.eq_1) (And.intro (tev_eq @Gx2.eq_1) (And.intro (tev_eq @Gw9.eq_1) (And.intro (tev_eq @Gw6.eq_1) (And.intro (tev_eq @Gw3.eq_1) (And.intro (tev_eq @Gw0.eq_1) (And.intro (tev_eq @Gv7.eq_1) (And.intro (tev_eq @Gv4.eq_1) (And.intro (tev_eq @Gv1.eq_1) (And.intro (tev_eq @Gq9.eq_1) (And.intro (tev_eq @Gq7.eq_1) (And.intro (tev_eq @Gq5.eq_1) (And.intro (tev_eq @Gq3.eq_1) (And.intro (tev_eq @Gq1.eq_1) (And.intro (tev_eq @Gk9.eq_1) (And.intro (tev_eq @Gk7.eq_1) (And.intro (tev_eq @Gk5.eq_1) (And.intro (tev_eq @Gk3.eq_1) (And.intro (tev_eq @Gk1.eq_1) (And.intro (tev_eq @Gk0.eq_1) (And.intro (tev_eq @Gj9.eq_1) (And.intro (tev_eq @Gj8.eq_1) (And.intro (tev_eq @Gj7.eq_1) (And.intro (tev_eq @Gj6.eq_1) (And.intro (tev_eq @Gj5.eq_1) (And.intro (tev_eq @Gj4.eq_1) (And.intro (tev_eq @Gj3.eq_1) (And.intro (tev_eq @Gj2.eq_1) (And.intro (tev_eq @Gj1.eq_1) (tev_eq @Ev3.eq_1)))))))))))))))))))))))))))))))))))))))))))))))))))))))))))))))
def Ev2 : T := (.w (.call none true Nx5 [.v 0, .v 1] 1) (.ret [.v 2]))
theorem x_u189 : type_of% (tev_eq @Ev2.eq_1) := (tev_eq @Ev2.eq_1)
def Zk3 : T := (.ret [.scal (.c .u)])
def c0_u191 : T := (.ret [.conv .i32 (.sidx (.v 0) (.c (.i .i64 0))), .c (.i .i64 1)])
def c1_u191 : T := (.w (.call none true Sk6 [.v 0] 2) (.ret [.v 1, .v 2]))
def Zk2 : T := (.ite (.ite (.bin .neq (.v 0) (.c (.s []))) (.bin .lss (.sidx (.v 0) (.c (.i .i64 0))) (.c (.i .u8 128))) (.c (.b false))) c0_u191 c1_u191)
def My3 : T := (.w (.call none true Fj7 [.v 0, .sidx (.v 1) (.c (.i .i64 0))] 1) (.ret [.v 2]))
def Lx9 : T := (.ite (.bin .geq (.slen (.v 1)) (.slen (.v 0))) (.ret [.c (.i .i64 (-1))]) (.ret [.scal (.c .u)]))
def Lq5 : T := (.ite (.bin .eql (.slen (.v 1)) (.c (.i .i64 1))) My3 Lx9)
def Ev1 : T := (.ite (.ite (.bin .eql (.slen (.v 1)) (.c (.i .i64 0))) (.c (.b true)) (.bin .eql (.v 1) (.v 0))) (.ret [.c (.i .i64 0)]) Lq5)
theorem Zj4 : type_of% (And.intro (tev_eq @My3.eq_1) (And.intro (tev_eq @Lx9.eq_1) (And.intro (tev_eq @Lq5.eq_1) (tev_eq @Ev1.eq_1)))) := (And.intro (tev_eq @My3.eq_1) (And.intro (tev_eq @Lx9.eq_1) (And.intro (tev_eq @Lq5.eq_1) (tev_eq @Ev1.eq_1))))
def My2 : T := (.ret [.c (.s []), .c (.i .i64 3)])
def Lx8 : T := (.ret [.bin .add (.v 2) (.v 3), .c (.i .i64 0)])
def Lq4 : T := (.w (.call none true Dy5 [.proj 2 (.v 0), .c (.i .i64 8)] 1) Lx8)
def Lj4 : T := (.w (.call none true Dy5 [.proj 1 (.v 0), .c (.i .i64 8)] 1) Lq4)
def Ky8 : T := (.ret [.v 2, .c (.i .i64 0)])
def Kx2 : T := (.w (.call none true Dy5 [.proj 2 (.v 0), .c (.i .i64 4)] 1) Ky8)
def Kw0 : T := (.ite (.proj 0 (.v 0)) Lj4 Kx2)
def Kv1 : T := (.ite (.un .not (.v 1)) My2 Kw0)
def Ev0 : T := (.w (.chk (.fit 3 (.v 0))) (.w (.call none true Fj9 [.sub 0 3 (.v 0)] 1) Kv1))
theorem x_u206 : type_of% (And.intro (tev_eq @My2.eq_1) (And.intro (tev_eq @Lx8.eq_1) (And.intro (tev_eq @Lq4.eq_1) (And.intro (tev_eq @Lj4.eq_1) (And.intro (tev_eq @Ky8.eq_1) (And.intro (tev_eq @Kx2.eq_1) (And.intro (tev_eq @Kw0.eq_1) (And.intro (tev_eq @Kv1.eq_1) (tev_eq @Ev0.eq_1))))))))) := (And.intro (tev_eq @My2.eq_1) (And.intro (tev_eq @Lx8.eq_1) (And.intro (tev_eq @Lq4.eq_1) (And.intro (tev_eq @Lj4.eq_1) (And.intro (tev_eq @Ky8.eq_1) (And.intro (tev_eq @Kx2.eq_1) (And.intro (tev_eq @Kw0.eq_1) (And.intro (tev_eq @Kv1.eq_1) (tev_eq @Ev0.eq_1)))))))))
def My1 : T := (.yld 1 [.bin .add (.v 2) (.bin .add (.v 4) (.proj 0 (.idx 1 (.v 1) (.v 3)))), .bin .add (.v 3) (.c (.i .i64 1))])
def Lx7 : T := (.w (.call none true Aq8 [.slen (.proj 0 (.idx 1 (.v 1) (.v 3))), .c (.i .i64 1)] 1) My1)
def Hz6 : T := (.ite (.bin .lss (.v 3) (.len (.v 1))) Lx7 (.yld 0 [.v 2]))
def Jz7 : T := .loop 1 [.c (.s []), .c (.i .i64 0)] Hz6
def Lq3 : T := (.ret [.bin .add (.v 2) (.v 3)])
def Lj3 : T := (.w (.call none true Aq8 [.c (.i .i64 0), .c (.i .i64 1)] 1) Lq3)
def Ky7 : T := (.blk 0 Jz7 Lj3)
def Eq9 : T := (.w (.call none false Ek9 [.v 0] 1) Ky7)
theorem Qv0 : type_of% (And.intro (tev_eq @My1.eq_1) (And.intro (tev_eq @Lx7.eq_1) (And.intro (tev_eq @Hz6.eq_1) (And.intro (tev_eq @Lq3.eq_1) (And.intro (tev_eq @Lj3.eq_1) (And.intro (tev_eq @Ky7.eq_1) (tev_eq @Eq9.eq_1))))))) := (And.intro (tev_eq @My1.eq_1) (And.intro (tev_eq @Lx7.eq_1) (And.intro (tev_eq @Hz6.eq_1) (And.intro (tev_eq @Lq3.eq_1) (And.intro (tev_eq @Lj3.eq_1) (And.intro (tev_eq @Ky7.eq_1) (tev_eq @Eq9.eq_1)))))))
def My0 : T := (.yld 3 [.bin .quo (.v 4) (.c (.i .i64 256)), .bin .add (.v 5) (.c (.i .i64 1))])
def Nk4 : T := (.ite (.bin .lss (.v 5) (.v 3)) My0 (.yld 2 [.v 4]))
def Sw0 : T := .loop 3 [.v 0, .c (.i .i64 0)] Nk4
def Lx6 : T := (.w (.chk (.scal (.conv .u8 (.bin .rem (.v 4) (.c (.i .i64 256)))))) (.yld 1 [.app 1 (.v 2) (.lit 1 [.conv .u8 (.bin .rem (.v 4) (.c (.i .i64 256)))]), .bin .sub (.v 3) (.c (.i .i64 1))]))
def Lq2 : T := (.blk 2 Sw0 Lx6)
def Hz5 : T := (.ite (.bin .geq (.v 3) (.c (.i .i64 0))) Lq2 (.yld 0 [.v 2]))
def Jz6 : T := .loop 1 [.c (.l 1 []), .bin .sub (.v 1) (.c (.i .i64 1))] Hz5
def Eq8 : T := (.blk 0 Jz6 (.ret [.b2s (.v 2)]))
theorem Ik5 : type_of% (And.intro (tev_eq @My0.eq_1) (And.intro (tev_eq @Nk4.eq_1) (And.intro (tev_eq @Lx6.eq_1) (And.intro (tev_eq @Lq2.eq_1) (And.intro (tev_eq @Hz5.eq_1) (tev_eq @Eq8.eq_1)))))) := (And.intro (tev_eq @My0.eq_1) (And.intro (tev_eq @Nk4.eq_1) (And.intro (tev_eq @Lx6.eq_1) (And.intro (tev_eq @Lq2.eq_1) (And.intro (tev_eq @Hz5.eq_1) (tev_eq @Eq8.eq_1))))))
def Mx9 : T := (.yld 3 [.bin .add (.bin .mul (.v 4) (.c (.i .i64 2))) (.conv .i64 (.bin .and (.bin .shr (.v 0) (.conv .u64 (.bin .add (.bin .mul (.v 3) (.c (.i .i64 8))) (.v 5)))) (.c (.i .u64 1)))), .bin .add (.v 5) (.c (.i .i64 1))])
def Nk3 : T := (.ite (.bin .lss (.v 5) (.c (.i .i64 8))) Mx9 (.yld 2 [.v 4]))
def Sv9 : T := .loop 3 [.c (.i .i64 0), .c (.i .i64 0)] Nk3
def Lx5 : T := (.yld 1 [.app 1 (.v 1) (.lit 1 [.conv .u8 (.v 4)]), .bin .add (.v 3) (.c (.i .i64 1)), .bin .add (.v 3) (.c (.i .i64 1))])
def Lq1 : T := (.yld 1 [.app 1 (.v 1) (.lit 1 [.conv .u8 (.v 4)]), .v 2, .bin .add (.v 3) (.c (.i .i64 1))])
def Lj2 : T := (.w (.chk (.scal (.conv .u8 (.v 4)))) (.ite (.bin .neq (.v 4) (.c (.i .i64 0))) Lx5 Lq1))
def Ky6 : T := (.blk 2 Sv9 Lj2)
def Nk6 : T := (.ite (.bin .lss (.v 3) (.c (.i .i64 8))) Ky6 (.yld 0 [.v 1, .v 2]))
def Sw4 : T := .loop 1 [.c (.l 1 []), .c (.i .i64 0), .c (.i .i64 0)] Nk6
def Kx1 : T := (.ret [.b2s (.lsl 1 (.v 1) (.c (.i .i64 0)) (.v 2))])
def Eq7 : T := (.blk 0 Sw4 Kx1)
theorem Eq2 : type_of% (And.intro (tev_eq @Mx9.eq_1) (And.intro (tev_eq @Nk3.eq_1) (And.intro (tev_eq @Lx5.eq_1) (And.intro (tev_eq @Lq1.eq_1) (And.intro (tev_eq @Lj2.eq_1) (And.intro (tev_eq @Ky6.eq_1) (And.intro (tev_eq @Nk6.eq_1) (And.intro (tev_eq @Kx1.eq_1) (tev_eq @Eq7.eq_1))))))))) := (And.intro (tev_eq @Mx9.eq_1) (And.intro (tev_eq @Nk3.eq_1) (And.intro (tev_eq @Lx5.eq_1) (And.intro (tev_eq @Lq1.eq_1) (And.intro (tev_eq @Lj2.eq_1) (And.intro (tev_eq @Ky6.eq_1) (And.intro (tev_eq @Nk6.eq_1) (And.intro (tev_eq @Kx1.eq_1) (tev_eq @Eq7.eq_1)))))))))
def c0_u214 : T := (.ret [.c (.i .i32 65533), .c (.i .i64 0)])
def c1_u214 : T := (.w (.chk (.sidx (.v 0) (.c (.i .i64 0)))) (.ret [.scal (.c .u)]))
def Zk1 : T := (.ite (.bin .lss (.slen (.v 0)) (.c (.i .i64 1))) c0_u214 c1_u214)
def Mx8 : T := (.yld 3 [.bin .quo (.v 4) (.c (.i .u64 256)), .bin .add (.v 5) (.c (.i .i64 1))])
def Nk2 : T := (.ite (.bin .lss (.v 5) (.v 3)) Mx8 (.yld 2 [.v 4]))
def Sv8 : T := .loop 3 [.v 0, .c (.i .i64 0)] Nk2
def Lx4 : T := (.w (.chk (.scal (.conv .u8 (.bin .rem (.v 4) (.c (.i .u64 256)))))) (.yld 1 [.app 1 (.v 2) (.lit 1 [.conv .u8 (.bin .rem (.v 4) (.c (.i .u64 256)))]), .bin .sub (.v 3) (.c (.i .i64 1))]))
def Lq0 : T := (.blk 2 Sv8 Lx4)
def Hz4 : T := (.ite (.bin .geq (.v 3) (.c (.i .i64 0))) Lq0 (.yld 0 [.v 2]))
def Jz5 : T := .loop 1 [.c (.l 1 []), .bin .sub (.v 1) (.c (.i .i64 1))] Hz4
def Eq6 : T := (.blk 0 Jz5 (.ret [.b2s (.v 2)]))
theorem Ik4 : type_of% (And.intro (tev_eq @Mx8.eq_1) (And.intro (tev_eq @Nk2.eq_1) (And.intro (tev_eq @Lx4.eq_1) (And.intro (tev_eq @Lq0.eq_1) (And.intro (tev_eq @Hz4.eq_1) (tev_eq @Eq6.eq_1)))))) := (And.intro (tev_eq @Mx8.eq_1) (And.intro (tev_eq @Nk2.eq_1) (And.intro (tev_eq @Lx4.eq_1) (And.intro (tev_eq @Lq0.eq_1) (And.intro (tev_eq @Hz4.eq_1) (tev_eq @Eq6.eq_1))))))

abbrev sg : Nat → Option Nat := (Sq8 [(31, 56), (40, 56), (45, 824633737216), (93, 1099511627986), (98, 56), (99, 1099511627888), (101, 1099511627889), (117, 1099511627794), (119, 1099511627795), (120, 1099511627889), (135, 1099511627888), (161, 1099511627986), (173, 1099511627888), (174, 1099511627888), (181, 1099511627794), (200, 1099511627888), (219, 1099511627888)])
theorem k_u4 : FOK Go.Proofs.Tryz.prog sg n_u4 ⟨2, 0, t_u4⟩ :=
 ⟨Go.Proofs.Tryz.f4, { loops := [(0, ⟨rg [(4, 1), (61, 16)], [.t 9]⟩)], blks := [(0, ⟨rg [(4, 1), (9, 1), (61, 16)], []⟩)] }, by kernel_rfl, by kernel_rfl, by kernel_rfl, Nat.le_of_ble_eq_true (by kernel_rfl), by kernel_rfl, Aj5 (by kernel_rfl)⟩
theorem k_u10 : FOK Go.Proofs.Tryz.prog sg Sq4 ⟨1, 0, Pk3⟩ :=
 ⟨Go.Proofs.Tryz.f10, {  }, by kernel_rfl, by kernel_rfl, by kernel_rfl, Nat.le_of_ble_eq_true (by kernel_rfl), by kernel_rfl, Aj5 (by kernel_rfl)⟩
theorem k_u11 : FOK Go.Proofs.Tryz.prog sg Sq3 ⟨2, 0, Pk2⟩ :=
 ⟨Go.Proofs.Tryz.f11, {  }, by kernel_rfl, by kernel_rfl, by kernel_rfl, Nat.le_of_ble_eq_true (by kernel_rfl), by kernel_rfl, Aj5 (by kernel_rfl)⟩
theorem k_u12 : FOK Go.Proofs.Tryz.prog sg Sq2 ⟨2, 0, Pk1⟩ :=
 ⟨Go.Proofs.Tryz.f12, {  }, by kernel_rfl, by kernel_rfl, by kernel_rfl, Nat.le_of_ble_eq_true (by kernel_rfl), by kernel_rfl, Aj5 (by kernel_rfl)⟩
theorem k_u13 : FOK Go.Proofs.Tryz.prog sg Sq1 ⟨2, 0, Pk0⟩ :=
 ⟨Go.Proofs.Tryz.f13, { own := [77826], loops := [(0, ⟨rg [(2, 1), (5, 9), (17, 127)], [.ta 15 16000015 56 16, .t 16]⟩)], blks := [(0, ⟨rg [(2, 1), (5, 9), (16, 128)], [.ta 15 16000015 56 16]⟩)], conds := [(79, ⟨[], [.t 9]⟩)] }, by kernel_rfl, by kernel_rfl, by kernel_rfl, Nat.le_of_ble_eq_true (by kernel_rfl), by kernel_rfl, Aj5 (by kernel_rfl)⟩
theorem k_u14 : FOK Go.Proofs.Tryz.prog sg Pz3 ⟨2, 0, Pj9⟩ :=
 ⟨Go.Proofs.Tryz.f14, { own := [8194], loops := [(0, ⟨rg [(4, 2), (8, 53)], [.ta 6 16000006 31 5, .ta 7 16000007 9 1, .c 1 0]⟩)], blks := [(0, ⟨rg [(4, 5), (12, 49)], [.c 1 0]⟩)] }, by kernel_rfl, by kernel_rfl, by kernel_rfl, Nat.le_of_ble_eq_true (by kernel_rfl), by kernel_rfl, Aj5 (by kernel_rfl)⟩
theorem k_u15 : FOK Go.Proofs.Tryz.prog sg Yq4 ⟨0, 0, t_u15⟩ :=
 ⟨Go.Proofs.Tryz.f15, {  }, by kernel_rfl, by kernel_rfl, by kernel_rfl, Nat.le_of_ble_eq_true (by kernel_rfl), by kernel_rfl, Aj5 (by kernel_rfl)⟩
theorem k_u16 : FOK Go.Proofs.Tryz.prog sg Sk9 ⟨2, 0, Pj8⟩ :=
 ⟨Go.Proofs.Tryz.f16, { own := [8194], loops := [(0, ⟨rg [(4, 2), (9, 57)], [.ta 6 16000006 33 5, .ta 7 16000007 9 1, .t 8]⟩), (2, ⟨rg [(4, 2), (46, 14)], [.t 10]⟩)], blks := [(0, ⟨rg [(2, 4), (7, 59)], [.ta 6 16000006 33 5]⟩), (2, ⟨rg [(4, 2), (10, 1), (46, 14)], []⟩)] }, by kernel_rfl, by kernel_rfl, by kernel_rfl, Nat.le_of_ble_eq_true (by kernel_rfl), by kernel_rfl, Aj5 (by kernel_rfl)⟩
theorem k_u19 : FOK Go.Proofs.Tryz.prog sg Sk8 ⟨2, 0, Pj7⟩ :=
 ⟨Go.Proofs.Tryz.f19, { loops := [(0, ⟨rg [(4, 1), (11, 15)], [.t 5]⟩)], blks := [(0, ⟨rg [(4, 2), (11, 15)], []⟩)] }, by kernel_rfl, by kernel_rfl, by kernel_rfl, Nat.le_of_ble_eq_true (by kernel_rfl), by kernel_rfl, Aj5 (by kernel_rfl)⟩
theorem k_u23 : FOK Go.Proofs.Tryz.prog sg Dk9 ⟨2, 0, Pj6⟩ :=
 ⟨Go.Proofs.Tryz.f23, {  }, by kernel_rfl, by kernel_rfl, by kernel_rfl, Nat.le_of_ble_eq_true (by kernel_rfl), by kernel_rfl, Aj5 (by kernel_rfl)⟩
theorem k_u25 : FOK Go.Proofs.Tryz.prog sg Sk5 ⟨1, 0, Pj5⟩ :=
 ⟨Go.Proofs.Tryz.f25, { loops := [(0, ⟨rg [(2, 1), (15, 24)], [.t 3]⟩), (2, ⟨rg [(2, 1), (39, 14)], [.t 4]⟩), (4, ⟨rg [(2, 1), (6, 1), (75, 42)], [.t 5]⟩)], blks := [(0, ⟨rg [(2, 2), (15, 24)], []⟩), (2, ⟨rg [(2, 1), (4, 1), (39, 14)], []⟩), (4, ⟨rg [(2, 1), (5, 2), (75, 42)], []⟩)] }, by kernel_rfl, by kernel_rfl, by kernel_rfl, Nat.le_of_ble_eq_true (by kernel_rfl), by kernel_rfl, Aj5 (by kernel_rfl)⟩
theorem k_u26 : FOK Go.Proofs.Tryz.prog sg Sk4 ⟨2, 0, Pj4⟩ :=
 ⟨Go.Proofs.Tryz.f26, { loops := [(0, ⟨rg [(8, 1), (13, 41)], [.t 6, .t 12]⟩)], blks := [(0, ⟨rg [(8, 1), (12, 42)], [.t 6]⟩)] }, by kernel_rfl, by kernel_rfl, by kernel_rfl, Nat.le_of_ble_eq_true (by kernel_rfl), by kernel_rfl, Aj5 (by kernel_rfl)⟩
theorem k_u27 : FOK Go.Proofs.Tryz.prog sg Pz2 ⟨3, 0, Pj3⟩ :=
 ⟨Go.Proofs.Tryz.f27, {  }, by kernel_rfl, by kernel_rfl, by kernel_rfl, Nat.le_of_ble_eq_true (by kernel_rfl), by kernel_rfl, Aj5 (by kernel_rfl)⟩
theorem k_u28 : FOK Go.Proofs.Tryz.prog sg Sk3 ⟨2, 0, Pj2⟩ :=
 ⟨Go.Proofs.Tryz.f28, { loops := [(0, ⟨rg [(5, 1), (7, 5), (13, 41)], [.t 6, .c 1 0, .c 1 1, .c 1 2, .c 1 3, .c 1 4]⟩)], blks := [(0, ⟨rg [(5, 7), (13, 41)], [.c 1 0, .c 1 1, .c 1 2, .c 1 3, .c 1 4]⟩)], conds := [(47, ⟨[], [.t 10]⟩)] }, by kernel_rfl, by kernel_rfl, by kernel_rfl, Nat.le_of_ble_eq_true (by kernel_rfl), by kernel_rfl, Aj5 (by kernel_rfl)⟩
theorem k_u29 : FOK Go.Proofs.Tryz.prog sg Sk2 ⟨2, 0, Pj1⟩ :=
 ⟨Go.Proofs.Tryz.f29, {  }, by kernel_rfl, by kernel_rfl, by kernel_rfl, Nat.le_of_ble_eq_true (by kernel_rfl), by kernel_rfl, Aj5 (by kernel_rfl)⟩
theorem k_u30 : FOK Go.Proofs.Tryz.prog sg Pz1 ⟨2, 0, Pj0⟩ :=
 ⟨Go.Proofs.Tryz.f30, {  }, by kernel_rfl, by kernel_rfl, by kernel_rfl, Nat.le_of_ble_eq_true (by kernel_rfl), by kernel_rfl, Aj5 (by kernel_rfl)⟩
theorem k_u31 : FOK Go.Proofs.Tryz.prog sg Pz0 ⟨2, 0, Oz9⟩ :=
 ⟨Go.Proofs.Tryz.f31, { loops := [(0, ⟨rg [(2, 1), (4, 1), (7, 2), (12, 13)], [.ta 5 16000005 56 16, .t 11]⟩)], blks := [(0, ⟨rg [(2, 1), (4, 1), (7, 18)], [.ta 5 16000005 56 16]⟩)] }, by kernel_rfl, by kernel_rfl, by kernel_rfl, Nat.le_of_ble_eq_true (by kernel_rfl), by kernel_rfl, Aj5 (by kernel_rfl)⟩
theorem k_u32 : FOK Go.Proofs.Tryz.prog sg Sk1 ⟨2, 0, Oz8⟩ :=
 ⟨Go.Proofs.Tryz.f32, { own := [20482], loops := [(0, ⟨rg [(2, 1), (5, 3), (10, 29), (41, 17)], [.ta 9 16000009 56 16, .t 40]⟩)], blks := [(0, ⟨rg [(2, 1), (5, 3), (10, 48)], [.ta 9 16000009 56 16]⟩)] }, by kernel_rfl, by kernel_rfl, by kernel_rfl, Nat.le_of_ble_eq_true (by kernel_rfl), by kernel_rfl, Aj5 (by kernel_rfl)⟩
theorem k_u33 : FOK Go.Proofs.Tryz.prog sg Dk8 ⟨2, 0, Oz7⟩ :=
 ⟨Go.Proofs.Tryz.f33, {  }, by kernel_rfl, by kernel_rfl, by kernel_rfl, Nat.le_of_ble_eq_true (by kernel_rfl), by kernel_rfl, Aj5 (by kernel_rfl)⟩
theorem k_u34 : FOK Go.Proofs.Tryz.prog sg Py9 ⟨2, 0, Oz6⟩ :=
 ⟨Go.Proofs.Tryz.f34, { loops := [(0, ⟨rg [(8, 43)], [.t 6, .t 7]⟩)], blks := [(0, ⟨rg [(7, 44)], [.t 6]⟩)] }, by kernel_rfl, by kernel_rfl, by kernel_rfl, Nat.le_of_ble_eq_true (by kernel_rfl), by kernel_rfl, Aj5 (by kernel_rfl)⟩
theorem k_u35 : FOK Go.Proofs.Tryz.prog sg Jz0 ⟨3, 0, Oz5⟩ :=
 ⟨Go.Proofs.Tryz.f35, {  }, by kernel_rfl, by kernel_rfl, by kernel_rfl, Nat.le_of_ble_eq_true (by kernel_rfl), by kernel_rfl, Aj5 (by kernel_rfl)⟩
theorem k_u36 : FOK Go.Proofs.Tryz.prog sg Sk0 ⟨2, 0, Oz4⟩ :=
 ⟨Go.Proofs.Tryz.f36, { loops := [(0, ⟨rg [(4, 2), (7, 26)], [.t 1, .t 6]⟩)], blks := [(0, ⟨rg [(1, 1), (4, 29)], []⟩)] }, by kernel_rfl, by kernel_rfl, by kernel_rfl, Nat.le_of_ble_eq_true (by kernel_rfl), by kernel_rfl, Aj5 (by kernel_rfl)⟩
theorem k_u37 : FOK Go.Proofs.Tryz.prog sg Sj9 ⟨3, 0, Oz3⟩ :=
 ⟨Go.Proofs.Tryz.f37, {  }, by kernel_rfl, by kernel_rfl, by kernel_rfl, Nat.le_of_ble_eq_true (by kernel_rfl), by kernel_rfl, Aj5 (by kernel_rfl)⟩
theorem k_u38 : FOK Go.Proofs.Tryz.prog sg Sj8 ⟨2, 0, Oz2⟩ :=
 ⟨Go.Proofs.Tryz.f38, { loops := [(0, ⟨rg [(4, 1), (9, 12)], [.t 6]⟩)], blks := [(0, ⟨rg [(4, 1), (6, 1), (9, 12)], []⟩)] }, by kernel_rfl, by kernel_rfl, by kernel_rfl, Nat.le_of_ble_eq_true (by kernel_rfl), by kernel_rfl, Aj5 (by kernel_rfl)⟩
theorem k_u39 : FOK Go.Proofs.Tryz.prog sg Py8 ⟨2, 0, Oz1⟩ :=
 ⟨Go.Proofs.Tryz.f39, { loops := [(0, ⟨rg [(7, 64)], [.ta 5 16000005 56 16, .t 6, .c 0 0, .c 0 1, .c 0 2, .c 0 3, .c 0 4]⟩)], blks := [(0, ⟨rg [(6, 65)], [.ta 5 16000005 56 16, .c 0 0, .c 0 1, .c 0 2, .c 0 3, .c 0 4]⟩)] }, by kernel_rfl, by kernel_rfl, by kernel_rfl, Nat.le_of_ble_eq_true (by kernel_rfl), by kernel_rfl, Aj5 (by kernel_rfl)⟩
theorem k_u40 : FOK Go.Proofs.Tryz.prog sg Py7 ⟨2, 0, Oz0⟩ :=
 ⟨Go.Proofs.Tryz.f40, { loops := [(0, ⟨rg [(4, 1), (7, 24)], [.ta 5 16000005 56 16, .t 6]⟩)], blks := [(0, ⟨rg [(2, 1), (4, 1), (6, 25)], [.ta 5 16000005 56 16]⟩)] }, by kernel_rfl, by kernel_rfl, by kernel_rfl, Nat.le_of_ble_eq_true (by kernel_rfl), by kernel_rfl, Aj5 (by kernel_rfl)⟩
theorem k_u41 : FOK Go.Proofs.Tryz.prog sg Sj7 ⟨2, 0, Oy9⟩ :=
 ⟨Go.Proofs.Tryz.f41, { loops := [(0, ⟨rg [(11, 32)], [.t 6, .t 8]⟩)], blks := [(0, ⟨rg [(8, 1), (11, 32)], [.t 6]⟩)] }, by kernel_rfl, by kernel_rfl, by kernel_rfl, Nat.le_of_ble_eq_true (by kernel_rfl), by kernel_rfl, Aj5 (by kernel_rfl)⟩
theorem k_u42 : FOK Go.Proofs.Tryz.prog sg Sj6 ⟨1, 0, Oy8⟩ :=
 ⟨Go.Proofs.Tryz.f42, { conds := [(26, ⟨[27, 28], [.t 6]⟩)] }, by kernel_rfl, by kernel_rfl, by kernel_rfl, Nat.le_of_ble_eq_true (by kernel_rfl), by kernel_rfl, Aj5 (by kernel_rfl)⟩
theorem k_u43 : FOK Go.Proofs.Tryz.prog sg Ix8 ⟨2, 0, Oy7⟩ :=
 ⟨Go.Proofs.Tryz.f43, {  }, by kernel_rfl, by kernel_rfl, by kernel_rfl, Nat.le_of_ble_eq_true (by kernel_rfl), by kernel_rfl, Aj5 (by kernel_rfl)⟩
theorem k_u44 : FOK Go.Proofs.Tryz.prog sg Sj5 ⟨1, 0, Oy6⟩ :=
 ⟨Go.Proofs.Tryz.f44, {  }, by kernel_rfl, by kernel_rfl, by kernel_rfl, Nat.le_of_ble_eq_true (by kernel_rfl), by kernel_rfl, Aj5 (by kernel_rfl)⟩
theorem k_u55 : FOK Go.Proofs.Tryz.prog sg Cq5 ⟨1, 0, Oy5⟩ :=
 ⟨Go.Proofs.Tryz.f55, { loops := [(0, ⟨rg [(2, 3), (23, 16)], [.t 22]⟩)], blks := [(0, ⟨rg [(2, 3), (22, 17)], []⟩)] }, by kernel_rfl, by kernel_rfl, by kernel_rfl, Nat.le_of_ble_eq_true (by kernel_rfl), by kernel_rfl, Aj5 (by kernel_rfl)⟩
theorem k_u65 : FOK Go.Proofs.Tryz.prog sg Py6 ⟨2, 0, Oy4⟩ :=
 ⟨Go.Proofs.Tryz.f65, {  }, by kernel_rfl, by kernel_rfl, by kernel_rfl, Nat.le_of_ble_eq_true (by kernel_rfl), by kernel_rfl, Aj5 (by kernel_rfl)⟩
theorem k_u66 : FOK Go.Proofs.Tryz.prog sg Eq0 ⟨1, 0, Oy3⟩ :=
 ⟨Go.Proofs.Tryz.f66, {  }, by kernel_rfl, by kernel_rfl, by kernel_rfl, Nat.le_of_ble_eq_true (by kernel_rfl), by kernel_rfl, Aj5 (by kernel_rfl)⟩
theorem k_u67 : FOK Go.Proofs.Tryz.prog sg Ix7 ⟨3, 0, Oy2⟩ :=
 ⟨Go.Proofs.Tryz.f67, { loops := [(0, ⟨rg [(6, 1), (9, 30)], [.ta 7 16000007 56 16, .t 8]⟩)], blks := [(0, ⟨rg [(6, 1), (8, 31)], [.ta 7 16000007 56 16]⟩)] }, by kernel_rfl, by kernel_rfl, by kernel_rfl, Nat.le_of_ble_eq_true (by kernel_rfl), by kernel_rfl, Aj5 (by kernel_rfl)⟩
theorem k_u68 : FOK Go.Proofs.Tryz.prog sg Sj4 ⟨1, 0, Oy1⟩ :=
 ⟨Go.Proofs.Tryz.f68, {  }, by kernel_rfl, by kernel_rfl, by kernel_rfl, Nat.le_of_ble_eq_true (by kernel_rfl), by kernel_rfl, Aj5 (by kernel_rfl)⟩
theorem k_u69 : FOK Go.Proofs.Tryz.prog sg Sj3 ⟨2, 0, Oy0⟩ :=
 ⟨Go.Proofs.Tryz.f69, { loops := [(0, ⟨rg [(4, 1), (11, 15)], [.t 5]⟩)], blks := [(0, ⟨rg [(4, 2), (11, 15)], []⟩)] }, by kernel_rfl, by kernel_rfl, by kernel_rfl, Nat.le_of_ble_eq_true (by kernel_rfl), by kernel_rfl, Aj5 (by kernel_rfl)⟩
theorem k_u70 : FOK Go.Proofs.Tryz.prog sg Sj2 ⟨1, 0, Ox9⟩ :=
 ⟨Go.Proofs.Tryz.f70, { loops := [(0, ⟨rg [(2, 1), (5, 79)], [.ta 3 16000003 56 16, .t 4]⟩), (2, ⟨rg [(13, 18)], [.t 5]⟩)], blks := [(0, ⟨rg [(2, 1), (4, 80)], [.ta 3 16000003 56 16]⟩), (2, ⟨rg [(13, 18)], [.t 5]⟩)], conds := [(57, ⟨rg [(2, 1), (5, 79)], [.ta 3 16000003 56 16]⟩)] }, by kernel_rfl, by kernel_rfl, by kernel_rfl, Nat.le_of_ble_eq_true (by kernel_rfl), by kernel_rfl, Aj5 (by kernel_rfl)⟩
theorem k_u71 : FOK Go.Proofs.Tryz.prog sg Py5 ⟨3, 0, Ox8⟩ :=
 ⟨Go.Proofs.Tryz.f71, {  }, by kernel_rfl, by kernel_rfl, by kernel_rfl, Nat.le_of_ble_eq_true (by kernel_rfl), by kernel_rfl, Aj5 (by kernel_rfl)⟩
theorem k_u72 : FOK Go.Proofs.Tryz.prog sg Sj1 ⟨2, 0, Ox7⟩ :=
 ⟨Go.Proofs.Tryz.f72, { loops := [(0, ⟨rg [(4, 1), (6, 68)], [.t 5]⟩)], blks := [(0, ⟨rg [(4, 70)], []⟩)] }, by kernel_rfl, by kernel_rfl, by kernel_rfl, Nat.le_of_ble_eq_true (by kernel_rfl), by kernel_rfl, Aj5 (by kernel_rfl)⟩
theorem k_u73 : FOK Go.Proofs.Tryz.prog sg Sj0 ⟨2, 0, Ox6⟩ :=
 ⟨Go.Proofs.Tryz.f73, { loops := [(0, ⟨rg [(4, 1), (7, 1), (30, 49)], [.t 6]⟩)], blks := [(0, ⟨rg [(4, 1), (6, 2), (30, 49)], []⟩)] }, by kernel_rfl, by kernel_rfl, by kernel_rfl, Nat.le_of_ble_eq_true (by kernel_rfl), by kernel_rfl, Aj5 (by kernel_rfl)⟩
theorem k_u74 : FOK Go.Proofs.Tryz.prog sg Rz9 ⟨3, 0, Ox5⟩ :=
 ⟨Go.Proofs.Tryz.f74, { loops := [(0, ⟨rg [(6, 1), (9, 1), (13, 19)], [.ta 7 16000007 56 16, .t 12]⟩)], blks := [(0, ⟨rg [(6, 1), (9, 23)], [.ta 7 16000007 56 16]⟩)] }, by kernel_rfl, by kernel_rfl, by kernel_rfl, Nat.le_of_ble_eq_true (by kernel_rfl), by kernel_rfl, Aj5 (by kernel_rfl)⟩
theorem k_u75 : FOK Go.Proofs.Tryz.prog sg Jy9 ⟨1, 0, Ox4⟩ :=
 ⟨Go.Proofs.Tryz.f75, {  }, by kernel_rfl, by kernel_rfl, by kernel_rfl, Nat.le_of_ble_eq_true (by kernel_rfl), by kernel_rfl, Aj5 (by kernel_rfl)⟩
theorem k_u76 : FOK Go.Proofs.Tryz.prog sg Rz8 ⟨3, 0, Ox3⟩ :=
 ⟨Go.Proofs.Tryz.f76, { conds := [(39, ⟨[40, 41, 42], [.t 8]⟩), (47, ⟨[48], [.t 9]⟩)] }, by kernel_rfl, by kernel_rfl, by kernel_rfl, Nat.le_of_ble_eq_true (by kernel_rfl), by kernel_rfl, Aj5 (by kernel_rfl)⟩
theorem k_u77 : FOK Go.Proofs.Tryz.prog sg Py4 ⟨1, 0, Ox2⟩ :=
 ⟨Go.Proofs.Tryz.f77, { loops := [(0, ⟨rg [(2, 1), (6, 7), (16, 33)], [.ta 3 16000003 9 1, .t 15]⟩), (2, ⟨rg [(2, 1), (6, 2), (9, 4), (16, 33)], [.ta 3 16000003 9 1, .t 8]⟩)], blks := [(0, ⟨rg [(1, 2), (4, 1), (6, 43)], [.ta 3 16000003 9 1]⟩), (2, ⟨rg [(2, 1), (6, 7), (16, 33)], [.ta 3 16000003 9 1]⟩)] }, by kernel_rfl, by kernel_rfl, by kernel_rfl, Nat.le_of_ble_eq_true (by kernel_rfl), by kernel_rfl, Aj5 (by kernel_rfl)⟩
theorem k_u78 : FOK Go.Proofs.Tryz.prog sg Py3 ⟨2, 0, Ox1⟩ :=
 ⟨Go.Proofs.Tryz.f78, { own := [12289] }, by kernel_rfl, by kernel_rfl, by kernel_rfl, Nat.le_of_ble_eq_true (by kernel_rfl), by kernel_rfl, Aj5 (by kernel_rfl)⟩
theorem k_u79 : FOK Go.Proofs.Tryz.prog sg Rz7 ⟨1, 0, Ox0⟩ :=
 ⟨Go.Proofs.Tryz.f79, {  }, by kernel_rfl, by kernel_rfl, by kernel_rfl, Nat.le_of_ble_eq_true (by kernel_rfl), by kernel_rfl, Aj5 (by kernel_rfl)⟩
theorem k_u80 : FOK Go.Proofs.Tryz.prog sg Rz6 ⟨2, 0, Ow9⟩ :=
 ⟨Go.Proofs.Tryz.f80, { loops := [(0, ⟨rg [(4, 2), (14, 13)], [.t 1]⟩)], blks := [(0, ⟨rg [(4, 2), (14, 13)], [.t 1]⟩)] }, by kernel_rfl, by kernel_rfl, by kernel_rfl, Nat.le_of_ble_eq_true (by kernel_rfl), by kernel_rfl, Aj5 (by kernel_rfl)⟩
theorem k_u81 : FOK Go.Proofs.Tryz.prog sg Rz5 ⟨1, 0, Ow8⟩ :=
 ⟨Go.Proofs.Tryz.f81, { conds := [(8, ⟨[], [.t 4]⟩)] }, by kernel_rfl, by kernel_rfl, by kernel_rfl, Nat.le_of_ble_eq_true (by kernel_rfl), by kernel_rfl, Aj5 (by kernel_rfl)⟩
theorem k_u82 : FOK Go.Proofs.Tryz.prog sg Cq4 ⟨1, 0, Ow7⟩ :=
 ⟨Go.Proofs.Tryz.f82, { loops := [(0, ⟨rg [(2, 2), (7, 51)], [.ta 4 16000004 9 1, .t 5, .t 6]⟩)], blks := [(0, ⟨rg [(2, 2), (5, 53)], [.ta 4 16000004 9 1]⟩)] }, by kernel_rfl, by kernel_rfl, by kernel_rfl, Nat.le_of_ble_eq_true (by kernel_rfl), by kernel_rfl, Aj5 (by kernel_rfl)⟩
theorem k_u83 : FOK Go.Proofs.Tryz.prog sg Py2 ⟨2, 0, Ow6⟩ :=
 ⟨Go.Proofs.Tryz.f83, { loops := [(0, ⟨rg [(6, 31)], [.t 5]⟩)], blks := [(0, ⟨rg [(6, 31)], [.t 5]⟩)] }, by kernel_rfl, by kernel_rfl, by kernel_rfl, Nat.le_of_ble_eq_true (by kernel_rfl), by kernel_rfl, Aj5 (by kernel_rfl)⟩
theorem k_u84 : FOK Go.Proofs.Tryz.prog sg Fy2 ⟨2, 0, Ow5⟩ :=
 ⟨Go.Proofs.Tryz.f84, {  }, by kernel_rfl, by kernel_rfl, by kernel_rfl, Nat.le_of_ble_eq_true (by kernel_rfl), by kernel_rfl, Aj5 (by kernel_rfl)⟩
theorem k_u85 : FOK Go.Proofs.Tryz.prog sg Ek9 ⟨1, 0, Ow4⟩ :=
 ⟨Go.Proofs.Tryz.f85, {  }, by kernel_rfl, by kernel_rfl, by kernel_rfl, Nat.le_of_ble_eq_true (by kernel_rfl), by kernel_rfl, Aj5 (by kernel_rfl)⟩
theorem k_u86 : FOK Go.Proofs.Tryz.prog sg Py1 ⟨1, 0, Ow3⟩ :=
 ⟨Go.Proofs.Tryz.f86, {  }, by kernel_rfl, by kernel_rfl, by kernel_rfl, Nat.le_of_ble_eq_true (by kernel_rfl), by kernel_rfl, Aj5 (by kernel_rfl)⟩
theorem k_u87 : FOK Go.Proofs.Tryz.prog sg Py0 ⟨1, 0, Ow2⟩ :=
 ⟨Go.Proofs.Tryz.f87, { loops := [(0, ⟨rg [(8, 13)], [.t 3, .t 4]⟩)], blks := [(0, ⟨rg [(4, 1), (8, 13)], [.t 3]⟩)] }, by kernel_rfl, by kernel_rfl, by kernel_rfl, Nat.le_of_ble_eq_true (by kernel_rfl), by kernel_rfl, Aj5 (by kernel_rfl)⟩
theorem k_u88 : FOK Go.Proofs.Tryz.prog sg Px9 ⟨1, 0, Ow1⟩ :=
 ⟨Go.Proofs.Tryz.f88, { loops := [(0, ⟨rg [(2, 1), (5, 56)], [.ta 3 16000003 56 16, .t 4]⟩), (2, ⟨rg [(2, 1), (6, 2), (9, 52)], [.ta 3 16000003 56 16, .t 5, .t 8]⟩)], blks := [(0, ⟨rg [(1, 2), (4, 57)], [.ta 3 16000003 56 16]⟩), (2, ⟨rg [(2, 1), (5, 56)], [.ta 3 16000003 56 16]⟩)] }, by kernel_rfl, by kernel_rfl, by kernel_rfl, Nat.le_of_ble_eq_true (by kernel_rfl), by kernel_rfl, Aj5 (by kernel_rfl)⟩
theorem k_u89 : FOK Go.Proofs.Tryz.prog sg Rz4 ⟨2, 0, Ow0⟩ :=
 ⟨Go.Proofs.Tryz.f89, { loops := [(0, ⟨rg [(4, 2), (9, 10)], [.t 8]⟩)], blks := [(0, ⟨rg [(4, 2), (8, 11)], []⟩)] }, by kernel_rfl, by kernel_rfl, by kernel_rfl, Nat.le_of_ble_eq_true (by kernel_rfl), by kernel_rfl, Aj5 (by kernel_rfl)⟩
theorem k_u90 : FOK Go.Proofs.Tryz.prog sg Px8 ⟨2, 0, Ov9⟩ :=
 ⟨Go.Proofs.Tryz.f90, {  }, by kernel_rfl, by kernel_rfl, by kernel_rfl, Nat.le_of_ble_eq_true (by kernel_rfl), by kernel_rfl, Aj5 (by kernel_rfl)⟩
theorem k_u91 : FOK Go.Proofs.Tryz.prog sg Px7 ⟨2, 0, Ov8⟩ :=
 ⟨Go.Proofs.Tryz.f91, {  }, by kernel_rfl, by kernel_rfl, by kernel_rfl, Nat.le_of_ble_eq_true (by kernel_rfl), by kernel_rfl, Aj5 (by kernel_rfl)⟩
theorem k_u92 : FOK Go.Proofs.Tryz.prog sg Rz3 ⟨1, 0, Ov7⟩ :=
 ⟨Go.Proofs.Tryz.f92, { loops := [(0, ⟨rg [(2, 3), (15, 28)], [.t 14]⟩)], blks := [(0, ⟨rg [(2, 3), (14, 29)], []⟩)] }, by kernel_rfl, by kernel_rfl, by kernel_rfl, Nat.le_of_ble_eq_true (by kernel_rfl), by kernel_rfl, Aj5 (by kernel_rfl)⟩
theorem k_u95 : FOK Go.Proofs.Tryz.prog sg Px6 ⟨2, 0, Ov6⟩ :=
 ⟨Go.Proofs.Tryz.f95, { loops := [(0, ⟨rg [(4, 2), (9, 10)], [.t 8]⟩)], blks := [(0, ⟨rg [(4, 2), (8, 11)], []⟩)] }, by kernel_rfl, by kernel_rfl, by kernel_rfl, Nat.le_of_ble_eq_true (by kernel_rfl), by kernel_rfl, Aj5 (by kernel_rfl)⟩
theorem k_u98 : FOK Go.Proofs.Tryz.prog sg Rz2 ⟨1, 0, Ov5⟩ :=
 ⟨Go.Proofs.Tryz.f98, {  }, by kernel_rfl, by kernel_rfl, by kernel_rfl, Nat.le_of_ble_eq_true (by kernel_rfl), by kernel_rfl, Aj5 (by kernel_rfl)⟩
theorem k_u107 : FOK Go.Proofs.Tryz.prog sg Cw8 ⟨1, 0, Ez0⟩ :=
 ⟨Go.Proofs.Tryz.f107, {  }, by kernel_rfl, by kernel_rfl, by kernel_rfl, Nat.le_of_ble_eq_true (by kernel_rfl), by kernel_rfl, Aj5 (by kernel_rfl)⟩
theorem k_u108 : FOK Go.Proofs.Tryz.prog sg Fk4 ⟨2, 0, Ey9⟩ :=
 ⟨Go.Proofs.Tryz.f108, {  }, by kernel_rfl, by kernel_rfl, by kernel_rfl, Nat.le_of_ble_eq_true (by kernel_rfl), by kernel_rfl, Aj5 (by kernel_rfl)⟩
theorem k_u109 : FOK Go.Proofs.Tryz.prog sg Fk3 ⟨2, 0, Ey8⟩ :=
 ⟨Go.Proofs.Tryz.f109, {  }, by kernel_rfl, by kernel_rfl, by kernel_rfl, Nat.le_of_ble_eq_true (by kernel_rfl), by kernel_rfl, Aj5 (by kernel_rfl)⟩
theorem k_u110 : FOK Go.Proofs.Tryz.prog sg Jj1 ⟨1, 0, Ey7⟩ :=
 ⟨Go.Proofs.Tryz.f110, {  }, by kernel_rfl, by kernel_rfl, by kernel_rfl, Nat.le_of_ble_eq_true (by kernel_rfl), by kernel_rfl, Aj5 (by kernel_rfl)⟩
theorem k_u111 : FOK Go.Proofs.Tryz.prog sg Jj0 ⟨2, 0, Ey6⟩ :=
 ⟨Go.Proofs.Tryz.f111, {  }, by kernel_rfl, by kernel_rfl, by kernel_rfl, Nat.le_of_ble_eq_true (by kernel_rfl), by kernel_rfl, Aj5 (by kernel_rfl)⟩
theorem k_u112 : FOK Go.Proofs.Tryz.prog sg Iz9 ⟨2, 0, Ey5⟩ :=
 ⟨Go.Proofs.Tryz.f112, {  }, by kernel_rfl, by kernel_rfl, by kernel_rfl, Nat.le_of_ble_eq_true (by kernel_rfl), by kernel_rfl, Aj5 (by kernel_rfl)⟩
theorem k_u113 : FOK Go.Proofs.Tryz.prog sg Iz8 ⟨1, 0, Ey4⟩ :=
 ⟨Go.Proofs.Tryz.f113, { loops := [(0, ⟨rg [(2, 1), (5, 2), (10, 30)], [.ta 3 16000003 9 1, .t 9]⟩)], blks := [(0, ⟨rg [(1, 2), (5, 35)], [.ta 3 16000003 9 1]⟩)] }, by kernel_rfl, by kernel_rfl, by kernel_rfl, Nat.le_of_ble_eq_true (by kernel_rfl), by kernel_rfl, Aj5 (by kernel_rfl)⟩
theorem k_u114 : FOK Go.Proofs.Tryz.prog sg Iz7 ⟨1, 0, Ey3⟩ :=
 ⟨Go.Proofs.Tryz.f114, { loops := [(0, ⟨rg [(2, 1), (5, 1), (9, 13)], [.ta 3 16000003 9 1, .t 8]⟩)], blks := [(0, ⟨rg [(2, 1), (5, 17)], [.ta 3 16000003 9 1]⟩)] }, by kernel_rfl, by kernel_rfl, by kernel_rfl, Nat.le_of_ble_eq_true (by kernel_rfl), by kernel_rfl, Aj5 (by kernel_rfl)⟩
theorem k_u115 : FOK Go.Proofs.Tryz.prog sg Fk2 ⟨1, 1, Ey2⟩ :=
 ⟨Go.Proofs.Tryz.f115, {  }, by kernel_rfl, by kernel_rfl, by kernel_rfl, Nat.le_of_ble_eq_true (by kernel_rfl), by kernel_rfl, Aj5 (by kernel_rfl)⟩
theorem k_u116 : FOK Go.Proofs.Tryz.prog sg Iz6 ⟨2, 0, Ey1⟩ :=
 ⟨Go.Proofs.Tryz.f116, {  }, by kernel_rfl, by kernel_rfl, by kernel_rfl, Nat.le_of_ble_eq_true (by kernel_rfl), by kernel_rfl, Aj5 (by kernel_rfl)⟩
theorem k_u118 : FOK Go.Proofs.Tryz.prog sg Bx4 ⟨2, 0, Ey0⟩ :=
 ⟨Go.Proofs.Tryz.f118, { loops := [(1, ⟨rg [(4, 1), (10, 1), (37, 30)], [.t 9]⟩)], blks := [(1, ⟨rg [(4, 1), (9, 2), (37, 30)], []⟩)] }, by kernel_rfl, by kernel_rfl, by kernel_rfl, Nat.le_of_ble_eq_true (by kernel_rfl), by kernel_rfl, Aj5 (by kernel_rfl)⟩
theorem k_u119 : FOK Go.Proofs.Tryz.prog sg Dy8 ⟨1048577, 0, Ex9⟩ :=
 ⟨Go.Proofs.Tryz.f119, { own := [28674, 57346, 61442], loops := [(0, ⟨rg [(2, 1), (4, 2), (10, 50)], [.t 3, .ac 987654321 9 1]⟩), (2, ⟨rg [(29, 25)], [.t 3, .t 5, .ac 987654321 9 1]⟩)], blks := [(0, ⟨rg [(2, 4), (10, 50)], [.ac 987654321 9 1]⟩), (2, ⟨rg [(5, 1), (29, 25)], [.t 3, .ac 987654321 9 1]⟩)] }, by kernel_rfl, by kernel_rfl, by kernel_rfl, Nat.le_of_ble_eq_true (by kernel_rfl), by kernel_rfl, Aj5 (by kernel_rfl)⟩
theorem k_u120 : FOK Go.Proofs.Tryz.prog sg Iz5 ⟨1048578, 0, Ex8⟩ :=
 ⟨Go.Proofs.Tryz.f120, { own := [45058, 49154], loops := [(0, ⟨rg [(7, 1), (16, 20)], [.t 5, .t 6, .ac 987654321 56 16]⟩)], blks := [(0, ⟨rg [(6, 2), (16, 20)], [.t 5, .ac 987654321 56 16]⟩)] }, by kernel_rfl, by kernel_rfl, by kernel_rfl, Nat.le_of_ble_eq_true (by kernel_rfl), by kernel_rfl, Aj5 (by kernel_rfl)⟩
theorem k_u121 : FOK Go.Proofs.Tryz.prog sg Fk1 ⟨1, 1, Ex7⟩ :=
 ⟨Go.Proofs.Tryz.f121, {  }, by kernel_rfl, by kernel_rfl, by kernel_rfl, Nat.le_of_ble_eq_true (by kernel_rfl), by kernel_rfl, Aj5 (by kernel_rfl)⟩
theorem k_u122 : FOK Go.Proofs.Tryz.prog sg Iz4 ⟨1, 0, Ex6⟩ :=
 ⟨Go.Proofs.Tryz.f122, { loops := [(0, ⟨rg [(2, 1), (4, 1), (15, 32)], [.t 3]⟩)], blks := [(0, ⟨rg [(2, 3), (15, 32)], []⟩)] }, by kernel_rfl, by kernel_rfl, by kernel_rfl, Nat.le_of_ble_eq_true (by kernel_rfl), by kernel_rfl, Aj5 (by kernel_rfl)⟩
theorem k_u123 : FOK Go.Proofs.Tryz.prog sg Iz3 ⟨1, 0, Ex5⟩ :=
 ⟨Go.Proofs.Tryz.f123, { loops := [(0, ⟨rg [(2, 1), (5, 63)], [.ta 3 16000003 9 1, .t 4]⟩), (2, ⟨rg [(13, 19)], [.t 5]⟩)], blks := [(0, ⟨rg [(2, 1), (4, 64)], [.ta 3 16000003 9 1]⟩), (2, ⟨rg [(13, 19)], [.t 5]⟩)] }, by kernel_rfl, by kernel_rfl, by kernel_rfl, Nat.le_of_ble_eq_true (by kernel_rfl), by kernel_rfl, Aj5 (by kernel_rfl)⟩
theorem k_u124 : FOK Go.Proofs.Tryz.prog sg Fk0 ⟨2, 0, Ex4⟩ :=
 ⟨Go.Proofs.Tryz.f124, {  }, by kernel_rfl, by kernel_rfl, by kernel_rfl, Nat.le_of_ble_eq_true (by kernel_rfl), by kernel_rfl, Aj5 (by kernel_rfl)⟩
theorem k_u125 : FOK Go.Proofs.Tryz.prog sg Iz2 ⟨4, 0, Ex3⟩ :=
 ⟨Go.Proofs.Tryz.f125, { loops := [(0, ⟨rg [(8, 1), (11, 55)], [.t 0, .ta 9 16000009 9 1, .t 10]⟩)], blks := [(0, ⟨rg [(3, 1), (8, 1), (11, 55)], [.t 0, .ta 9 16000009 9 1, .t 10]⟩)], conds := [(20, ⟨rg [(21, 4)], [.t 3]⟩)] }, by kernel_rfl, by kernel_rfl, by kernel_rfl, Nat.le_of_ble_eq_true (by kernel_rfl), by kernel_rfl, Aj5 (by kernel_rfl)⟩
theorem k_u141 : FOK Go.Proofs.Tryz.prog sg Iz1 ⟨1, 0, Ex2⟩ :=
 ⟨Go.Proofs.Tryz.f141, {  }, by kernel_rfl, by kernel_rfl, by kernel_rfl, Nat.le_of_ble_eq_true (by kernel_rfl), by kernel_rfl, Aj5 (by kernel_rfl)⟩
theorem k_u142 : FOK Go.Proofs.Tryz.prog sg Iz0 ⟨2, 0, Ex1⟩ :=
 ⟨Go.Proofs.Tryz.f142, { conds := [(6, ⟨[], [.t 6, .c 1 0, .c 1 1, .c 1 2, .c 1 3, .c 1 4, .c 1 5, .c 1 6, .c 1 7, .c 1 8, .c 1 9, .c 1 10, .c 1 11, .c 1 12]⟩), (12, ⟨[], [.t 12, .c 1 0, .c 1 1, .c 1 2, .c 1 3, .c 1 4, .c 1 5, .c 1 6, .c 1 7, .c 1 8, .c 1 9, .c 1 10, .c 1 11, .c 1 12]⟩), (60, ⟨[], [.t 60, .c 1 0, .c 1 1, .c 1 2, .c 1 3, .c 1 4, .c 1 5, .c 1 6, .c 1 7, .c 1 8, .c 1 9, .c 1 10, .c 1 11, .c 1 12]⟩)] }, by kernel_rfl, by kernel_rfl, by kernel_rfl, Nat.le_of_ble_eq_true (by kernel_rfl), by kernel_rfl, Aj5 (by kernel_rfl)⟩
theorem k_u143 : FOK Go.Proofs.Tryz.prog sg Fj9 ⟨1, 0, Ex0⟩ :=
 ⟨Go.Proofs.Tryz.f143, {  }, by kernel_rfl, by kernel_rfl, by kernel_rfl, Nat.le_of_ble_eq_true (by kernel_rfl), by kernel_rfl, Aj5 (by kernel_rfl)⟩
theorem k_u144 : FOK Go.Proofs.Tryz.prog sg Ck8 ⟨1, 0, Ew9⟩ :=
 ⟨Go.Proofs.Tryz.f144, {  }, by kernel_rfl, by kernel_rfl, by kernel_rfl, Nat.le_of_ble_eq_true (by kernel_rfl), by kernel_rfl, Aj5 (by kernel_rfl)⟩
theorem k_u145 : FOK Go.Proofs.Tryz.prog sg Iy9 ⟨1, 0, Ew8⟩ :=
 ⟨Go.Proofs.Tryz.f145, {  }, by kernel_rfl, by kernel_rfl, by kernel_rfl, Nat.le_of_ble_eq_true (by kernel_rfl), by kernel_rfl, Aj5 (by kernel_rfl)⟩
theorem k_u146 : FOK Go.Proofs.Tryz.prog sg Ax1 ⟨2, 0, Ew7⟩ :=
 ⟨Go.Proofs.Tryz.f146, {  }, by kernel_rfl, by kernel_rfl, by kernel_rfl, Nat.le_of_ble_eq_true (by kernel_rfl), by kernel_rfl, Aj5 (by kernel_rfl)⟩
theorem k_u147 : FOK Go.Proofs.Tryz.prog sg Dy7 ⟨1, 0, Ew6⟩ :=
 ⟨Go.Proofs.Tryz.f147, {  }, by kernel_rfl, by kernel_rfl, by kernel_rfl, Nat.le_of_ble_eq_true (by kernel_rfl), by kernel_rfl, Aj5 (by kernel_rfl)⟩
theorem k_u148 : FOK Go.Proofs.Tryz.prog sg Iy8 ⟨1, 0, Ew5⟩ :=
 ⟨Go.Proofs.Tryz.f148, { loops := [(0, ⟨rg [(2, 1), (4, 15)], [.t 3]⟩)], blks := [(0, ⟨rg [(2, 17)], []⟩)] }, by kernel_rfl, by kernel_rfl, by kernel_rfl, Nat.le_of_ble_eq_true (by kernel_rfl), by kernel_rfl, Aj5 (by kernel_rfl)⟩
theorem k_u149 : FOK Go.Proofs.Tryz.prog sg Fj8 ⟨2, 0, Ew4⟩ :=
 ⟨Go.Proofs.Tryz.f149, {  }, by kernel_rfl, by kernel_rfl, by kernel_rfl, Nat.le_of_ble_eq_true (by kernel_rfl), by kernel_rfl, Aj5 (by kernel_rfl)⟩
theorem k_u150 : FOK Go.Proofs.Tryz.prog sg Iy7 ⟨2, 0, Ew3⟩ :=
 ⟨Go.Proofs.Tryz.f150, {  }, by kernel_rfl, by kernel_rfl, by kernel_rfl, Nat.le_of_ble_eq_true (by kernel_rfl), by kernel_rfl, Aj5 (by kernel_rfl)⟩
theorem k_u151 : FOK Go.Proofs.Tryz.prog sg Iy6 ⟨3, 0, Ew2⟩ :=
 ⟨Go.Proofs.Tryz.f151, {  }, by kernel_rfl, by kernel_rfl, by kernel_rfl, Nat.le_of_ble_eq_true (by kernel_rfl), by kernel_rfl, Aj5 (by kernel_rfl)⟩
theorem k_u152 : FOK Go.Proofs.Tryz.prog sg Fj7 ⟨2, 0, Ew1⟩ :=
 ⟨Go.Proofs.Tryz.f152, {  }, by kernel_rfl, by kernel_rfl, by kernel_rfl, Nat.le_of_ble_eq_true (by kernel_rfl), by kernel_rfl, Aj5 (by kernel_rfl)⟩
theorem k_u153 : FOK Go.Proofs.Tryz.prog sg Iy5 ⟨2, 0, Ew0⟩ :=
 ⟨Go.Proofs.Tryz.f153, {  }, by kernel_rfl, by kernel_rfl, by kernel_rfl, Nat.le_of_ble_eq_true (by kernel_rfl), by kernel_rfl, Aj5 (by kernel_rfl)⟩
theorem k_u154 : FOK Go.Proofs.Tryz.prog sg Iy4 ⟨2, 0, Ev9⟩ :=
 ⟨Go.Proofs.Tryz.f154, { loops := [(0, ⟨rg [(4, 2), (9, 10)], [.t 8]⟩)], blks := [(0, ⟨rg [(4, 2), (8, 11)], []⟩)] }, by kernel_rfl, by kernel_rfl, by kernel_rfl, Nat.le_of_ble_eq_true (by kernel_rfl), by kernel_rfl, Aj5 (by kernel_rfl)⟩
theorem k_u156 : FOK Go.Proofs.Tryz.prog sg Dy6 ⟨2, 0, Ev8⟩ :=
 ⟨Go.Proofs.Tryz.f156, {  }, by kernel_rfl, by kernel_rfl, by kernel_rfl, Nat.le_of_ble_eq_true (by kernel_rfl), by kernel_rfl, Aj5 (by kernel_rfl)⟩
theorem k_u157 : FOK Go.Proofs.Tryz.prog sg Fj6 ⟨1, 0, Ev7⟩ :=
 ⟨Go.Proofs.Tryz.f157, {  }, by kernel_rfl, by kernel_rfl, by kernel_rfl, Nat.le_of_ble_eq_true (by kernel_rfl), by kernel_rfl, Aj5 (by kernel_rfl)⟩
theorem k_u158 : FOK Go.Proofs.Tryz.prog sg Sq0 ⟨2, 0, Zk4⟩ :=
 ⟨Go.Proofs.Tryz.f158, { loops := [(0, ⟨rg [(4, 2), (8, 42)], [.t 0, .ta 6 16000006 9 1, .t 7]⟩)], blks := [(0, ⟨rg [(4, 2), (7, 43)], [.t 0, .ta 6 16000006 9 1]⟩)], conds := [(18, ⟨[19], [.t 1]⟩)] }, by kernel_rfl, by kernel_rfl, by kernel_rfl, Nat.le_of_ble_eq_true (by kernel_rfl), by kernel_rfl, Aj5 (by kernel_rfl)⟩
theorem k_u159 : FOK Go.Proofs.Tryz.prog sg Iy3 ⟨2, 0, Ev6⟩ :=
 ⟨Go.Proofs.Tryz.f159, { loops := [(0, ⟨rg [(4, 1), (6, 1), (20, 14)], [.t 0, .t 5]⟩)], blks := [(0, ⟨rg [(0, 1), (4, 3), (20, 14)], []⟩)] }, by kernel_rfl, by kernel_rfl, by kernel_rfl, Nat.le_of_ble_eq_true (by kernel_rfl), by kernel_rfl, Aj5 (by kernel_rfl)⟩
theorem k_u160 : FOK Go.Proofs.Tryz.prog sg Fj5 ⟨2, 0, Ev5⟩ :=
 ⟨Go.Proofs.Tryz.f160, {  }, by kernel_rfl, by kernel_rfl, by kernel_rfl, Nat.le_of_ble_eq_true (by kernel_rfl), by kernel_rfl, Aj5 (by kernel_rfl)⟩
theorem k_u178 : FOK Go.Proofs.Tryz.prog sg Fj4 ⟨2, 0, Ev4⟩ :=
 ⟨Go.Proofs.Tryz.f178, {  }, by kernel_rfl, by kernel_rfl, by kernel_rfl, Nat.le_of_ble_eq_true (by kernel_rfl), by kernel_rfl, Aj5 (by kernel_rfl)⟩
theorem k_u179 : FOK Go.Proofs.Tryz.prog sg Fj3 ⟨2, 0, Ev3⟩ :=
 ⟨Go.Proofs.Tryz.f179, { conds := [(15, ⟨[], [.t 15]⟩), (87, ⟨[], [.t 87]⟩)] }, by kernel_rfl, by kernel_rfl, by kernel_rfl, Nat.le_of_ble_eq_true (by kernel_rfl), by kernel_rfl, Aj5 (by kernel_rfl)⟩
theorem k_u189 : FOK Go.Proofs.Tryz.prog sg Iy2 ⟨2, 0, Ev2⟩ :=
 ⟨Go.Proofs.Tryz.f189, {  }, by kernel_rfl, by kernel_rfl, by kernel_rfl, Nat.le_of_ble_eq_true (by kernel_rfl), by kernel_rfl, Aj5 (by kernel_rfl)⟩
theorem k_u190 : FOK Go.Proofs.Tryz.prog sg Nx7 ⟨1, 0, Zk3⟩ :=
 ⟨Go.Proofs.Tryz.f190, { loops := [(0, ⟨rg [(5, 4)], [.t 2]⟩)], blks := [(0, ⟨rg [(5, 4)], [.t 2]⟩)], bots := [1] }, by kernel_rfl, by kernel_rfl, by kernel_rfl, Nat.le_of_ble_eq_true (by kernel_rfl), by kernel_rfl, Aj5 (by kernel_rfl)⟩
theorem k_u191 : FOK Go.Proofs.Tryz.prog sg Sk7 ⟨1, 0, Zk2⟩ :=
 ⟨Go.Proofs.Tryz.f191, {  }, by kernel_rfl, by kernel_rfl, by kernel_rfl, Nat.le_of_ble_eq_true (by kernel_rfl), by kernel_rfl, Aj5 (by kernel_rfl)⟩
theorem k_u193 : FOK Go.Proofs.Tryz.prog sg Iy1 ⟨2, 0, Ev1⟩ :=
 ⟨Go.Proofs.Tryz.f193, { loops := [(1, ⟨rg [(4, 1), (11, 3), (57, 86)], [.t 8, .t 10]⟩)], blks := [(1, ⟨rg [(4, 1), (8, 1), (10, 4), (57, 86)], []⟩)], conds := [(64, ⟨rg [(4, 1), (11, 1), (65, 13)], [.t 8]⟩)], bots := [8] }, by kernel_rfl, by kernel_rfl, by kernel_rfl, Nat.le_of_ble_eq_true (by kernel_rfl), by kernel_rfl, Aj5 (by kernel_rfl)⟩
theorem k_u206 : FOK Go.Proofs.Tryz.prog sg Iy0 ⟨1, 0, Ev0⟩ :=
 ⟨Go.Proofs.Tryz.f206, {  }, by kernel_rfl, by kernel_rfl, by kernel_rfl, Nat.le_of_ble_eq_true (by kernel_rfl), by kernel_rfl, Aj5 (by kernel_rfl)⟩
theorem k_u207 : FOK Go.Proofs.Tryz.prog sg By5 ⟨1, 0, Eq9⟩ :=
 ⟨Go.Proofs.Tryz.f207, { loops := [(0, ⟨rg [(8, 19)], [.t 3, .t 5]⟩)], blks := [(0, ⟨rg [(5, 1), (8, 19)], [.t 3]⟩)] }, by kernel_rfl, by kernel_rfl, by kernel_rfl, Nat.le_of_ble_eq_true (by kernel_rfl), by kernel_rfl, Aj5 (by kernel_rfl)⟩
theorem k_u208 : FOK Go.Proofs.Tryz.prog sg Aq8 ⟨2, 0, Eq8⟩ :=
 ⟨Go.Proofs.Tryz.f208, { loops := [(0, ⟨rg [(4, 1), (7, 24)], [.ta 5 16000005 5 1, .t 6]⟩), (2, ⟨rg [(16, 7)], [.t 7, .t 8]⟩)], blks := [(0, ⟨rg [(4, 1), (6, 25)], [.ta 5 16000005 5 1]⟩), (2, ⟨rg [(8, 1), (16, 7)], [.t 7]⟩)] }, by kernel_rfl, by kernel_rfl, by kernel_rfl, Nat.le_of_ble_eq_true (by kernel_rfl), by kernel_rfl, Aj5 (by kernel_rfl)⟩
theorem k_u209 : FOK Go.Proofs.Tryz.prog sg Ix9 ⟨1, 0, Eq7⟩ :=
 ⟨Go.Proofs.Tryz.f209, { loops := [(0, ⟨rg [(2, 1), (6, 35)], [.ta 3 16000003 5 1, .t 4, .t 5]⟩), (2, ⟨rg [(12, 16)], [.t 6, .t 7]⟩)], blks := [(0, ⟨rg [(2, 1), (5, 36)], [.ta 3 16000003 5 1, .t 4]⟩), (2, ⟨rg [(7, 1), (12, 16)], [.t 6]⟩)] }, by kernel_rfl, by kernel_rfl, by kernel_rfl, Nat.le_of_ble_eq_true (by kernel_rfl), by kernel_rfl, Aj5 (by kernel_rfl)⟩
theorem k_u214 : FOK Go.Proofs.Tryz.prog sg Sk6 ⟨1, 0, Zk1⟩ :=
 ⟨Go.Proofs.Tryz.f214, { bots := [5] }, by kernel_rfl, by kernel_rfl, by kernel_rfl, Nat.le_of_ble_eq_true (by kernel_rfl), by kernel_rfl, Aj5 (by kernel_rfl)⟩
theorem k_u222 : FOK Go.Proofs.Tryz.prog sg Dy5 ⟨2, 0, Eq6⟩ :=
 ⟨Go.Proofs.Tryz.f222, { loops := [(0, ⟨rg [(4, 1), (7, 24)], [.ta 5 16000005 5 1, .t 6]⟩), (2, ⟨rg [(16, 7)], [.t 7, .t 8]⟩)], blks := [(0, ⟨rg [(4, 1), (6, 25)], [.ta 5 16000005 5 1]⟩), (2, ⟨rg [(8, 1), (16, 7)], [.t 7]⟩)] }, by kernel_rfl, by kernel_rfl, by kernel_rfl, Nat.le_of_ble_eq_true (by kernel_rfl), by kernel_rfl, Aj5 (by kernel_rfl)⟩
def tabL : List (Nat × FT) := [(n_u4, ⟨2, 0, t_u4⟩), (Sq4, ⟨1, 0, Pk3⟩), (Sq3, ⟨2, 0, Pk2⟩), (Sq2, ⟨2, 0, Pk1⟩), (Sq1, ⟨2, 0, Pk0⟩), (Pz3, ⟨2, 0, Pj9⟩), (Yq4, ⟨0, 0, t_u15⟩), (Sk9, ⟨2, 0, Pj8⟩), (Sk8, ⟨2, 0, Pj7⟩), (Dk9, ⟨2, 0, Pj6⟩), (Sk5, ⟨1, 0, Pj5⟩), (Sk4, ⟨2, 0, Pj4⟩), (Pz2, ⟨3, 0, Pj3⟩), (Sk3, ⟨2, 0, Pj2⟩), (Sk2, ⟨2, 0, Pj1⟩), (Pz1, ⟨2, 0, Pj0⟩), (Pz0, ⟨2, 0, Oz9⟩), (Sk1, ⟨2, 0, Oz8⟩), (Dk8, ⟨2, 0, Oz7⟩), (Py9, ⟨2, 0, Oz6⟩), (Jz0, ⟨3, 0, Oz5⟩), (Sk0, ⟨2, 0, Oz4⟩), (Sj9, ⟨3, 0, Oz3⟩), (Sj8, ⟨2, 0, Oz2⟩), (Py8, ⟨2, 0, Oz1⟩), (Py7, ⟨2, 0, Oz0⟩), (Sj7, ⟨2, 0, Oy9⟩), (Sj6, ⟨1, 0, Oy8⟩), (Ix8, ⟨2, 0, Oy7⟩), (Sj5, ⟨1, 0, Oy6⟩), (Cq5, ⟨1, 0, Oy5⟩), (Py6, ⟨2, 0, Oy4⟩), (Eq0, ⟨1, 0, Oy3⟩), (Ix7, ⟨3, 0, Oy2⟩), (Sj4, ⟨1, 0, Oy1⟩), (Sj3, ⟨2, 0, Oy0⟩), (Sj2, ⟨1, 0, Ox9⟩), (Py5, ⟨3, 0, Ox8⟩), (Sj1, ⟨2, 0, Ox7⟩), (Sj0, ⟨2, 0, Ox6⟩), (Rz9, ⟨3, 0, Ox5⟩), (Jy9, ⟨1, 0, Ox4⟩), (Rz8, ⟨3, 0, Ox3⟩), (Py4, ⟨1, 0, Ox2⟩), (Py3, ⟨2, 0, Ox1⟩), (Rz7, ⟨1, 0, Ox0⟩), (Rz6, ⟨2, 0, Ow9⟩), (Rz5, ⟨1, 0, Ow8⟩), (Cq4, ⟨1, 0, Ow7⟩), (Py2, ⟨2, 0, Ow6⟩), (Fy2, ⟨2, 0, Ow5⟩), (Ek9, ⟨1, 0, Ow4⟩), (Py1, ⟨1, 0, Ow3⟩), (Py0, ⟨1, 0, Ow2⟩), (Px9, ⟨1, 0, Ow1⟩), (Rz4, ⟨2, 0, Ow0⟩), (Px8, ⟨2, 0, Ov9⟩), (Px7, ⟨2, 0, Ov8⟩), (Rz3, ⟨1, 0, Ov7⟩), (Px6, ⟨2, 0, Ov6⟩), (Rz2, ⟨1, 0, Ov5⟩), (Cw8, ⟨1, 0, Ez0⟩), (Fk4, ⟨2, 0, Ey9⟩), (Fk3, ⟨2, 0, Ey8⟩), (Jj1, ⟨1, 0, Ey7⟩), (Jj0, ⟨2, 0, Ey6⟩), (Iz9, ⟨2, 0, Ey5⟩), (Iz8, ⟨1, 0, Ey4⟩), (Iz7, ⟨1, 0, Ey3⟩), (Fk2, ⟨1, 1, Ey2⟩), (Iz6, ⟨2, 0, Ey1⟩), (Bx4, ⟨2, 0, Ey0⟩), (Dy8, ⟨1048577, 0, Ex9⟩), (Iz5, ⟨1048578, 0, Ex8⟩), (Fk1, ⟨1, 1, Ex7⟩), (Iz4, ⟨1, 0, Ex6⟩), (Iz3, ⟨1, 0, Ex5⟩), (Fk0, ⟨2, 0, Ex4⟩), (Iz2, ⟨4, 0, Ex3⟩), (Iz1, ⟨1, 0, Ex2⟩), (Iz0, ⟨2, 0, Ex1⟩), (Fj9, ⟨1, 0, Ex0⟩), (Ck8, ⟨1, 0, Ew9⟩), (Iy9, ⟨1, 0, Ew8⟩), (Ax1, ⟨2, 0, Ew7⟩), (Dy7, ⟨1, 0, Ew6⟩), (Iy8, ⟨1, 0, Ew5⟩), (Fj8, ⟨2, 0, Ew4⟩), (Iy7, ⟨2, 0, Ew3⟩), (Iy6, ⟨3, 0, Ew2⟩), (Fj7, ⟨2, 0, Ew1⟩), (Iy5, ⟨2, 0, Ew0⟩), (Iy4, ⟨2, 0, Ev9⟩), (Dy6, ⟨2, 0, Ev8⟩), (Fj6, ⟨1, 0, Ev7⟩), (Sq0, ⟨2, 0, Zk4⟩), (Iy3, ⟨2, 0, Ev6⟩), (Fj5, ⟨2, 0, Ev5⟩), (Fj4, ⟨2, 0, Ev4⟩), (Fj3, ⟨2, 0, Ev3⟩), (Iy2, ⟨2, 0, Ev2⟩), (Nx7, ⟨1, 0, Zk3⟩), (Sk7, ⟨1, 0, Zk2⟩), (Iy1, ⟨2, 0, Ev1⟩), (Iy0, ⟨1, 0, Ev0⟩), (By5, ⟨1, 0, Eq9⟩), (Aq8, ⟨2, 0, Eq8⟩), (Ix9, ⟨1, 0, Eq7⟩), (Sk6, ⟨1, 0, Zk1⟩), (Dy5, ⟨2, 0, Eq6⟩)]
def tab : Nat → Option FT := lkF tabL
theorem tab_ok : Tab Go.Proofs.Tryz.prog sg tab := tab_of tabL ⟨k_u4, k_u10, k_u11, k_u12, k_u13, k_u14, k_u15, k_u16, k_u19, k_u23, k_u25, k_u26, k_u27, k_u28, k_u29, k_u30, k_u31, k_u32, k_u33, k_u34, k_u35, k_u36, k_u37, k_u38, k_u39, k_u40, k_u41, k_u42, k_u43, k_u44, k_u55, k_u65, k_u66, k_u67, k_u68, k_u69, k_u70, k_u71, k_u72, k_u73, k_u74, k_u75, k_u76, k_u77, k_u78, k_u79, k_u80, k_u81, k_u82, k_u83, k_u84, k_u85, k_u86, k_u87, k_u88, k_u89, k_u90, k_u91, k_u92, k_u95, k_u98, k_u107, k_u108, k_u109, k_u110, k_u111, k_u112, k_u113, k_u114, k_u115, k_u116, k_u118, k_u119, k_u120, k_u121, k_u122, k_u123, k_u124, k_u125, k_u141, k_u142, k_u143, k_u144, k_u145, k_u146, k_u147, k_u148, k_u149, k_u150, k_u151, k_u152, k_u153, k_u154, k_u156, k_u157, k_u158, k_u159, k_u160, k_u178, k_u179, k_u189, k_u190, k_u191, k_u193, k_u206, k_u207, k_u208, k_u209, k_u214, k_u222, trivial⟩ (Wy5 (Aw3 (by kernel_rfl) (Aw3 (by kernel_rfl) (Aw3 (by kernel_rfl) (Aw3 (by kernel_rfl) (Aw3 (by kernel_rfl) (Aw3 (by kernel_rfl) (Aw3 (by kernel_rfl) (Aw3 (by kernel_rfl) (Aw3 (by kernel_rfl) (Aw3 (by kernel_rfl) (Aw3 (by kernel_rfl) (Aw3 (by kernel_rfl) (Aw3 (by kernel_rfl) (Aw3 (by kernel_rfl) (Aw3 (by kernel_rfl) (Aw3 (by kernel_rfl) (Aw3 (by kernel_rfl) Yy8))))))))))))))))))
theorem so_u117 : SOK Go.Proofs.Tryz.prog sg Cw7 ⟨false, 9, 1, [Bx4]⟩ :=
 ⟨by kernel_rfl, by kernel_rfl, ss_u117, ⟨Go.Proofs.Tryz.f117, by kernel_rfl, by kernel_rfl, by kernel_rfl⟩, (fun g hg => by
  simp only [List.mem_cons, List.mem_nil_iff, or_false] at hg
  rcases hg with rfl
  ·exact ⟨Go.Proofs.Tryz.f118, by kernel_rfl, by kernel_rfl, by kernel_rfl⟩)⟩
def Jx1 : List (Nat × SK) := [(Cw7, ⟨false, 9, 1, [Bx4]⟩)]
def Qx0 : SK := ⟨false, 9, 1, [Bx4]⟩
theorem sl_u117 : lkS Jx1 Cw7 = some Qx0 := by kernel_rfl
theorem st_u117 : tab Cw7 = none := by kernel_rfl
theorem Xy5 : SOKs Go.Proofs.Tryz.prog sg Jx1 := ⟨so_u117, trivial⟩
def exts : List (Nat × XK) := [(Nx8, .indexS), (Nx6, .countS), (Nx5, .cmpS)]
theorem exts_ok : XOKs Go.Proofs.Tryz.prog exts := ⟨⟨Go.Proofs.Tryz.f180, by kernel_rfl, by kernel_rfl, by kernel_rfl, by kernel_rfl, by kernel_rfl⟩, ⟨Go.Proofs.Tryz.f192, by kernel_rfl, by kernel_rfl, by kernel_rfl, by kernel_rfl, by kernel_rfl⟩, ⟨Go.Proofs.Tryz.f213, by kernel_rfl, by kernel_rfl, by kernel_rfl, by kernel_rfl, by kernel_rfl⟩, trivial⟩
theorem ext_ok (fn : Fns) (hC : Contract Go.Proofs.Tryz.prog sg fn) : Contract Go.Proofs.Tryz.prog sg (Aw6 exts Jx1 fn) := Sz0 exts_ok (Nz5 (by kernel_rfl)) Xy5 fn hC
noncomputable def S : Fns := sem tab (Aw6 exts Jx1)
theorem s_u180 {args rs : List PV} (h : XK.run .indexS args = some rs) : S Nx8 args.length args = some rs := Fw8 (by kernel_rfl) (by kernel_rfl) (by kernel_rfl) h
theorem s_u192 {args rs : List PV} (h : XK.run .countS args = some rs) : S Nx6 args.length args = some rs := Fw8 (by kernel_rfl) (by kernel_rfl) (by kernel_rfl) h
theorem s_u213 {args rs : List PV} (h : XK.run .cmpS args = some rs) : S Nx5 args.length args = some rs := Fw8 (by kernel_rfl) (by kernel_rfl) (by kernel_rfl) h
theorem ext_mono : Az9 (Aw6 exts Jx1) := (Cq8 exts Jx1)
variable {N : Nat} {args rs : List PV}
theorem s_u4 (hl : args.length = 2) (h : t_u4.ev S N args = some (.ret rs)) : S n_u4 2 args = some rs := Aj6 ext_mono (ft := ⟨2, 0, t_u4⟩) (by kernel_rfl) rfl hl h
theorem s_u10 (hl : args.length = 1) (h : Pk3.ev S N args = some (.ret rs)) : S Sq4 1 args = some rs := Aj6 ext_mono (ft := ⟨1, 0, Pk3⟩) (by kernel_rfl) rfl hl h
theorem s_u11 (hl : args.length = 2) (h : Pk2.ev S N args = some (.ret rs)) : S Sq3 2 args = some rs := Aj6 ext_mono (ft := ⟨2, 0, Pk2⟩) (by kernel_rfl) rfl hl h
theorem s_u12 (hl : args.length = 2) (h : Pk1.ev S N args = some (.ret rs)) : S Sq2 2 args = some rs := Aj6 ext_mono (ft := ⟨2, 0, Pk1⟩) (by kernel_rfl) rfl hl h
theorem s_u13 (hl : args.length = 2) (h : Pk0.ev S N args = some (.ret rs)) : S Sq1 2 args = some rs := Aj6 ext_mono (ft := ⟨2, 0, Pk0⟩) (by kernel_rfl) rfl hl h
theorem s_u14 (hl : args.length = 2) (h : Pj9.ev S N args = some (.ret rs)) : S Pz3 2 args = some rs := Aj6 ext_mono (ft := ⟨2, 0, Pj9⟩) (by kernel_rfl) rfl hl h
theorem s_u16 (hl : args.length = 2) (h : Pj8.ev S N args = some (.ret rs)) : S Sk9 2 args = some rs := Aj6 ext_mono (ft := ⟨2, 0, Pj8⟩) (by kernel_rfl) rfl hl h
theorem s_u19 (hl : args.length = 2) (h : Pj7.ev S N args = some (.ret rs)) : S Sk8 2 args = some rs := Aj6 ext_mono (ft := ⟨2, 0, Pj7⟩) (by kernel_rfl) rfl hl h
theorem s_u23 (hl : args.length = 2) (h : Pj6.ev S N args = some (.ret rs)) : S Dk9 2 args = some rs := Aj6 ext_mono (ft := ⟨2, 0, Pj6⟩) (by kernel_rfl) rfl hl h
theorem s_u25 (hl : args.length = 1) (h : Pj5.ev S N args = some (.ret rs)) : S Sk5 1 args = some rs := Aj6 ext_mono (ft := ⟨1, 0, Pj5⟩) (by kernel_rfl) rfl hl h
theorem s_u26 (hl : args.length = 2) (h : Pj4.ev S N args = some (.ret rs)) : S Sk4 2 args = some rs := Aj6 ext_mono (ft := ⟨2, 0, Pj4⟩) (by kernel_rfl) rfl hl h
theorem s_u27 (hl : args.length = 3) (h : Pj3.ev S N args = some (.ret rs)) : S Pz2 3 args = some rs := Aj6 ext_mono (ft := ⟨3, 0, Pj3⟩) (by kernel_rfl) rfl hl h
theorem s_u28 (hl : args.length = 2) (h : Pj2.ev S N args = some (.ret rs)) : S Sk3 2 args = some rs := Aj6 ext_mono (ft := ⟨2, 0, Pj2⟩) (by kernel_rfl) rfl hl h
theorem s_u29 (hl : args.length = 2) (h : Pj1.ev S N args = some (.ret rs)) : S Sk2 2 args = some rs := Aj6 ext_mono (ft := ⟨2, 0, Pj1⟩) (by kernel_rfl) rfl hl h
theorem s_u30 (hl : args.length = 2) (h : Pj0.ev S N args = some (.ret rs)) : S Pz1 2 args = some rs := Aj6 ext_mono (ft := ⟨2, 0, Pj0⟩) (by kernel_rfl) rfl hl h
theorem s_u31 (hl : args.length = 2) (h : Oz9.ev S N args = some (.ret rs)) : S Pz0 2 args = some rs := Aj6 ext_mono (ft := ⟨2, 0, Oz9⟩) (by kernel_rfl) rfl hl h
theorem s_u32 (hl : args.length = 2) (h : Oz8.ev S N args = some (.ret rs)) : S Sk1 2 args = some rs := Aj6 ext_mono (ft := ⟨2, 0, Oz8⟩) (by kernel_rfl) rfl hl h
theorem s_u33 (hl : args.length = 2) (h : Oz7.ev S N args = some (.ret rs)) : S Dk8 2 args = some rs := Aj6 ext_mono (ft := ⟨2, 0, Oz7⟩) (by kernel_rfl) rfl hl h
theorem s_u34 (hl : args.length = 2) (h : Oz6.ev S N args = some (.ret rs)) : S Py9 2 args = some rs := Aj6 ext_mono (ft := ⟨2, 0, Oz6⟩) (by kernel_rfl) rfl hl h
theorem s_u35 (hl : args.length = 3) (h : Oz5.ev S N args = some (.ret rs)) : S Jz0 3 args = some rs := Aj6 ext_mono (ft := ⟨3, 0, Oz5⟩) (by kernel_rfl) rfl hl h
theorem s_u36 (hl : args.length = 2) (h : Oz4.ev S N args = some (.ret rs)) : S Sk0 2 args = some rs := Aj6 ext_mono (ft := ⟨2, 0, Oz4⟩) (by kernel_rfl) rfl hl h
theorem s_u37 (hl : args.length = 3) (h : Oz3.ev S N args = some (.ret rs)) : S Sj9 3 args = some rs := Aj6 ext_mono (ft := ⟨3, 0, Oz3⟩) (by kernel_rfl) rfl hl h
theorem s_u38 (hl : args.length = 2) (h : Oz2.ev S N args = some (.ret rs)) : S Sj8 2 args = some rs := Aj6 ext_mono (ft := ⟨2, 0, Oz2⟩) (by kernel_rfl) rfl hl h
theorem s_u39 (hl : args.length = 2) (h : Oz1.ev S N args = some (.ret rs)) : S Py8 2 args = some rs := Aj6 ext_mono (ft := ⟨2, 0, Oz1⟩) (by kernel_rfl) rfl hl h
theorem s_u40 (hl : args.length = 2) (h : Oz0.ev S N args = some (.ret rs)) : S Py7 2 args = some rs := Aj6 ext_mono (ft := ⟨2, 0, Oz0⟩) (by kernel_rfl) rfl hl h
theorem s_u41 (hl : args.length = 2) (h : Oy9.ev S N args = some (.ret rs)) : S Sj7 2 args = some rs := Aj6 ext_mono (ft := ⟨2, 0, Oy9⟩) (by kernel_rfl) rfl hl h
theorem s_u42 (hl : args.length = 1) (h : Oy8.ev S N args = some (.ret rs)) : S Sj6 1 args = some rs := Aj6 ext_mono (ft := ⟨1, 0, Oy8⟩) (by kernel_rfl) rfl hl h
theorem s_u43 (hl : args.length = 2) (h : Oy7.ev S N args = some (.ret rs)) : S Ix8 2 args = some rs := Aj6 ext_mono (ft := ⟨2, 0, Oy7⟩) (by kernel_rfl) rfl hl h
theorem s_u44 (hl : args.length = 1) (h : Oy6.ev S N args = some (.ret rs)) : S Sj5 1 args = some rs := Aj6 ext_mono (ft := ⟨1, 0, Oy6⟩) (by kernel_rfl) rfl hl h
theorem s_u55 (hl : args.length = 1) (h : Oy5.ev S N args = some (.ret rs)) : S Cq5 1 args = some rs := Aj6 ext_mono (ft := ⟨1, 0, Oy5⟩) (by kernel_rfl) rfl hl h
theorem s_u65 (hl : args.length = 2) (h : Oy4.ev S N args = some (.ret rs)) : S Py6 2 args = some rs := Aj6 ext_mono (ft := ⟨2, 0, Oy4⟩) (by kernel_rfl) rfl hl h
theorem s_u66 (hl : args.length = 1) (h : Oy3.ev S N args = some (.ret rs)) : S Eq0 1 args = some rs := Aj6 ext_mono (ft := ⟨1, 0, Oy3⟩) (by kernel_rfl) rfl hl h
theorem s_u67 (hl : args.length = 3) (h : Oy2.ev S N args = some (.ret rs)) : S Ix7 3 args = some rs := Aj6 ext_mono (ft := ⟨3, 0, Oy2⟩) (by kernel_rfl) rfl hl h
theorem s_u68 (hl : args.length = 1) (h : Oy1.ev S N args = some (.ret rs)) : S Sj4 1 args = some rs := Aj6 ext_mono (ft := ⟨1, 0, Oy1⟩) (by kernel_rfl) rfl hl h
theorem s_u69 (hl : args.length = 2) (h : Oy0.ev S N args = some (.ret rs)) : S Sj3 2 args = some rs := Aj6 ext_mono (ft := ⟨2, 0, Oy0⟩) (by kernel_rfl) rfl hl h
theorem s_u70 (hl : args.length = 1) (h : Ox9.ev S N args = some (.ret rs)) : S Sj2 1 args = some rs := Aj6 ext_mono (ft := ⟨1, 0, Ox9⟩) (by kernel_rfl) rfl hl h
theorem s_u71 (hl : args.length = 3) (h : Ox8.ev S N args = some (.ret rs)) : S Py5 3 args = some rs := Aj6 ext_mono (ft := ⟨3, 0, Ox8⟩) (by kernel_rfl) rfl hl h
theorem s_u72 (hl : args.length = 2) (h : Ox7.ev S N args = some (.ret rs)) : S Sj1 2 args = some rs := Aj6 ext_mono (ft := ⟨2, 0, Ox7⟩) (by kernel_rfl) rfl hl h
theorem s_u73 (hl : args.length = 2) (h : Ox6.ev S N args = some (.ret rs)) : S Sj0 2 args = some rs := Aj6 ext_mono (ft := ⟨2, 0, Ox6⟩) (by kernel_rfl) rfl hl h
theorem s_u74 (hl : args.length = 3) (h : Ox5.ev S N args = some (.ret rs)) : S Rz9 3 args = some rs := Aj6 ext_mono (ft := ⟨3, 0, Ox5⟩) (by kernel_rfl) rfl hl h
theorem s_u75 (hl : args.length = 1) (h : Ox4.ev S N args = some (.ret rs)) : S Jy9 1 args = some rs := Aj6 ext_mono (ft := ⟨1, 0, Ox4⟩) (by kernel_rfl) rfl hl h
theorem s_u76 (hl : args.length = 3) (h : Ox3.ev S N args = some (.ret rs)) : S Rz8 3 args = some rs := Aj6 ext_mono (ft := ⟨3, 0, Ox3⟩) (by kernel_rfl) rfl hl h
theorem s_u77 (hl : args.length = 1) (h : Ox2.ev S N args = some (.ret rs)) : S Py4 1 args = some rs := Aj6 ext_mono (ft := ⟨1, 0, Ox2⟩) (by kernel_rfl) rfl hl h
theorem s_u78 (hl : args.length = 2) (h : Ox1.ev S N args = some (.ret rs)) : S Py3 2 args = some rs := Aj6 ext_mono (ft := ⟨2, 0, Ox1⟩) (by kernel_rfl) rfl hl h
theorem s_u79 (hl : args.length = 1) (h : Ox0.ev S N args = some (.ret rs)) : S Rz7 1 args = some rs := Aj6 ext_mono (ft := ⟨1, 0, Ox0⟩) (by kernel_rfl) rfl hl h
theorem s_u80 (hl : args.length = 2) (h : Ow9.ev S N args = some (.ret rs)) : S Rz6 2 args = some rs := Aj6 ext_mono (ft := ⟨2, 0, Ow9⟩) (by kernel_rfl) rfl hl h
theorem s_u81 (hl : args.length = 1) (h : Ow8.ev S N args = some (.ret rs)) : S Rz5 1 args = some rs := Aj6 ext_mono (ft := ⟨1, 0, Ow8⟩) (by kernel_rfl) rfl hl h
theorem s_u82 (hl : args.length = 1) (h : Ow7.ev S N args = some (.ret rs)) : S Cq4 1 args = some rs := Aj6 ext_mono (ft := ⟨1, 0, Ow7⟩) (by kernel_rfl) rfl hl h
theorem s_u83 (hl : args.length = 2) (h : Ow6.ev S N args = some (.ret rs)) : S Py2 2 args = some rs := Aj6 ext_mono (ft := ⟨2, 0, Ow6⟩) (by kernel_rfl) rfl hl h
theorem s_u84 (hl : args.length = 2) (h : Ow5.ev S N args = some (.ret rs)) : S Fy2 2 args = some rs := Aj6 ext_mono (ft := ⟨2, 0, Ow5⟩) (by kernel_rfl) rfl hl h
theorem s_u85 (hl : args.length = 1) (h : Ow4.ev S N args = some (.ret rs)) : S Ek9 1 args = some rs := Aj6 ext_mono (ft := ⟨1, 0, Ow4⟩) (by kernel_rfl) rfl hl h
theorem s_u86 (hl : args.length = 1) (h : Ow3.ev S N args = some (.ret rs)) : S Py1 1 args = some rs := Aj6 ext_mono (ft := ⟨1, 0, Ow3⟩) (by kernel_rfl) rfl hl h
theorem s_u87 (hl : args.length = 1) (h : Ow2.ev S N args = some (.ret rs)) : S Py0 1 args = some rs := Aj6 ext_mono (ft := ⟨1, 0, Ow2⟩) (by kernel_rfl) rfl hl h
theorem s_u88 (hl : args.length = 1) (h : Ow1.ev S N args = some (.ret rs)) : S Px9 1 args = some rs := Aj6 ext_mono (ft := ⟨1, 0, Ow1⟩) (by kernel_rfl) rfl hl h
theorem s_u89 (hl : args.length = 2) (h : Ow0.ev S N args = some (.ret rs)) : S Rz4 2 args = some rs := Aj6 ext_mono (ft := ⟨2, 0, Ow0⟩) (by kernel_rfl) rfl hl h
theorem s_u90 (hl : args.length = 2) (h : Ov9.ev S N args = some (.ret rs)) : S Px8 2 args = some rs := Aj6 ext_mono (ft := ⟨2, 0, Ov9⟩) (by kernel_rfl) rfl hl h
theorem s_u91 (hl : args.length = 2) (h : Ov8.ev S N args = some (.ret rs)) : S Px7 2 args = some rs := Aj6 ext_mono (ft := ⟨2, 0, Ov8⟩) (by kernel_rfl) rfl hl h
theorem s_u92 (hl : args.length = 1) (h : Ov7.ev S N args = some (.ret rs)) : S Rz3 1 args = some rs := Aj6 ext_mono (ft := ⟨1, 0, Ov7⟩) (by kernel_rfl) rfl hl h
theorem s_u95 (hl : args.length = 2) (h : Ov6.ev S N args = some (.ret rs)) : S Px6 2 args = some rs := Aj6 ext_mono (ft := ⟨2, 0, Ov6⟩) (by kernel_rfl) rfl hl h
theorem s_u98 (hl : args.length = 1) (h : Ov5.ev S N args = some (.ret rs)) : S Rz2 1 args = some rs := Aj6 ext_mono (ft := ⟨1, 0, Ov5⟩) (by kernel_rfl) rfl hl h
theorem s_u107 (hl : args.length = 1) (h : Ez0.ev S N args = some (.ret rs)) : S Cw8 1 args = some rs := Aj6 ext_mono (ft := ⟨1, 0, Ez0⟩) (by kernel_rfl) rfl hl h
theorem s_u108 (hl : args.length = 2) (h : Ey9.ev S N args = some (.ret rs)) : S Fk4 2 args = some rs := Aj6 ext_mono (ft := ⟨2, 0, Ey9⟩) (by kernel_rfl) rfl hl h
theorem s_u109 (hl : args.length = 2) (h : Ey8.ev S N args = some (.ret rs)) : S Fk3 2 args = some rs := Aj6 ext_mono (ft := ⟨2, 0, Ey8⟩) (by kernel_rfl) rfl hl h
theorem s_u110 (hl : args.length = 1) (h : Ey7.ev S N args = some (.ret rs)) : S Jj1 1 args = some rs := Aj6 ext_mono (ft := ⟨1, 0, Ey7⟩) (by kernel_rfl) rfl hl h
theorem s_u111 (hl : args.length = 2) (h : Ey6.ev S N args = some (.ret rs)) : S Jj0 2 args = some rs := Aj6 ext_mono (ft := ⟨2, 0, Ey6⟩) (by kernel_rfl) rfl hl h
theorem s_u112 (hl : args.length = 2) (h : Ey5.ev S N args = some (.ret rs)) : S Iz9 2 args = some rs := Aj6 ext_mono (ft := ⟨2, 0, Ey5⟩) (by kernel_rfl) rfl hl h
theorem s_u113 (hl : args.length = 1) (h : Ey4.ev S N args = some (.ret rs)) : S Iz8 1 args = some rs := Aj6 ext_mono (ft := ⟨1, 0, Ey4⟩) (by kernel_rfl) rfl hl h
theorem s_u114 (hl : args.length = 1) (h : Ey3.ev S N args = some (.ret rs)) : S Iz7 1 args = some rs := Aj6 ext_mono (ft := ⟨1, 0, Ey3⟩) (by kernel_rfl) rfl hl h
theorem s_u115 (hl : args.length = 2) (h : Ey2.ev S N args = some (.ret rs)) : S Fk2 1 args = some rs := Aj6 ext_mono (ft := ⟨1, 1, Ey2⟩) (by kernel_rfl) rfl hl h
theorem s_u116 (hl : args.length = 2) (h : Ey1.ev S N args = some (.ret rs)) : S Iz6 2 args = some rs := Aj6 ext_mono (ft := ⟨2, 0, Ey1⟩) (by kernel_rfl) rfl hl h
theorem s_u118 (hl : args.length = 2) (h : Ey0.ev S N args = some (.ret rs)) : S Bx4 2 args = some rs := Aj6 ext_mono (ft := ⟨2, 0, Ey0⟩) (by kernel_rfl) rfl hl h
theorem s_u119 (hl : args.length = 1) (h : Ex9.ev S N args = some (.ret rs)) : S Dy8 1048577 args = some rs := Aj6 ext_mono (ft := ⟨1048577, 0, Ex9⟩) (by kernel_rfl) rfl hl h
theorem s_u120 (hl : args.length = 2) (h : Ex8.ev S N args = some (.ret rs)) : S Iz5 1048578 args = some rs := Aj6 ext_mono (ft := ⟨1048578, 0, Ex8⟩) (by kernel_rfl) rfl hl h
theorem s_u121 (hl : args.length = 2) (h : Ex7.ev S N args = some (.ret rs)) : S Fk1 1 args = some rs := Aj6 ext_mono (ft := ⟨1, 1, Ex7⟩) (by kernel_rfl) rfl hl h
theorem s_u122 (hl : args.length = 1) (h : Ex6.ev S N args = some (.ret rs)) : S Iz4 1 args = some rs := Aj6 ext_mono (ft := ⟨1, 0, Ex6⟩) (by kernel_rfl) rfl hl h
theorem s_u123 (hl : args.length = 1) (h : Ex5.ev S N args = some (.ret rs)) : S Iz3 1 args = some rs := Aj6 ext_mono (ft := ⟨1, 0, Ex5⟩) (by kernel_rfl) rfl hl h
theorem s_u124 (hl : args.length = 2) (h : Ex4.ev S N args = some (.ret rs)) : S Fk0 2 args = some rs := Aj6 ext_mono (ft := ⟨2, 0, Ex4⟩) (by kernel_rfl) rfl hl h
theorem s_u125 (hl : args.length = 4) (h : Ex3.ev S N args = some (.ret rs)) : S Iz2 4 args = some rs := Aj6 ext_mono (ft := ⟨4, 0, Ex3⟩) (by kernel_rfl) rfl hl h
theorem s_u141 (hl : args.length = 1) (h : Ex2.ev S N args = some (.ret rs)) : S Iz1 1 args = some rs := Aj6 ext_mono (ft := ⟨1, 0, Ex2⟩) (by kernel_rfl) rfl hl h
theorem s_u142 (hl : args.length = 2) (h : Ex1.ev S N args = some (.ret rs)) : S Iz0 2 args = some rs := Aj6 ext_mono (ft := ⟨2, 0, Ex1⟩) (by kernel_rfl) rfl hl h
theorem s_u143 (hl : args.length = 1) (h : Ex0.ev S N args = some (.ret rs)) : S Fj9 1 args = some rs := Aj6 ext_mono (ft := ⟨1, 0, Ex0⟩) (by kernel_rfl) rfl hl h
theorem s_u144 (hl : args.length = 1) (h : Ew9.ev S N args = some (.ret rs)) : S Ck8 1 args = some rs := Aj6 ext_mono (ft := ⟨1, 0, Ew9⟩) (by kernel_rfl) rfl hl h
theorem s_u145 (hl : args.length = 1) (h : Ew8.ev S N args = some (.ret rs)) : S Iy9 1 args = some rs := Aj6 ext_mono (ft := ⟨1, 0, Ew8⟩) (by kernel_rfl) rfl hl h
theorem s_u146 (hl : args.length = 2) (h : Ew7.ev S N args = some (.ret rs)) : S Ax1 2 args = some rs := Aj6 ext_mono (ft := ⟨2, 0, Ew7⟩) (by kernel_rfl) rfl hl h
theorem s_u147 (hl : args.length = 1) (h : Ew6.ev S N args = some (.ret rs)) : S Dy7 1 args = some rs := Aj6 ext_mono (ft := ⟨1, 0, Ew6⟩) (by kernel_rfl) rfl hl h
theorem s_u148 (hl : args.length = 1) (h : Ew5.ev S N args = some (.ret rs)) : S Iy8 1 args = some rs := Aj6 ext_mono (ft := ⟨1, 0, Ew5⟩) (by kernel_rfl) rfl hl h
theorem s_u149 (hl : args.length = 2) (h : Ew4.ev S N args = some (.ret rs)) : S Fj8 2 args = some rs := Aj6 ext_mono (ft := ⟨2, 0, Ew4⟩) (by kernel_rfl) rfl hl h
theorem s_u150 (hl : args.length = 2) (h : Ew3.ev S N args = some (.ret rs)) : S Iy7 2 args = some rs := Aj6 ext_mono (ft := ⟨2, 0, Ew3⟩) (by kernel_rfl) rfl hl h
theorem s_u151 (hl : args.length = 3) (h : Ew2.ev S N args = some (.ret rs)) : S Iy6 3 args = some rs := Aj6 ext_mono (ft := ⟨3, 0, Ew2⟩) (by kernel_rfl) rfl hl h
theorem s_u152 (hl : args.length = 2) (h : Ew1.ev S N args = some (.ret rs)) : S Fj7 2 args = some rs := Aj6 ext_mono (ft := ⟨2, 0, Ew1⟩) (by kernel_rfl) rfl hl h
theorem s_u153 (hl : args.length = 2) (h : Ew0.ev S N args = some (.ret rs)) : S Iy5 2 args = some rs := Aj6 ext_mono (ft := ⟨2, 0, Ew0⟩) (by kernel_rfl) rfl hl h
theorem s_u154 (hl : args.length = 2) (h : Ev9.ev S N args = some (.ret rs)) : S Iy4 2 args = some rs := Aj6 ext_mono (ft := ⟨2, 0, Ev9⟩) (by kernel_rfl) rfl hl h
theorem s_u156 (hl : args.length = 2) (h : Ev8.ev S N args = some (.ret rs)) : S Dy6 2 args = some rs := Aj6 ext_mono (ft := ⟨2, 0, Ev8⟩) (by kernel_rfl) rfl hl h
theorem s_u157 (hl : args.length = 1) (h : Ev7.ev S N args = some (.ret rs)) : S Fj6 1 args = some rs := Aj6 ext_mono (ft := ⟨1, 0, Ev7⟩) (by kernel_rfl) rfl hl h
theorem s_u159 (hl : args.length = 2) (h : Ev6.ev S N args = some (.ret rs)) : S Iy3 2 args = some rs := Aj6 ext_mono (ft := ⟨2, 0, Ev6⟩) (by kernel_rfl) rfl hl h
theorem s_u160 (hl : args.length = 2) (h : Ev5.ev S N args = some (.ret rs)) : S Fj5 2 args = some rs := Aj6 ext_mono (ft := ⟨2, 0, Ev5⟩) (by kernel_rfl) rfl hl h
theorem s_u178 (hl : args.length = 2) (h : Ev4.ev S N args = some (.ret rs)) : S Fj4 2 args = some rs := Aj6 ext_mono (ft := ⟨2, 0, Ev4⟩) (by kernel_rfl) rfl hl h
theorem s_u179 (hl : args.length = 2) (h : Ev3.ev S N args = some (.ret rs)) : S Fj3 2 args = some rs := Aj6 ext_mono (ft := ⟨2, 0, Ev3⟩) (by kernel_rfl) rfl hl h
theorem s_u189 (hl : args.length = 2) (h : Ev2.ev S N args = some (.ret rs)) : S Iy2 2 args = some rs := Aj6 ext_mono (ft := ⟨2, 0, Ev2⟩) (by kernel_rfl) rfl hl h
theorem s_u193 (hl : args.length = 2) (h : Ev1.ev S N args = some (.ret rs)) : S Iy1 2 args = some rs := Aj6 ext_mono (ft := ⟨2, 0, Ev1⟩) (by kernel_rfl) rfl hl h
theorem s_u206 (hl : args.length = 1) (h : Ev0.ev S N args = some (.ret rs)) : S Iy0 1 args = some rs := Aj6 ext_mono (ft := ⟨1, 0, Ev0⟩) (by kernel_rfl) rfl hl h
theorem s_u207 (hl : args.length = 1) (h : Eq9.ev S N args = some (.ret rs)) : S By5 1 args = some rs := Aj6 ext_mono (ft := ⟨1, 0, Eq9⟩) (by kernel_rfl) rfl hl h
theorem s_u208 (hl : args.length = 2) (h : Eq8.ev S N args = some (.ret rs)) : S Aq8 2 args = some rs := Aj6 ext_mono (ft := ⟨2, 0, Eq8⟩) (by kernel_rfl) rfl hl h
theorem s_u209 (hl : args.length = 1) (h : Eq7.ev S N args = some (.ret rs)) : S Ix9 1 args = some rs := Aj6 ext_mono (ft := ⟨1, 0, Eq7⟩) (by kernel_rfl) rfl hl h
theorem s_u222 (hl : args.length = 2) (h : Eq6.ev S N args = some (.ret rs)) : S Dy5 2 args = some rs := Aj6 ext_mono (ft := ⟨2, 0, Eq6⟩) (by kernel_rfl) rfl hl h
end Go.X.G
