/- The residual programs of the functions, printed by a program (gen.py) out of the executor's own reckoning; each is checked by the kernel. -/
import Derived.Test.YtbjmmfaolmclfaaGreatDoorIteratePlaysG5
import Derived.Test.YtbjmmfaolmclfaaGreatDoorIteratePlaysG6
import Derived.Test.YtbjmmfaolmclfaaGreatDoorIteratePlaysG4
import Derived.Test.YtbjmmfaolmclfaaGreatDoorProg
import Derived.KernelRfl
set_option maxHeartbeats 1000000
set_option linter.unusedVariables false
set_option linter.unusedSimpArgs false
set_option maxRecDepth 100000
set_option linter.defProp false
namespace Go.X.G
open Go Go.X

def rgs (a : Nat) : Nat → List Nat
 | 0 => []
 | n + 1 => a :: rgs (a + 1) n
def rg : List (Nat × Nat) → List Nat
 | [] => []
 | (a, n) :: r => rgs a n ++ rg r

def n_u3 : Nat := 3
def n_u5 : Nat := 5
def n_u6 : Nat := 6
def n_u7 : Nat := 7
def n_u8 : Nat := 8
def n_u9 : Nat := 9
def Gy8 : Nat := 10
def Gy7 : Nat := 11
def Gy6 : Nat := 12
def Gy5 : Nat := 13
def Ct2 : Nat := 14
def Gy4 : Nat := 15
def Gy3 : Nat := 16
def Fb2 : Nat := 19
def Gy1 : Nat := 20
def Cd0 : Nat := 22
def Gx9 : Nat := 23
def Am0 : Nat := 24
def Ap0 : Nat := 25
def Gx7 : Nat := 26
def Fb1 : Nat := 27
def Ct1 : Nat := 28
def Cc8 : Nat := 29
def Am8 : Nat := 30
def Gx6 : Nat := 31
def Fb0 : Nat := 32
def Cc7 : Nat := 33
def Fz9 : Nat := 34
def Gx5 : Nat := 35
def Ct0 : Nat := 36
def Fz8 : Nat := 37
def Gx4 : Nat := 38
def Gx3 : Nat := 39
def Fz7 : Nat := 40
def Gx2 : Nat := 41
def Gx1 : Nat := 42
def Gx0 : Nat := 43
def Gw9 : Nat := 44
def Cc6 : Nat := 45
def Cc5 : Nat := 47
def Bz1 : Nat := 62
def Gw8 : Nat := 63
def Fz6 : Nat := 64
def Gw7 : Nat := 65
def Gw6 : Nat := 66
def Fz5 : Nat := 67
def Cs9 : Nat := 68
def Gw5 : Nat := 69
def Cj6 : Nat := 70
def Gw4 : Nat := 77
def Gw3 : Nat := 78
def Fz4 : Nat := 79
def Fz3 : Nat := 80
def Gw2 : Nat := 81
def Fz2 : Nat := 82
def Gw1 : Nat := 83
def Fz1 : Nat := 84
def Cc4 : Nat := 85
def Gw0 : Nat := 86
def Gv9 : Nat := 87
def Cj5 : Nat := 88
def Gv8 : Nat := 89
def Fz0 : Nat := 90
def Gv7 : Nat := 91
def Fy9 : Nat := 92
def Gv6 : Nat := 93
def Cs8 : Nat := 94
def Gv5 : Nat := 95
def Gv4 : Nat := 96
def Fy8 : Nat := 97
def Fy7 : Nat := 98
def Cj4 : Nat := 99
def Bn0 : Nat := 100
def Bm9 : Nat := 101
def Bm8 : Nat := 102
def Bm7 : Nat := 103
def Cg5 : Nat := 106
def At7 : Nat := 116
def Cg4 : Nat := 124
def Cg3 : Nat := 125
def Bm6 : Nat := 126
def Cg2 : Nat := 127
def Bm5 : Nat := 128
def Cg1 : Nat := 129
def Cg0 : Nat := 130
def Cf9 : Nat := 131
def Bm4 : Nat := 132
def Bm3 : Nat := 133
def Ag1 : Nat := 134
def Bw4 : Nat := 135
def Bm2 : Nat := 136
def Cf8 : Nat := 137
def Cf7 : Nat := 138
def Bm1 : Nat := 139
def Cf6 : Nat := 140
def Cf5 : Nat := 141
def Bw3 : Nat := 142
def Cf4 : Nat := 143
def Bm0 : Nat := 144
def Cf3 : Nat := 145
def Cf2 : Nat := 146
def Cf1 : Nat := 147
def Bw2 : Nat := 148
def Bl9 : Nat := 149
def Cf0 : Nat := 150
def Cd9 : Nat := 151
def Cd8 : Nat := 179
def Bl8 : Nat := 180
def Bl7 : Nat := 181
def Bl6 : Nat := 182
def Bl5 : Nat := 183
def Cd7 : Nat := 184
def Cd6 : Nat := 185
def Bl4 : Nat := 186
def Cd5 : Nat := 187
def Bl3 : Nat := 188
def Cd4 : Nat := 189
def Bw1 : Nat := 190
def Gy2 : Nat := 191
def Cd3 : Nat := 192
def Bl2 : Nat := 193
def Cd2 : Nat := 211
def Bl1 : Nat := 215
def Cd1 : Nat := 216
def Eg1 : Nat := 217
def Gy0 : Nat := 218
def Eg0 : Nat := 219
def Cc9 : Nat := 220
def Ef9 : Nat := 234
def Gx8 : Nat := 244

def Jp5 : T := (.yld 1 [.bin .add (.v 9) (.c (.i .i64 1)), .proj 0 (.v 87), .proj 1 (.v 87), .proj 2 (.v 87), .proj 3 (.v 87), .proj 4 (.v 87), .proj 5 (.v 87), .proj 6 (.v 87), .proj 7 (.v 87), .proj 8 (.v 87), .proj 9 (.v 87), .proj 10 (.v 87), .proj 11 (.v 87), .proj 12 (.v 87), .proj 13 (.v 87), .proj 14 (.v 87), .proj 15 (.v 87), .proj 16 (.v 87), .proj 17 (.v 87), .proj 18 (.v 87), .proj 19 (.v 87), .proj 20 (.v 87), .proj 21 (.v 87), .proj 22 (.v 87), .proj 23 (.v 87), .proj 24 (.v 87), .proj 25 (.v 87), .proj 26 (.v 87), .proj 27 (.v 87), .proj 28 (.v 87), .proj 29 (.v 87), .proj 30 (.v 87), .proj 31 (.v 87), .proj 32 (.v 87), .proj 33 (.v 87), .proj 0 (.v 90), .proj 1 (.v 90), .proj 2 (.v 90), .proj 3 (.v 90), .proj 4 (.v 90), .proj 5 (.v 90), .proj 6 (.v 90), .proj 7 (.v 90), .proj 8 (.v 90), .proj 9 (.v 90), .proj 10 (.v 90), .proj 11 (.v 90), .proj 12 (.v 90), .proj 13 (.v 90), .proj 14 (.v 90), .proj 15 (.v 90), .proj 16 (.v 90), .proj 17 (.v 90), .proj 18 (.v 90), .proj 19 (.v 90), .proj 20 (.v 90), .proj 21 (.v 90), .proj 22 (.v 90), .proj 23 (.v 90), .proj 24 (.v 90), .proj 25 (.v 90), .proj 26 (.v 90), .proj 27 (.v 90), .proj 28 (.v 90), .proj 29 (.v 90), .proj 30 (.v 90), .proj 31 (.v 90), .proj 32 (.v 90), .proj 33 (.v 90)])
def Jn6 : T := (.ite (.ite (.ite (.eqs true false [.b] (.v 89) (.v 92)) (.c (.b true)) (.un .not (.v 93))) (.c (.b true)) (.un .not (.v 94))) (.ret [.c (.b false)]) Jp5)
def Jm9 : T := (.w (.chk (.ite (.un .not (.ite (.eqs true false [.b] (.v 89) (.v 92)) (.c (.b true)) (.un .not (.v 93)))) (.c .u) (.c .u))) (.w (.call (some (.un .not (.ite (.eqs true false [.b] (.v 89) (.v 92)) (.c (.b true)) (.un .not (.v 93))))) true n_u9 [.sub 0 34 (.v 87), .sub 0 34 (.v 90)] 1) Jn6))
def Jm3 : T := (.w (.chk (.fit 34 (.v 90))) (.w (.chk (.fit 17 (.v 91))) (.w (.call (some (.un .not (.eqs true false [.b] (.v 89) (.v 92)))) true Ct2 [.sub 0 17 (.v 88), .sub 0 17 (.v 91)] 1) Jm9)))
def Jl7 : T := (.w (.chk (.fit 34 (.v 87))) (.w (.chk (.fit 17 (.v 88))) (.w (.call none false Gy3 [.agg [.v 44, .v 45, .v 46, .v 47, .v 48, .v 49, .v 50, .v 51, .v 52, .v 53, .v 54, .v 55, .v 56, .v 57, .v 58, .v 59, .v 60, .v 61, .v 62, .v 63, .v 64, .v 65, .v 66, .v 67, .v 68, .v 69, .v 70, .v 71, .v 72, .v 73, .v 74, .v 75, .v 76, .v 77], .sub 0 22 (.idx 22 (.v 1) (.v 9))] 3) Jm3)))
def Jl1 : T := (.w (.call none false Gy4 [.agg [.v 10, .v 11, .v 12, .v 13, .v 14, .v 15, .v 16, .v 17, .v 18, .v 19, .v 20, .v 21, .v 22, .v 23, .v 24, .v 25, .v 26, .v 27, .v 28, .v 29, .v 30, .v 31, .v 32, .v 33, .v 34, .v 35, .v 36, .v 37, .v 38, .v 39, .v 40, .v 41, .v 42, .v 43], .sub 0 22 (.idx 22 (.v 1) (.v 9))] 3) Jl7)
def Jh5 : T := (.ite (.bin .eql (.v 9) (.len (.v 1))) (.ret [.c (.b true)]) Jl1)
def Jh0 : T := (.ite (.ite (.ite (.ite (.bin .neq (.v 78) (.v 80)) (.c (.b true)) (.eqs true false [.b] (.v 79) (.v 81))) (.c (.b true)) (.eqs true false [.b] (.v 83) (.v 85))) (.c (.b true)) (.un .not (.v 86))) (.ret [.c (.b false)]) Jh5)
def Jg5 : T := (.w (.chk (.fit 17 (.v 84))) (.w (.call (some (.un .not (.ite (.ite (.bin .neq (.v 78) (.v 80)) (.c (.b true)) (.eqs true false [.b] (.v 79) (.v 81))) (.c (.b true)) (.eqs true false [.b] (.v 83) (.v 85))))) true Ct2 [.sub 0 17 (.v 82), .sub 0 17 (.v 84)] 1) Jh0))
def Jg1 : T := (.w (.chk (.fit 17 (.v 82))) (.w (.call none false Gy5 [.agg [.v 44, .v 45, .v 46, .v 47, .v 48, .v 49, .v 50, .v 51, .v 52, .v 53, .v 54, .v 55, .v 56, .v 57, .v 58, .v 59, .v 60, .v 61, .v 62, .v 63, .v 64, .v 65, .v 66, .v 67, .v 68, .v 69, .v 70, .v 71, .v 72, .v 73, .v 74, .v 75, .v 76, .v 77]] 2) Jg5))
def Hn7 : T := (.w (.call none false Gy6 [.agg [.v 10, .v 11, .v 12, .v 13, .v 14, .v 15, .v 16, .v 17, .v 18, .v 19, .v 20, .v 21, .v 22, .v 23, .v 24, .v 25, .v 26, .v 27, .v 28, .v 29, .v 30, .v 31, .v 32, .v 33, .v 34, .v 35, .v 36, .v 37, .v 38, .v 39, .v 40, .v 41, .v 42, .v 43]] 2) Jg1)
def Hn6 : T := (.w (.call none true Gy7 [.agg [.v 44, .v 45, .v 46, .v 47, .v 48, .v 49, .v 50, .v 51, .v 52, .v 53, .v 54, .v 55, .v 56, .v 57, .v 58, .v 59, .v 60, .v 61, .v 62, .v 63, .v 64, .v 65, .v 66, .v 67, .v 68, .v 69, .v 70, .v 71, .v 72, .v 73, .v 74, .v 75, .v 76, .v 77]] 2) Hn7)
def Hn5 : T := (.w (.call none true Gy8 [.agg [.v 10, .v 11, .v 12, .v 13, .v 14, .v 15, .v 16, .v 17, .v 18, .v 19, .v 20, .v 21, .v 22, .v 23, .v 24, .v 25, .v 26, .v 27, .v 28, .v 29, .v 30, .v 31, .v 32, .v 33, .v 34, .v 35, .v 36, .v 37, .v 38, .v 39, .v 40, .v 41, .v 42, .v 43]] 2) Hn6)
def Hn4 : T := (.yld 0 [.v 10, .v 11, .v 12, .v 13, .v 14, .v 15, .v 16, .v 17, .v 18, .v 19, .v 20, .v 21, .v 22, .v 23, .v 24, .v 25, .v 26, .v 27, .v 28, .v 29, .v 30, .v 31, .v 32, .v 33, .v 34, .v 35, .v 36, .v 37, .v 38, .v 39, .v 40, .v 41, .v 42, .v 43, .v 44, .v 45, .v 46, .v 47, .v 48, .v 49, .v 50, .v 51, .v 52, .v 53, .v 54, .v 55, .v 56, .v 57, .v 58, .v 59, .v 60, .v 61, .v 62, .v 63, .v 64, .v 65, .v 66, .v 67, .v 68, .v 69, .v 70, .v 71, .v 72, .v 73, .v 74, .v 75, .v 76, .v 77])
def Js8 : T := (.ite (.bin .leq (.v 9) (.len (.v 1))) Hn5 Hn4)
def Kh2 : T := .loop 1 [.c (.i .i64 0), .proj 0 (.v 4), .proj 1 (.v 4), .proj 2 (.v 4), .proj 3 (.v 4), .proj 4 (.v 4), .proj 5 (.v 4), .proj 6 (.v 4), .proj 7 (.v 4), .proj 8 (.v 4), .proj 9 (.v 4), .proj 10 (.v 4), .proj 11 (.v 4), .proj 12 (.v 4), .proj 13 (.v 4), .proj 14 (.v 4), .proj 15 (.v 4), .proj 16 (.v 4), .proj 17 (.v 4), .proj 18 (.v 4), .proj 19 (.v 4), .proj 20 (.v 4), .proj 21 (.v 4), .proj 22 (.v 4), .proj 23 (.v 4), .proj 24 (.v 4), .proj 25 (.v 4), .proj 26 (.v 4), .proj 27 (.v 4), .proj 28 (.v 4), .proj 29 (.v 4), .proj 30 (.v 4), .proj 31 (.v 4), .proj 32 (.v 4), .proj 33 (.v 4), .proj 0 (.v 6), .proj 1 (.v 6), .proj 2 (.v 6), .proj 3 (.v 6), .proj 4 (.v 6), .proj 5 (.v 6), .proj 6 (.v 6), .proj 7 (.v 6), .proj 8 (.v 6), .proj 9 (.v 6), .proj 10 (.v 6), .proj 11 (.v 6), .proj 12 (.v 6), .proj 13 (.v 6), .proj 14 (.v 6), .proj 15 (.v 6), .proj 16 (.v 6), .proj 17 (.v 6), .proj 18 (.v 6), .proj 19 (.v 6), .proj 20 (.v 6), .proj 21 (.v 6), .proj 22 (.v 6), .proj 23 (.v 6), .proj 24 (.v 6), .proj 25 (.v 6), .proj 26 (.v 6), .proj 27 (.v 6), .proj 28 (.v 6), .proj 29 (.v 6), .proj 30 (.v 6), .proj 31 (.v 6), .proj 32 (.v 6), .proj 33 (.v 6)] Js8
def Hn3 : T := (.blk 0 Kh2 (.ret [.c (.b true)]))
def Hn2 : T := (.ite (.bin .neq (.v 5) (.c (.i .i64 0))) (.ret [.c (.b true)]) Hn3)
def Hn1 : T := (.ite (.ite (.bin .neq (.v 5) (.v 7)) (.c (.b true)) (.un .not (.v 8))) (.ret [.c (.b false)]) Hn2)
def Hn0 : T := (.w (.chk (.fit 34 (.v 6))) (.w (.call (some (.un .not (.bin .neq (.v 5) (.v 7)))) true n_u9 [.sub 0 34 (.v 4), .sub 0 34 (.v 6)] 1) Hn1))
def Hm9 : T := (.w (.chk (.fit 34 (.v 4))) (.w (.call none false n_u8 [.sub 0 2 (.v 0), .proj 2 (.v 0), .proj 3 (.v 0), .proj 4 (.v 0)] 2) Hn0))
def Hm8 : T := (.w (.call none false n_u7 [.sub 0 2 (.v 0), .proj 2 (.v 0), .proj 3 (.v 0), .proj 4 (.v 0)] 2) Hm9)
def Hf7 : T := (.ite (.un .not (.v 3)) (.ret [.c (.b true)]) Hm8)
def Hf6 : T := (.w (.call none true n_u6 [.sub 0 5 (.v 0), .v 1] 1) Hf7)
def Hf5 : T := (.ite (.un .not (.v 2)) (.ret [.c (.b false)]) Hf6)
def t_u3 : T := (.w (.chk (.fit 5 (.v 0))) (.w (.call none true n_u5 [] 1) Hf5))
theorem x_u3 : type_of% (And.intro (tev_eq @Jp5.eq_1) (And.intro (tev_eq @Jn6.eq_1) (And.intro (tev_eq @Jm9.eq_1) (And.intro (tev_eq @Jm3.eq_1) (And.intro (tev_eq @Jl7.eq_1) (And.intro (tev_eq @Jl1.eq_1) (And.intro (tev_eq @Jh5.eq_1) (And.intro (tev_eq @Jh0.eq_1) (And.intro (tev_eq @Jg5.eq_1) (And.intro (tev_eq @Jg1.eq_1) (And.intro (tev_eq @Hn7.eq_1) (And.intro (tev_eq @Hn6.eq_1) (And.intro (tev_eq @Hn5.eq_1) (And.intro (tev_eq @Hn4.eq_1) (And.intro (tev_eq @Js8.eq_1) (And.intro (tev_eq @Hn3.eq_1) (And.intro (tev_eq @Hn2.eq_1) (And.intro (tev_eq @Hn1.eq_1) (And.intro (tev_eq @Hn0.eq_1) (And.intro (tev_eq @Hm9.eq_1) (And.intro (tev_eq @Hm8.eq_1) (And.intro (tev_eq @Hf7.eq_1) (And.intro (tev_eq @Hf6.eq_1) (And.intro (tev_eq @Hf5.eq_1) (tev_eq @t_u3.eq_1))))))))))))))))))))))))) := (And.intro (tev_eq @Jp5.eq_1) (And.intro (tev_eq @Jn6.eq_1) (And.intro (tev_eq @Jm9.eq_1) (And.intro (tev_eq @Jm3.eq_1) (And.intro (tev_eq @Jl7.eq_1) (And.intro (tev_eq @Jl1.eq_1) (And.intro (tev_eq @Jh5.eq_1) (And.intro (tev_eq @Jh0.eq_1) (And.intro (tev_eq @Jg5.eq_1) (And.intro (tev_eq @Jg1.eq_1) (And.intro (tev_eq @Hn7.eq_1) (And.intro (tev_eq @Hn6.eq_1) (And.intro (tev_eq @Hn5.eq_1) (And.intro (tev_eq @Hn4.eq_1) (And.intro (tev_eq @Js8.eq_1) (And.intro (tev_eq @Hn3.eq_1) (And.intro (tev_eq @Hn2.eq_1) (And.intro (tev_eq @Hn1.eq_1) (And.intro (tev_eq @Hn0.eq_1) (And.intro (tev_eq @Hm9.eq_1) (And.intro (tev_eq @Hm8.eq_1) (And.intro (tev_eq @Hf7.eq_1) (And.intro (tev_eq @Hf6.eq_1) (And.intro (tev_eq @Hf5.eq_1) (tev_eq @t_u3.eq_1)))))))))))))))))))))))))
def Jp4 : T := (.w (.chk (.fit 34 (.v 1))) (.w (.chk (.fit 17 (.v 2))) (.ret [.ite (.ite (.ite (.ite (.ite (.v 3) (.bin .eql (.proj 7 (.v 1)) (.c (.i .i64 1))) (.c (.b false))) (.bin .eql (.proj 14 (.v 1)) (.c (.i .i64 1))) (.c (.b false))) (.bin .eql (.proj 12 (.v 2)) (.c (.s [100, 46, 120, 46]))) (.c (.b false))) (.bin .eql (.proj 13 (.v 2)) (.c (.i .i64 2))) (.c (.b false))) (.proj 10 (.v 2)) (.c (.b false))])))
def Jn5 : T := (.w (.chk (.scal (.c (.i .u64 7)))) (.w (.call none false Fb2 [.v 0, .agg [.c (.b false), .c (.i .u64 0), .c (.i .u64 7)]] 3) Jp4))
def t_u5 : T := (.w (.call none false Gx9 [] 1) Jn5)
theorem x_u5 : type_of% (And.intro (tev_eq @Jp4.eq_1) (And.intro (tev_eq @Jn5.eq_1) (tev_eq @t_u5.eq_1))) := (And.intro (tev_eq @Jp4.eq_1) (And.intro (tev_eq @Jn5.eq_1) (tev_eq @t_u5.eq_1)))
def Jp3 : T := (.yld 1 [.bin .add (.v 2) (.c (.i .i64 1))])
def Jn4 : T := (.ite (.bin .gtr (.slen (.proj 0 (.idx 1 (.proj 3 (.v 0)) (.v 2)))) (.c (.i .i64 300))) (.ret [.c (.b false)]) Jp3)
def Js7 : T := (.ite (.bin .lss (.v 2) (.len (.proj 3 (.v 0)))) Jn4 (.yld 0 []))
def Kh1 : T := .loop 1 [.c (.i .i64 0)] Js7
def Jm8 : T := (.yld 1 [.bin .add (.v 2) (.c (.i .i64 1))])
def Jm2 : T := (.ite (.ite (.ite (.ite (.bin .gtr (.len (.proj 21 (.idx 22 (.v 1) (.v 2)))) (.c (.i .i64 20))) (.c (.b true)) (.un .not (.v 3))) (.c (.b true)) (.un .not (.v 4))) (.c (.b true)) (.un .not (.v 5))) (.ret [.c (.b false)]) Jm8)
def Jl6 : T := (.w (.chk (.ite (.un .not (.ite (.ite (.bin .gtr (.len (.proj 21 (.idx 22 (.v 1) (.v 2)))) (.c (.i .i64 20))) (.c (.b true)) (.un .not (.v 3))) (.c (.b true)) (.un .not (.v 4)))) (.proj 19 (.idx 22 (.v 1) (.v 2))) (.c .u))) (.w (.chk (.ite (.un .not (.ite (.ite (.bin .gtr (.len (.proj 21 (.idx 22 (.v 1) (.v 2)))) (.c (.i .i64 20))) (.c (.b true)) (.un .not (.v 3))) (.c (.b true)) (.un .not (.v 4)))) (.c .u) (.c .u))) (.w (.call (some (.un .not (.ite (.ite (.bin .gtr (.len (.proj 21 (.idx 22 (.v 1) (.v 2)))) (.c (.i .i64 20))) (.c (.b true)) (.un .not (.v 3))) (.c (.b true)) (.un .not (.v 4))))) true Am0 [.proj 19 (.idx 22 (.v 1) (.v 2))] 1) Jm2)))
def Jl0 : T := (.w (.chk (.ite (.un .not (.ite (.bin .gtr (.len (.proj 21 (.idx 22 (.v 1) (.v 2)))) (.c (.i .i64 20))) (.c (.b true)) (.un .not (.v 3)))) (.proj 18 (.idx 22 (.v 1) (.v 2))) (.c .u))) (.w (.chk (.ite (.un .not (.ite (.bin .gtr (.len (.proj 21 (.idx 22 (.v 1) (.v 2)))) (.c (.i .i64 20))) (.c (.b true)) (.un .not (.v 3)))) (.c .u) (.c .u))) (.w (.call (some (.un .not (.ite (.bin .gtr (.len (.proj 21 (.idx 22 (.v 1) (.v 2)))) (.c (.i .i64 20))) (.c (.b true)) (.un .not (.v 3))))) true Am0 [.proj 18 (.idx 22 (.v 1) (.v 2))] 1) Jl6)))
def Jh4 : T := (.w (.chk (.ite (.un .not (.bin .gtr (.len (.proj 21 (.idx 22 (.v 1) (.v 2)))) (.c (.i .i64 20)))) (.proj 17 (.idx 22 (.v 1) (.v 2))) (.c .u))) (.w (.call (some (.un .not (.bin .gtr (.len (.proj 21 (.idx 22 (.v 1) (.v 2)))) (.c (.i .i64 20))))) true Am0 [.proj 17 (.idx 22 (.v 1) (.v 2))] 1) Jl0))
def Js4 : T := (.ite (.bin .lss (.v 2) (.len (.v 1))) Jh4 (.yld 0 []))
def Kg8 : T := .loop 1 [.c (.i .i64 0)] Js4
def Jg9 : T := (.blk 0 Kg8 (.ret [.c (.b true)]))
def Jg4 : T := (.blk 0 Kh1 Jg9)
def t_u6 : T := (.w (.chk (.fit 5 (.v 0))) (.ite (.ite (.ite (.ite (.ite (.bin .gtr (.len (.v 1)) (.c (.i .i64 20))) (.c (.b true)) (.bin .gtr (.len (.proj 3 (.v 0))) (.c (.i .i64 20)))) (.c (.b true)) (.bin .gtr (.len (.proj 4 (.v 0))) (.c (.i .i64 20)))) (.c (.b true)) (.bin .gtr (.slen (.proj 0 (.v 0))) (.c (.i .i64 300)))) (.c (.b true)) (.bin .gtr (.slen (.proj 2 (.v 0))) (.c (.i .i64 300)))) (.ret [.c (.b false)]) Jg4))
theorem x_u6 : type_of% (And.intro (tev_eq @Jp3.eq_1) (And.intro (tev_eq @Jn4.eq_1) (And.intro (tev_eq @Js7.eq_1) (And.intro (tev_eq @Jm8.eq_1) (And.intro (tev_eq @Jm2.eq_1) (And.intro (tev_eq @Jl6.eq_1) (And.intro (tev_eq @Jl0.eq_1) (And.intro (tev_eq @Jh4.eq_1) (And.intro (tev_eq @Js4.eq_1) (And.intro (tev_eq @Jg9.eq_1) (And.intro (tev_eq @Jg4.eq_1) (tev_eq @t_u6.eq_1)))))))))))) := (And.intro (tev_eq @Jp3.eq_1) (And.intro (tev_eq @Jn4.eq_1) (And.intro (tev_eq @Js7.eq_1) (And.intro (tev_eq @Jm8.eq_1) (And.intro (tev_eq @Jm2.eq_1) (And.intro (tev_eq @Jl6.eq_1) (And.intro (tev_eq @Jl0.eq_1) (And.intro (tev_eq @Jh4.eq_1) (And.intro (tev_eq @Js4.eq_1) (And.intro (tev_eq @Jg9.eq_1) (And.intro (tev_eq @Jg4.eq_1) (tev_eq @t_u6.eq_1))))))))))))
def Jp2 : T := (.ret [.agg [.c (.s []), .c (.i .i64 0), .c (.s []), .c (.s []), .c (.l 1 []), .c (.l 3 []), .c (.l 3 []), .c (.i .i64 0), .c (.i .i64 0), .c (.b false), .c (.i .u64 0), .c (.i .u64 0), .c (.s []), .c (.i .i64 0), .c (.i .i64 0), .c (.l 16 []), .c (.i .i64 0), .c (.i .i64 0), .c (.i .i64 0), .c (.b false), .c (.b false), .c (.b false), .c (.b false), .c (.b false), .c (.b false), .c (.b false), .c (.b false), .c (.i .i64 0), .c (.s []), .c (.i .i64 0), .c (.l 16 []), .c (.l 16 []), .c (.l 16 []), .c (.i .i64 0)], .c (.i .i64 2)])
def Jn3 : T := (.ret [.agg [.c (.s []), .c (.i .i64 0), .c (.s []), .c (.s []), .c (.l 1 []), .c (.l 3 []), .c (.l 3 []), .c (.i .i64 0), .c (.i .i64 0), .c (.b false), .c (.i .u64 0), .c (.i .u64 0), .c (.s []), .c (.i .i64 0), .c (.i .i64 0), .c (.l 16 []), .c (.i .i64 0), .c (.i .i64 0), .c (.i .i64 0), .c (.b false), .c (.b false), .c (.b false), .c (.b false), .c (.b false), .c (.b false), .c (.b false), .c (.b false), .c (.i .i64 0), .c (.s []), .c (.i .i64 0), .c (.l 16 []), .c (.l 16 []), .c (.l 16 []), .c (.i .i64 0)], .c (.i .i64 4)])
def Jm7 : T := (.w (.chk (.fit 34 (.v 8))) (.ret [.sub 0 34 (.v 8), .c (.i .i64 0)]))
def Jm1 : T := (.w (.chk (.fit 2 (.sub 0 2 (.v 0)))) (.w (.chk (.scal (.proj 0 (.v 0)))) (.w (.chk (.scal (.v 1))) (.w (.chk (.scal (.v 6))) (.w (.chk (.scal (.v 7))) (.w (.call none false Cc8 [.agg [.proj 0 (.sub 0 2 (.v 0)), .proj 1 (.sub 0 2 (.v 0)), .proj 0 (.v 0), .v 1, .v 6, .v 7, .c (.l 3 []), .c (.i .i64 0), .c (.i .i64 0), .c (.b false), .c (.i .u64 0), .c (.i .u64 0), .c (.s []), .c (.i .i64 0), .c (.i .i64 0), .c (.l 16 []), .c (.i .i64 0), .c (.i .i64 0), .c (.i .i64 0), .c (.b false), .c (.b false), .c (.b false), .c (.b false), .c (.b false), .c (.b false), .c (.b false), .c (.b false), .c (.i .i64 0), .c (.s []), .c (.i .i64 0), .c (.l 16 []), .c (.l 16 []), .c (.l 16 []), .c (.i .i64 0)]] 1) Jm7))))))
def Jl5 : T := (.w (.call none false Ct1 [.v 3] 1) Jm1)
def Jh9 : T := (.w (.call none false Fb1 [.v 2] 1) Jl5)
def Jh3 : T := (.ite (.ite (.un .not (.v 5)) (.bin .neq (.proj 1 (.v 0)) (.c (.i .i64 255))) (.c (.b false))) Jn3 Jh9)
def Jg8 : T := (.w (.call none true Gx7 [.proj 1 (.v 0)] 1) Jh3)
def Jg3 : T := (.ite (.un .not (.v 4)) Jp2 Jg8)
def t_u7 : T := (.w (.chk (.fit 2 (.v 0))) (.w (.call none true Ap0 [.proj 0 (.v 0), .v 1] 1) Jg3))
theorem x_u7 : type_of% (And.intro (tev_eq @Jp2.eq_1) (And.intro (tev_eq @Jn3.eq_1) (And.intro (tev_eq @Jm7.eq_1) (And.intro (tev_eq @Jm1.eq_1) (And.intro (tev_eq @Jl5.eq_1) (And.intro (tev_eq @Jh9.eq_1) (And.intro (tev_eq @Jh3.eq_1) (And.intro (tev_eq @Jg8.eq_1) (And.intro (tev_eq @Jg3.eq_1) (tev_eq @t_u7.eq_1)))))))))) := (And.intro (tev_eq @Jp2.eq_1) (And.intro (tev_eq @Jn3.eq_1) (And.intro (tev_eq @Jm7.eq_1) (And.intro (tev_eq @Jm1.eq_1) (And.intro (tev_eq @Jl5.eq_1) (And.intro (tev_eq @Jh9.eq_1) (And.intro (tev_eq @Jh3.eq_1) (And.intro (tev_eq @Jg8.eq_1) (And.intro (tev_eq @Jg3.eq_1) (tev_eq @t_u7.eq_1))))))))))
def Jp1 : T := (.ret [.agg [.c (.s []), .c (.i .i64 0), .c (.s []), .c (.s []), .c (.l 1 []), .c (.l 3 []), .c (.l 3 []), .c (.i .i64 0), .c (.i .i64 0), .c (.b false), .c (.i .u64 0), .c (.i .u64 0), .c (.s []), .c (.i .i64 0), .c (.i .i64 0), .c (.l 16 []), .c (.i .i64 0), .c (.i .i64 0), .c (.i .i64 0), .c (.b false), .c (.b false), .c (.b false), .c (.b false), .c (.b false), .c (.b false), .c (.b false), .c (.b false), .c (.i .i64 0), .c (.s []), .c (.i .i64 0), .c (.l 16 []), .c (.l 16 []), .c (.l 16 []), .c (.i .i64 0)], .c (.i .i64 2)])
def Jn2 : T := (.ret [.agg [.c (.s []), .c (.i .i64 0), .c (.s []), .c (.s []), .c (.l 1 []), .c (.l 3 []), .c (.l 3 []), .c (.i .i64 0), .c (.i .i64 0), .c (.b false), .c (.i .u64 0), .c (.i .u64 0), .c (.s []), .c (.i .i64 0), .c (.i .i64 0), .c (.l 16 []), .c (.i .i64 0), .c (.i .i64 0), .c (.i .i64 0), .c (.b false), .c (.b false), .c (.b false), .c (.b false), .c (.b false), .c (.b false), .c (.b false), .c (.b false), .c (.i .i64 0), .c (.s []), .c (.i .i64 0), .c (.l 16 []), .c (.l 16 []), .c (.l 16 []), .c (.i .i64 0)], .c (.i .i64 4)])
def Jm6 : T := (.w (.chk (.fit 3 (.sub 0 3 (.idx 3 (.v 3) (.v 7))))) (.yld 1 [.bin .add (.v 7) (.c (.i .i64 1)), .app 3 (.v 8) (.lit 3 [.sub 0 3 (.idx 3 (.v 3) (.v 7))])]))
def Js6 : T := (.ite (.ite (.bin .lss (.v 7) (.len (.v 3))) (.bin .lss (.v 7) (.c (.i .i64 16))) (.c (.b false))) Jm6 (.yld 0 [.v 8]))
def Kh0 : T := .loop 1 [.c (.i .i64 0), .c (.l 3 [])] Js6
def Jm0 : T := (.w (.chk (.fit 34 (.v 8))) (.ret [.sub 0 34 (.v 8), .c (.i .i64 0)]))
def Jl4 : T := (.w (.call none false Cc7 [.agg [.proj 0 (.sub 0 2 (.v 0)), .proj 1 (.sub 0 2 (.v 0)), .proj 0 (.v 0), .v 1, .v 6, .v 7, .c (.l 3 []), .c (.i .i64 0), .c (.i .i64 0), .c (.b false), .c (.i .u64 0), .c (.i .u64 0), .c (.s []), .c (.i .i64 0), .c (.i .i64 0), .c (.l 16 []), .c (.i .i64 0), .c (.i .i64 0), .c (.i .i64 0), .c (.b false), .c (.b false), .c (.b false), .c (.b false), .c (.b false), .c (.b false), .c (.b false), .c (.b false), .c (.i .i64 0), .c (.s []), .c (.i .i64 0), .c (.l 16 []), .c (.l 16 []), .c (.l 16 []), .c (.i .i64 0)]] 1) Jm0)
def Jh8 : T := (.w (.chk (.fit 2 (.sub 0 2 (.v 0)))) (.w (.chk (.scal (.proj 0 (.v 0)))) (.w (.chk (.scal (.v 1))) (.w (.chk (.scal (.v 6))) (.blk 0 Kh0 Jl4)))))
def Jh2 : T := (.w (.call none false Fb0 [.v 2] 1) Jh8)
def Jg7 : T := (.ite (.ite (.un .not (.v 5)) (.bin .neq (.proj 1 (.v 0)) (.c (.i .i64 255))) (.c (.b false))) Jn2 Jh2)
def Jg2 : T := (.w (.call none true Gx6 [.proj 1 (.v 0)] 1) Jg7)
def Jg0 : T := (.ite (.un .not (.v 4)) Jp1 Jg2)
def t_u8 : T := (.w (.chk (.fit 2 (.v 0))) (.w (.call none true Am8 [.proj 0 (.v 0), .v 1] 1) Jg0))
theorem x_u8 : type_of% (And.intro (tev_eq @Jp1.eq_1) (And.intro (tev_eq @Jn2.eq_1) (And.intro (tev_eq @Jm6.eq_1) (And.intro (tev_eq @Js6.eq_1) (And.intro (tev_eq @Jm0.eq_1) (And.intro (tev_eq @Jl4.eq_1) (And.intro (tev_eq @Jh8.eq_1) (And.intro (tev_eq @Jh2.eq_1) (And.intro (tev_eq @Jg7.eq_1) (And.intro (tev_eq @Jg2.eq_1) (And.intro (tev_eq @Jg0.eq_1) (tev_eq @t_u8.eq_1)))))))))))) := (And.intro (tev_eq @Jp1.eq_1) (And.intro (tev_eq @Jn2.eq_1) (And.intro (tev_eq @Jm6.eq_1) (And.intro (tev_eq @Js6.eq_1) (And.intro (tev_eq @Jm0.eq_1) (And.intro (tev_eq @Jl4.eq_1) (And.intro (tev_eq @Jh8.eq_1) (And.intro (tev_eq @Jh2.eq_1) (And.intro (tev_eq @Jg7.eq_1) (And.intro (tev_eq @Jg2.eq_1) (And.intro (tev_eq @Jg0.eq_1) (tev_eq @t_u8.eq_1))))))))))))
def Jp0 : T := (.yld 1 [.bin .add (.v 2) (.c (.i .i64 1))])
def Jn1 : T := (.ite (.bin .neq (.proj 0 (.idx 1 (.proj 4 (.v 0)) (.v 2))) (.proj 0 (.idx 1 (.proj 4 (.v 1)) (.v 2)))) (.ret [.c (.b false)]) Jp0)
def Js5 : T := (.ite (.bin .lss (.v 2) (.len (.proj 4 (.v 0)))) Jn1 (.yld 0 []))
def Kg9 : T := .loop 1 [.c (.i .i64 0)] Js5
def Jm5 : T := (.ret [.ite (.ite (.ite (.v 2) (.v 3) (.c (.b false))) (.v 4) (.c (.b false))) (.v 5) (.c (.b false))])
def Jl9 : T := (.w (.chk (.ite (.ite (.ite (.v 2) (.v 3) (.c (.b false))) (.v 4) (.c (.b false))) (.c .u) (.c .u))) (.w (.call (some (.ite (.ite (.v 2) (.v 3) (.c (.b false))) (.v 4) (.c (.b false)))) true Ct2 [.agg [.proj 16 (.v 0), .proj 17 (.v 0), .proj 18 (.v 0), .proj 19 (.v 0), .proj 20 (.v 0), .proj 21 (.v 0), .proj 22 (.v 0), .proj 23 (.v 0), .proj 24 (.v 0), .proj 25 (.v 0), .proj 26 (.v 0), .proj 27 (.v 0), .proj 28 (.v 0), .proj 29 (.v 0), .proj 30 (.v 0), .proj 31 (.v 0), .proj 32 (.v 0)], .agg [.proj 16 (.v 1), .proj 17 (.v 1), .proj 18 (.v 1), .proj 19 (.v 1), .proj 20 (.v 1), .proj 21 (.v 1), .proj 22 (.v 1), .proj 23 (.v 1), .proj 24 (.v 1), .proj 25 (.v 1), .proj 26 (.v 1), .proj 27 (.v 1), .proj 28 (.v 1), .proj 29 (.v 1), .proj 30 (.v 1), .proj 31 (.v 1), .proj 32 (.v 1)]] 1) Jm5))
def Jl3 : T := (.w (.chk (.ite (.ite (.v 2) (.v 3) (.c (.b false))) (.c .u) (.c .u))) (.w (.call (some (.ite (.v 2) (.v 3) (.c (.b false)))) true Cd0 [.proj 15 (.v 0), .proj 15 (.v 1)] 1) Jl9))
def Jh7 : T := (.w (.chk (.ite (.v 2) (.c .u) (.c .u))) (.w (.call (some (.v 2)) true Fz9 [.proj 6 (.v 0), .proj 6 (.v 1)] 1) Jl3))
def Jh1 : T := (.w (.call none true Fz9 [.proj 5 (.v 0), .proj 5 (.v 1)] 1) Jh7)
def Jg6 : T := (.blk 0 Kg9 Jh1)
def t_u9 : T := (.w (.chk (.fit 34 (.v 0))) (.w (.chk (.fit 34 (.v 1))) (.ite (.ite (.ite (.ite (.ite (.ite (.ite (.ite (.ite (.ite (.eqs true true [.s, .i .i64] (.sub 0 2 (.v 0)) (.sub 0 2 (.v 1))) (.c (.b true)) (.bin .neq (.proj 2 (.v 0)) (.proj 2 (.v 1)))) (.c (.b true)) (.bin .neq (.proj 3 (.v 0)) (.proj 3 (.v 1)))) (.c (.b true)) (.bin .neq (.proj 7 (.v 0)) (.proj 7 (.v 1)))) (.c (.b true)) (.bin .neq (.proj 8 (.v 0)) (.proj 8 (.v 1)))) (.c (.b true)) (.eqs true true [.b, .i .u64, .i .u64] (.agg [.proj 9 (.v 0), .proj 10 (.v 0), .proj 11 (.v 0)]) (.agg [.proj 9 (.v 1), .proj 10 (.v 1), .proj 11 (.v 1)]))) (.c (.b true)) (.eqs true true [.s, .i .i64] (.agg [.proj 12 (.v 0), .proj 13 (.v 0)]) (.agg [.proj 12 (.v 1), .proj 13 (.v 1)]))) (.c (.b true)) (.bin .neq (.proj 14 (.v 0)) (.proj 14 (.v 1)))) (.c (.b true)) (.bin .neq (.proj 33 (.v 0)) (.proj 33 (.v 1)))) (.c (.b true)) (.bin .neq (.len (.proj 4 (.v 0))) (.len (.proj 4 (.v 1))))) (.ret [.c (.b false)]) Jg6)))
theorem x_u9 : type_of% (And.intro (tev_eq @Jp0.eq_1) (And.intro (tev_eq @Jn1.eq_1) (And.intro (tev_eq @Js5.eq_1) (And.intro (tev_eq @Jm5.eq_1) (And.intro (tev_eq @Jl9.eq_1) (And.intro (tev_eq @Jl3.eq_1) (And.intro (tev_eq @Jh7.eq_1) (And.intro (tev_eq @Jh1.eq_1) (And.intro (tev_eq @Jg6.eq_1) (tev_eq @t_u9.eq_1)))))))))) := (And.intro (tev_eq @Jp0.eq_1) (And.intro (tev_eq @Jn1.eq_1) (And.intro (tev_eq @Js5.eq_1) (And.intro (tev_eq @Jm5.eq_1) (And.intro (tev_eq @Jl9.eq_1) (And.intro (tev_eq @Jl3.eq_1) (And.intro (tev_eq @Jh7.eq_1) (And.intro (tev_eq @Jh1.eq_1) (And.intro (tev_eq @Jg6.eq_1) (tev_eq @t_u9.eq_1))))))))))
def Ik2 : T := (.ret [.c (.s []), .c (.b false)])
def Hm7 : T := (.ret [.proj 0 (.idx 1 (.proj 4 (.v 0)) (.v 1)), .c (.b true)])
def Hf4 : T := (.yld 1 [.bin .add (.v 1) (.c (.i .i64 1))])
def Hz7 : T := (.ite (.un .not (.v 2)) Hm7 Hf4)
def Hw7 : T := (.w (.call none true Ap0 [.proj 0 (.idx 1 (.proj 4 (.v 0)) (.v 1)), .proj 3 (.v 0)] 1) Hz7)
def Iw5 : T := (.ite (.bin .lss (.v 1) (.len (.proj 4 (.v 0)))) Hw7 (.yld 0 []))
def Jj6 : T := .loop 1 [.c (.i .i64 0)] Iw5
def Hq0 : T := (.ret [.c (.s []), .c (.b false)])
def Gt4 : T := (.w (.chk (.len (.proj 4 (.v 0)))) (.blk 0 Jj6 Hq0))
def Fk4 : T := (.w (.chk (.fit 34 (.v 0))) (.ite (.bin .neq (.proj 7 (.v 0)) (.c (.i .i64 2))) Ik2 Gt4))
theorem Em6 : type_of% (And.intro (tev_eq @Ik2.eq_1) (And.intro (tev_eq @Hm7.eq_1) (And.intro (tev_eq @Hf4.eq_1) (And.intro (tev_eq @Hz7.eq_1) (And.intro (tev_eq @Hw7.eq_1) (And.intro (tev_eq @Iw5.eq_1) (And.intro (tev_eq @Hq0.eq_1) (And.intro (tev_eq @Gt4.eq_1) (tev_eq @Fk4.eq_1))))))))) := (And.intro (tev_eq @Ik2.eq_1) (And.intro (tev_eq @Hm7.eq_1) (And.intro (tev_eq @Hf4.eq_1) (And.intro (tev_eq @Hz7.eq_1) (And.intro (tev_eq @Hw7.eq_1) (And.intro (tev_eq @Iw5.eq_1) (And.intro (tev_eq @Hq0.eq_1) (And.intro (tev_eq @Gt4.eq_1) (tev_eq @Fk4.eq_1)))))))))
def Ik1 : T := (.ret [.c (.s []), .c (.b false)])
def Hm6 : T := (.ret [.proj 0 (.idx 1 (.proj 4 (.v 0)) (.v 1)), .c (.b true)])
def Hf3 : T := (.yld 1 [.bin .add (.v 1) (.c (.i .i64 1))])
def Hz6 : T := (.ite (.un .not (.v 2)) Hm6 Hf3)
def Hw6 : T := (.w (.call none true Am8 [.proj 0 (.idx 1 (.proj 4 (.v 0)) (.v 1)), .proj 3 (.v 0)] 1) Hz6)
def Iw4 : T := (.ite (.bin .lss (.v 1) (.len (.proj 4 (.v 0)))) Hw6 (.yld 0 []))
def Jj5 : T := .loop 1 [.c (.i .i64 0)] Iw4
def Hk9 : T := (.ret [.c (.s []), .c (.b false)])
def Gt3 : T := (.blk 0 Jj5 Hk9)
def Fk3 : T := (.w (.chk (.fit 34 (.v 0))) (.ite (.bin .neq (.proj 7 (.v 0)) (.c (.i .i64 2))) Ik1 Gt3))
theorem Em5 : type_of% (And.intro (tev_eq @Ik1.eq_1) (And.intro (tev_eq @Hm6.eq_1) (And.intro (tev_eq @Hf3.eq_1) (And.intro (tev_eq @Hz6.eq_1) (And.intro (tev_eq @Hw6.eq_1) (And.intro (tev_eq @Iw4.eq_1) (And.intro (tev_eq @Hk9.eq_1) (And.intro (tev_eq @Gt3.eq_1) (tev_eq @Fk3.eq_1))))))))) := (And.intro (tev_eq @Ik1.eq_1) (And.intro (tev_eq @Hm6.eq_1) (And.intro (tev_eq @Hf3.eq_1) (And.intro (tev_eq @Hz6.eq_1) (And.intro (tev_eq @Hw6.eq_1) (And.intro (tev_eq @Iw4.eq_1) (And.intro (tev_eq @Hk9.eq_1) (And.intro (tev_eq @Gt3.eq_1) (tev_eq @Fk3.eq_1)))))))))
def Ik0 : T := (.w (.chk (.scal (.c (.b true)))) (.w (.chk (.fit 2 (.sub 0 2 (.v 0)))) (.w (.chk (.scal (.proj 18 (.v 0)))) (.w (.chk (.scal (.v 1))) (.w (.chk (.scal (.v 2))) (.w (.chk (.scal (.v 3))) (.ret [.agg [.c (.i .i64 0), .c (.i .i64 0), .proj 18 (.v 0), .c (.b true), .c (.b false), .c (.b false), .c (.b false), .c (.b false), .c (.b false), .c (.b false), .c (.b false), .c (.i .i64 0), .proj 0 (.sub 0 2 (.v 0)), .proj 1 (.sub 0 2 (.v 0)), .v 1, .v 2, .v 3], .c (.b true)])))))))
def Hm5 : T := (.w (.call none false Ct0 [.proj 32 (.v 0)] 1) Ik0)
def Hf2 : T := (.w (.call none false Ct0 [.proj 31 (.v 0)] 1) Hm5)
def Hz5 : T := (.w (.chk (.scal (.proj 15 (.v 0)))) (.w (.chk (.scal (.proj 30 (.v 0)))) (.w (.call none false Gx5 [.lit 1 [.proj 15 (.v 0), .proj 30 (.v 0)]] 1) Hf2)))
def Hw5 : T := (.w (.chk (.scal (.c (.b true)))) (.w (.chk (.fit 2 (.sub 0 2 (.v 0)))) (.w (.chk (.scal (.c (.i .i64 2)))) (.ret [.agg [.c (.i .i64 0), .c (.i .i64 0), .c (.i .i64 2), .c (.b true), .c (.b false), .c (.b false), .c (.b false), .c (.b false), .c (.b false), .c (.b false), .c (.b false), .c (.i .i64 0), .proj 0 (.sub 0 2 (.v 0)), .proj 1 (.sub 0 2 (.v 0)), .c (.l 16 []), .c (.l 16 []), .c (.l 16 [])], .c (.b true)]))))
def Hk8 : T := (.ret [.agg [.c (.i .i64 0), .c (.i .i64 0), .c (.i .i64 0), .c (.b false), .c (.b false), .c (.b false), .c (.b false), .c (.b false), .c (.b false), .c (.b false), .c (.b false), .c (.i .i64 0), .c (.s []), .c (.i .i64 0), .c (.l 16 []), .c (.l 16 []), .c (.l 16 [])], .c (.b false)])
def Gt2 : T := (.ite (.bin .eql (.proj 7 (.v 0)) (.c (.i .i64 4))) Hw5 Hk8)
def Fk2 : T := (.w (.chk (.fit 34 (.v 0))) (.ite (.bin .eql (.proj 7 (.v 0)) (.c (.i .i64 3))) Hz5 Gt2))
theorem Jq1 : type_of% (And.intro (tev_eq @Ik0.eq_1) (And.intro (tev_eq @Hm5.eq_1) (And.intro (tev_eq @Hf2.eq_1) (And.intro (tev_eq @Hz5.eq_1) (And.intro (tev_eq @Hw5.eq_1) (And.intro (tev_eq @Hk8.eq_1) (And.intro (tev_eq @Gt2.eq_1) (tev_eq @Fk2.eq_1)))))))) := (And.intro (tev_eq @Ik0.eq_1) (And.intro (tev_eq @Hm5.eq_1) (And.intro (tev_eq @Hf2.eq_1) (And.intro (tev_eq @Hz5.eq_1) (And.intro (tev_eq @Hw5.eq_1) (And.intro (tev_eq @Hk8.eq_1) (And.intro (tev_eq @Gt2.eq_1) (tev_eq @Fk2.eq_1))))))))
def Ij9 : T := (.w (.chk (.scal (.c (.b true)))) (.w (.chk (.scal (.c (.i .i64 2)))) (.w (.chk (.fit 2 (.sub 0 2 (.v 0)))) (.ret [.agg [.c (.i .i64 0), .c (.i .i64 0), .c (.i .i64 2), .c (.b true), .c (.b false), .c (.b false), .c (.b false), .c (.b false), .c (.b false), .c (.b false), .c (.b false), .c (.i .i64 0), .proj 0 (.sub 0 2 (.v 0)), .proj 1 (.sub 0 2 (.v 0)), .c (.l 16 []), .c (.l 16 []), .c (.l 16 [])], .c (.b true)]))))
def Hm4 : T := (.ret [.agg [.c (.i .i64 0), .c (.i .i64 0), .c (.i .i64 0), .c (.b false), .c (.b false), .c (.b false), .c (.b false), .c (.b false), .c (.b false), .c (.b false), .c (.b false), .c (.i .i64 0), .c (.s []), .c (.i .i64 0), .c (.l 16 []), .c (.l 16 []), .c (.l 16 [])], .c (.b false)])
def Hf1 : T := (.w (.chk (.scal (.c (.b true)))) (.w (.chk (.scal (.proj 18 (.v 0)))) (.w (.chk (.fit 2 (.sub 0 2 (.v 0)))) (.w (.chk (.scal (.proj 31 (.v 0)))) (.w (.chk (.scal (.proj 32 (.v 0)))) (.ret [.agg [.c (.i .i64 0), .c (.i .i64 0), .proj 18 (.v 0), .c (.b true), .c (.b false), .c (.b false), .c (.b false), .c (.b false), .c (.b false), .c (.b false), .c (.b false), .c (.i .i64 0), .proj 0 (.sub 0 2 (.v 0)), .proj 1 (.sub 0 2 (.v 0)), .app 16 (.app 16 (.c (.l 16 [])) (.proj 15 (.v 0))) (.proj 30 (.v 0)), .proj 31 (.v 0), .proj 32 (.v 0)], .c (.b true)]))))))
def Hz4 : T := (.ite (.bin .neq (.proj 7 (.v 0)) (.c (.i .i64 3))) Hm4 Hf1)
def Fk1 : T := (.w (.chk (.fit 34 (.v 0))) (.ite (.bin .eql (.proj 7 (.v 0)) (.c (.i .i64 4))) Ij9 Hz4))
theorem Jq0 : type_of% (And.intro (tev_eq @Ij9.eq_1) (And.intro (tev_eq @Hm4.eq_1) (And.intro (tev_eq @Hf1.eq_1) (And.intro (tev_eq @Hz4.eq_1) (tev_eq @Fk1.eq_1))))) := (And.intro (tev_eq @Ij9.eq_1) (And.intro (tev_eq @Hm4.eq_1) (And.intro (tev_eq @Hf1.eq_1) (And.intro (tev_eq @Hz4.eq_1) (tev_eq @Fk1.eq_1)))))
def Ij8 : T := (.ret [.ite (.ite (.v 2) (.v 3) (.c (.b false))) (.v 4) (.c (.b false))])
def Hm3 : T := (.w (.chk (.ite (.ite (.v 2) (.v 3) (.c (.b false))) (.c .u) (.c .u))) (.w (.call (some (.ite (.v 2) (.v 3) (.c (.b false)))) true Cd0 [.proj 16 (.v 0), .proj 16 (.v 1)] 1) Ij8))
def Hf0 : T := (.w (.chk (.ite (.v 2) (.c .u) (.c .u))) (.w (.call (some (.v 2)) true Cd0 [.proj 15 (.v 0), .proj 15 (.v 1)] 1) Hm3))
def Hz3 : T := (.w (.call none true Cd0 [.proj 14 (.v 0), .proj 14 (.v 1)] 1) Hf0)
def Fk0 : T := (.w (.chk (.fit 17 (.v 0))) (.w (.chk (.fit 17 (.v 1))) (.ite (.ite (.ite (.ite (.ite (.ite (.ite (.ite (.ite (.ite (.ite (.ite (.ite (.bin .neq (.proj 0 (.v 0)) (.proj 0 (.v 1))) (.c (.b true)) (.bin .neq (.proj 1 (.v 0)) (.proj 1 (.v 1)))) (.c (.b true)) (.bin .neq (.proj 2 (.v 0)) (.proj 2 (.v 1)))) (.c (.b true)) (.eqs true false [.b] (.proj 3 (.v 0)) (.proj 3 (.v 1)))) (.c (.b true)) (.eqs true false [.b] (.proj 4 (.v 0)) (.proj 4 (.v 1)))) (.c (.b true)) (.eqs true false [.b] (.proj 5 (.v 0)) (.proj 5 (.v 1)))) (.c (.b true)) (.eqs true false [.b] (.proj 6 (.v 0)) (.proj 6 (.v 1)))) (.c (.b true)) (.eqs true false [.b] (.proj 7 (.v 0)) (.proj 7 (.v 1)))) (.c (.b true)) (.eqs true false [.b] (.proj 8 (.v 0)) (.proj 8 (.v 1)))) (.c (.b true)) (.eqs true false [.b] (.proj 9 (.v 0)) (.proj 9 (.v 1)))) (.c (.b true)) (.eqs true false [.b] (.proj 10 (.v 0)) (.proj 10 (.v 1)))) (.c (.b true)) (.bin .neq (.proj 11 (.v 0)) (.proj 11 (.v 1)))) (.c (.b true)) (.eqs true true [.s, .i .i64] (.agg [.proj 12 (.v 0), .proj 13 (.v 0)]) (.agg [.proj 12 (.v 1), .proj 13 (.v 1)]))) (.ret [.c (.b false)]) Hz3)))
theorem Lw7 : type_of% (And.intro (tev_eq @Ij8.eq_1) (And.intro (tev_eq @Hm3.eq_1) (And.intro (tev_eq @Hf0.eq_1) (And.intro (tev_eq @Hz3.eq_1) (tev_eq @Fk0.eq_1))))) := (And.intro (tev_eq @Ij8.eq_1) (And.intro (tev_eq @Hm3.eq_1) (And.intro (tev_eq @Hf0.eq_1) (And.intro (tev_eq @Hz3.eq_1) (tev_eq @Fk0.eq_1)))))
def Ij7 : T := (.w (.chk (.fit 34 (.v 3))) (.w (.chk (.fit 17 (.v 4))) (.ret [.sub 0 34 (.v 3), .sub 0 17 (.v 4), .v 5])))
def Hm2 : T := (.w (.call none false Fb2 [.sub 0 34 (.v 0), .v 2] 3) Ij7)
def Hd9 : T := (.w (.call none true Fz8 [.proj 5 (.v 0), .proj 1 (.v 1)] 1) Hm2)
def Hz2 : T := (.yld 0 [.proj 12 (.v 0), .proj 13 (.v 0), .proj 9 (.v 0), .proj 10 (.v 0), .proj 11 (.v 0)])
def Hw4 : T := (.w (.chk (.scal (.c (.i .u64 99)))) (.yld 1 [.c (.b false), .c (.i .u64 0), .c (.i .u64 99)]))
def Hk7 : T := (.yld 1 [.proj 9 (.v 0), .proj 10 (.v 0), .proj 11 (.v 0)])
def Gt1 : T := (.ite (.bin .eql (.bin .rem (.proj 1 (.v 1)) (.c (.i .u8 2))) (.c (.i .u8 1))) Hw4 Hk7)
def Gr0 : T := (.yld 0 [.proj 15 (.v 1), .proj 16 (.v 1), .v 2, .v 3, .v 4])
def Gn1 : T := (.blk 1 Gt1 Gr0)
def Gl8 : T := (.ite (.un .not (.proj 2 (.v 1))) Hz2 Gn1)
def Ek6 : T := (.w (.chk (.fit 34 (.v 7))) (.ret [.sub 0 34 (.v 7), .agg [.c (.i .i64 0), .c (.i .i64 0), .c (.i .i64 0), .c (.b false), .c (.b false), .c (.b false), .c (.b false), .c (.b false), .c (.b false), .c (.b false), .c (.b false), .c (.i .i64 0), .c (.s []), .c (.i .i64 0), .c (.l 16 []), .c (.l 16 []), .c (.l 16 [])], .c (.b false)]))
def Ej6 : T := (.w (.call none false Gy1 [.sub 0 34 (.v 0), .agg [.v 4, .v 5, .v 6], .agg [.proj 3 (.v 1), .proj 4 (.v 1), .proj 5 (.v 1), .proj 6 (.v 1), .proj 7 (.v 1), .proj 8 (.v 1), .proj 9 (.v 1), .proj 10 (.v 1), .proj 11 (.v 1), .proj 12 (.v 1), .proj 13 (.v 1), .proj 14 (.v 1), .v 2, .v 3, .proj 17 (.v 1), .proj 18 (.v 1), .proj 19 (.v 1)]] 1) Ek6)
def Dt7 : T := (.blk 0 Gl8 Ej6)
def Ds9 : T := (.w (.chk (.fit 34 (.v 2))) (.ret [.sub 0 34 (.v 2), .agg [.c (.i .i64 0), .c (.i .i64 0), .c (.i .i64 0), .c (.b false), .c (.b false), .c (.b false), .c (.b false), .c (.b false), .c (.b false), .c (.b false), .c (.b false), .c (.i .i64 0), .c (.s []), .c (.i .i64 0), .c (.l 16 []), .c (.l 16 []), .c (.l 16 [])], .c (.b false)]))
def Ds3 : T := (.w (.call none false Gx4 [.sub 0 34 (.v 0)] 1) Ds9)
def Dr8 : T := (.w (.chk (.fit 34 (.v 3))) (.ret [.sub 0 34 (.v 3), .agg [.c (.i .i64 0), .c (.i .i64 0), .c (.i .i64 0), .c (.b false), .c (.b false), .c (.b false), .c (.b false), .c (.b false), .c (.b false), .c (.b false), .c (.b false), .c (.i .i64 0), .c (.s []), .c (.i .i64 0), .c (.l 16 []), .c (.l 16 []), .c (.l 16 [])], .c (.b false)]))
def Dr3 : T := (.w (.call none false Gx3 [.sub 0 34 (.v 0), .v 2, .proj 21 (.v 1)] 1) Dr8)
def Dp8 : T := (.w (.call none true Fz7 [.proj 4 (.v 0), .sub 0 22 (.v 1)] 1) Dr3)
def Dp3 : T := (.ite (.bin .eql (.bin .rem (.proj 0 (.v 1)) (.c (.i .u8 4))) (.c (.i .u8 2))) Ds3 Dp8)
def Dn8 : T := (.ite (.bin .eql (.bin .rem (.proj 0 (.v 1)) (.c (.i .u8 4))) (.c (.i .u8 1))) Dt7 Dp3)
def Fj9 : T := (.w (.chk (.fit 34 (.v 0))) (.w (.chk (.fit 22 (.v 1))) (.ite (.bin .eql (.bin .rem (.proj 0 (.v 1)) (.c (.i .u8 4))) (.c (.i .u8 0))) Hd9 Dn8)))
theorem Em4 : type_of% (And.intro (tev_eq @Ij7.eq_1) (And.intro (tev_eq @Hm2.eq_1) (And.intro (tev_eq @Hd9.eq_1) (And.intro (tev_eq @Hz2.eq_1) (And.intro (tev_eq @Hw4.eq_1) (And.intro (tev_eq @Hk7.eq_1) (And.intro (tev_eq @Gt1.eq_1) (And.intro (tev_eq @Gr0.eq_1) (And.intro (tev_eq @Gn1.eq_1) (And.intro (tev_eq @Gl8.eq_1) (And.intro (tev_eq @Ek6.eq_1) (And.intro (tev_eq @Ej6.eq_1) (And.intro (tev_eq @Dt7.eq_1) (And.intro (tev_eq @Ds9.eq_1) (And.intro (tev_eq @Ds3.eq_1) (And.intro (tev_eq @Dr8.eq_1) (And.intro (tev_eq @Dr3.eq_1) (And.intro (tev_eq @Dp8.eq_1) (And.intro (tev_eq @Dp3.eq_1) (And.intro (tev_eq @Dn8.eq_1) (tev_eq @Fj9.eq_1))))))))))))))))))))) := (And.intro (tev_eq @Ij7.eq_1) (And.intro (tev_eq @Hm2.eq_1) (And.intro (tev_eq @Hd9.eq_1) (And.intro (tev_eq @Hz2.eq_1) (And.intro (tev_eq @Hw4.eq_1) (And.intro (tev_eq @Hk7.eq_1) (And.intro (tev_eq @Gt1.eq_1) (And.intro (tev_eq @Gr0.eq_1) (And.intro (tev_eq @Gn1.eq_1) (And.intro (tev_eq @Gl8.eq_1) (And.intro (tev_eq @Ek6.eq_1) (And.intro (tev_eq @Ej6.eq_1) (And.intro (tev_eq @Dt7.eq_1) (And.intro (tev_eq @Ds9.eq_1) (And.intro (tev_eq @Ds3.eq_1) (And.intro (tev_eq @Dr8.eq_1) (And.intro (tev_eq @Dr3.eq_1) (And.intro (tev_eq @Dp8.eq_1) (And.intro (tev_eq @Dp3.eq_1) (And.intro (tev_eq @Dn8.eq_1) (tev_eq @Fj9.eq_1)))))))))))))))))))))
def Ij6 : T := (.w (.chk (.fit 34 (.v 3))) (.w (.chk (.fit 17 (.v 4))) (.ret [.sub 0 34 (.v 3), .sub 0 17 (.v 4), .v 5])))
def Hm1 : T := (.w (.call none false Gx2 [.sub 0 34 (.v 0), .v 2] 3) Ij6)
def Hd8 : T := (.w (.call none true Fz8 [.proj 5 (.v 0), .proj 1 (.v 1)] 1) Hm1)
def Hz1 : T := (.yld 0 [.proj 12 (.v 0), .proj 13 (.v 0), .proj 9 (.v 0), .proj 10 (.v 0), .proj 11 (.v 0)])
def Hw3 : T := (.w (.chk (.scal (.c (.i .u64 99)))) (.yld 1 [.c (.b false), .c (.i .u64 0), .c (.i .u64 99)]))
def Hk6 : T := (.yld 1 [.proj 9 (.v 0), .proj 10 (.v 0), .proj 11 (.v 0)])
def Gt0 : T := (.ite (.bin .eql (.bin .rem (.proj 1 (.v 1)) (.c (.i .u8 2))) (.c (.i .u8 1))) Hw3 Hk6)
def Gp9 : T := (.yld 0 [.proj 15 (.v 1), .proj 16 (.v 1), .v 2, .v 3, .v 4])
def Gn0 : T := (.blk 1 Gt0 Gp9)
def Gl7 : T := (.ite (.un .not (.proj 2 (.v 1))) Hz1 Gn0)
def Ek5 : T := (.w (.chk (.fit 34 (.v 7))) (.ret [.sub 0 34 (.v 7), .agg [.c (.i .i64 0), .c (.i .i64 0), .c (.i .i64 0), .c (.b false), .c (.b false), .c (.b false), .c (.b false), .c (.b false), .c (.b false), .c (.b false), .c (.b false), .c (.i .i64 0), .c (.s []), .c (.i .i64 0), .c (.l 16 []), .c (.l 16 []), .c (.l 16 [])], .c (.b false)]))
def Ej5 : T := (.w (.call none false Gx1 [.sub 0 34 (.v 0), .agg [.v 4, .v 5, .v 6], .agg [.proj 3 (.v 1), .proj 4 (.v 1), .proj 5 (.v 1), .proj 6 (.v 1), .proj 7 (.v 1), .proj 8 (.v 1), .proj 9 (.v 1), .proj 10 (.v 1), .proj 11 (.v 1), .proj 12 (.v 1), .proj 13 (.v 1), .proj 14 (.v 1), .v 2, .v 3, .proj 17 (.v 1), .proj 18 (.v 1), .proj 19 (.v 1)]] 1) Ek5)
def Dt6 : T := (.blk 0 Gl7 Ej5)
def Ds8 : T := (.w (.chk (.fit 34 (.v 2))) (.ret [.sub 0 34 (.v 2), .agg [.c (.i .i64 0), .c (.i .i64 0), .c (.i .i64 0), .c (.b false), .c (.b false), .c (.b false), .c (.b false), .c (.b false), .c (.b false), .c (.b false), .c (.b false), .c (.i .i64 0), .c (.s []), .c (.i .i64 0), .c (.l 16 []), .c (.l 16 []), .c (.l 16 [])], .c (.b false)]))
def Ds2 : T := (.w (.call none false Gx0 [.sub 0 34 (.v 0)] 1) Ds8)
def Dr7 : T := (.w (.chk (.fit 34 (.v 3))) (.ret [.sub 0 34 (.v 3), .agg [.c (.i .i64 0), .c (.i .i64 0), .c (.i .i64 0), .c (.b false), .c (.b false), .c (.b false), .c (.b false), .c (.b false), .c (.b false), .c (.b false), .c (.b false), .c (.i .i64 0), .c (.s []), .c (.i .i64 0), .c (.l 16 []), .c (.l 16 []), .c (.l 16 [])], .c (.b false)]))
def Dr2 : T := (.w (.call none false Gw9 [.sub 0 34 (.v 0), .v 2, .proj 21 (.v 1)] 1) Dr7)
def Dp7 : T := (.w (.call none true Fz7 [.proj 4 (.v 0), .sub 0 22 (.v 1)] 1) Dr2)
def Dp2 : T := (.ite (.bin .eql (.bin .rem (.proj 0 (.v 1)) (.c (.i .u8 4))) (.c (.i .u8 2))) Ds2 Dp7)
def Dn7 : T := (.ite (.bin .eql (.bin .rem (.proj 0 (.v 1)) (.c (.i .u8 4))) (.c (.i .u8 1))) Dt6 Dp2)
def Fj8 : T := (.w (.chk (.fit 34 (.v 0))) (.w (.chk (.fit 22 (.v 1))) (.ite (.bin .eql (.bin .rem (.proj 0 (.v 1)) (.c (.i .u8 4))) (.c (.i .u8 0))) Hd8 Dn7)))
theorem Em3 : type_of% (And.intro (tev_eq @Ij6.eq_1) (And.intro (tev_eq @Hm1.eq_1) (And.intro (tev_eq @Hd8.eq_1) (And.intro (tev_eq @Hz1.eq_1) (And.intro (tev_eq @Hw3.eq_1) (And.intro (tev_eq @Hk6.eq_1) (And.intro (tev_eq @Gt0.eq_1) (And.intro (tev_eq @Gp9.eq_1) (And.intro (tev_eq @Gn0.eq_1) (And.intro (tev_eq @Gl7.eq_1) (And.intro (tev_eq @Ek5.eq_1) (And.intro (tev_eq @Ej5.eq_1) (And.intro (tev_eq @Dt6.eq_1) (And.intro (tev_eq @Ds8.eq_1) (And.intro (tev_eq @Ds2.eq_1) (And.intro (tev_eq @Dr7.eq_1) (And.intro (tev_eq @Dr2.eq_1) (And.intro (tev_eq @Dp7.eq_1) (And.intro (tev_eq @Dp2.eq_1) (And.intro (tev_eq @Dn7.eq_1) (tev_eq @Fj8.eq_1))))))))))))))))))))) := (And.intro (tev_eq @Ij6.eq_1) (And.intro (tev_eq @Hm1.eq_1) (And.intro (tev_eq @Hd8.eq_1) (And.intro (tev_eq @Hz1.eq_1) (And.intro (tev_eq @Hw3.eq_1) (And.intro (tev_eq @Hk6.eq_1) (And.intro (tev_eq @Gt0.eq_1) (And.intro (tev_eq @Gp9.eq_1) (And.intro (tev_eq @Gn0.eq_1) (And.intro (tev_eq @Gl7.eq_1) (And.intro (tev_eq @Ek5.eq_1) (And.intro (tev_eq @Ej5.eq_1) (And.intro (tev_eq @Dt6.eq_1) (And.intro (tev_eq @Ds8.eq_1) (And.intro (tev_eq @Ds2.eq_1) (And.intro (tev_eq @Dr7.eq_1) (And.intro (tev_eq @Dr2.eq_1) (And.intro (tev_eq @Dp7.eq_1) (And.intro (tev_eq @Dp2.eq_1) (And.intro (tev_eq @Dn7.eq_1) (tev_eq @Fj8.eq_1)))))))))))))))))))))
def Ij5 : T := (.w (.chk (.fit 34 (.sub 0 34 (.v 0)))) (.ret [.sub 0 34 (.sub 0 34 (.v 0)), .agg [.c (.i .i64 0), .c (.i .i64 0), .c (.i .i64 0), .c (.b false), .c (.b false), .c (.b false), .c (.b false), .c (.b false), .c (.b false), .c (.b false), .c (.b false), .c (.i .i64 0), .c (.s []), .c (.i .i64 0), .c (.l 16 []), .c (.l 16 []), .c (.l 16 [])], .c (.b false)]))
def Hm0 : T := (.w (.chk (.scal (.c (.i .i64 4)))) (.w (.chk (.scal (.c (.i .i64 9)))) (.ret [.agg [.proj 0 (.v 0), .proj 1 (.v 0), .proj 2 (.v 0), .proj 3 (.v 0), .proj 4 (.v 0), .proj 5 (.v 0), .proj 6 (.v 0), .c (.i .i64 4), .proj 8 (.v 0), .proj 9 (.v 0), .proj 10 (.v 0), .proj 11 (.v 0), .proj 12 (.v 0), .proj 13 (.v 0), .proj 14 (.v 0), .proj 15 (.v 0), .proj 16 (.v 0), .proj 17 (.v 0), .proj 18 (.v 0), .proj 19 (.v 0), .proj 20 (.v 0), .proj 21 (.v 0), .proj 22 (.v 0), .proj 23 (.v 0), .proj 24 (.v 0), .proj 25 (.v 0), .proj 26 (.v 0), .proj 27 (.v 0), .proj 28 (.v 0), .proj 29 (.v 0), .proj 30 (.v 0), .proj 31 (.v 0), .proj 32 (.v 0), .c (.i .i64 9)], .agg [.c (.i .i64 0), .c (.i .i64 0), .c (.i .i64 0), .c (.b false), .c (.b false), .c (.b false), .c (.b false), .c (.b false), .c (.b false), .c (.b false), .c (.b false), .c (.i .i64 0), .c (.s []), .c (.i .i64 0), .c (.l 16 []), .c (.l 16 []), .c (.l 16 [])], .c (.b false)])))
def Hd7 : T := (.w (.chk (.fit 2 (.v 5))) (.w (.chk (.scal (.c (.i .i64 1)))) (.w (.chk (.scal (.bin .add (.proj 14 (.v 0)) (.c (.i .i64 1))))) (.w (.chk (.scal (.c (.b true)))) (.w (.chk (.scal (.c (.i .i64 1232)))) (.w (.chk (.fit 2 (.sub 0 2 (.v 5)))) (.ret [.agg [.proj 0 (.v 0), .proj 1 (.v 0), .proj 2 (.v 0), .proj 3 (.v 0), .proj 4 (.v 0), .proj 5 (.v 0), .proj 6 (.v 0), .c (.i .i64 1), .proj 8 (.v 0), .proj 0 (.sub 0 3 (.v 1)), .proj 1 (.sub 0 3 (.v 1)), .proj 2 (.sub 0 3 (.v 1)), .proj 0 (.v 5), .proj 1 (.v 5), .bin .add (.proj 14 (.v 0)) (.c (.i .i64 1)), .proj 15 (.v 0), .proj 16 (.v 0), .proj 17 (.v 0), .proj 18 (.v 0), .proj 19 (.v 0), .proj 20 (.v 0), .proj 21 (.v 0), .proj 22 (.v 0), .proj 23 (.v 0), .proj 24 (.v 0), .proj 25 (.v 0), .proj 26 (.v 0), .proj 27 (.v 0), .proj 28 (.v 0), .proj 29 (.v 0), .proj 30 (.v 0), .proj 31 (.v 0), .proj 32 (.v 0), .proj 33 (.v 0)], .agg [.c (.i .i64 0), .c (.i .i64 0), .c (.i .i64 0), .c (.b false), .c (.b false), .c (.b false), .c (.b false), .c (.b false), .c (.b false), .c (.b false), .c (.b true), .c (.i .i64 1232), .proj 0 (.sub 0 2 (.v 5)), .proj 1 (.sub 0 2 (.v 5)), .c (.l 16 []), .c (.l 16 []), .c (.l 16 [])], .c (.b true)])))))))
def Hz0 : T := (.w (.call none true Gw8 [.v 4, .proj 3 (.v 0), .proj 8 (.v 0)] 2) Hd7)
def Hw2 : T := (.w (.chk (.fit 3 (.sub 0 3 (.v 1)))) (.w (.call none true Fz6 [.agg [.proj 0 (.v 0), .proj 1 (.v 0), .proj 2 (.v 0), .proj 3 (.v 0), .proj 4 (.v 0), .proj 5 (.v 0), .proj 6 (.v 0), .proj 7 (.v 0), .proj 8 (.v 0), .proj 0 (.sub 0 3 (.v 1)), .proj 1 (.sub 0 3 (.v 1)), .proj 2 (.sub 0 3 (.v 1)), .proj 12 (.v 0), .proj 13 (.v 0), .proj 14 (.v 0), .proj 15 (.v 0), .proj 16 (.v 0), .proj 17 (.v 0), .proj 18 (.v 0), .proj 19 (.v 0), .proj 20 (.v 0), .proj 21 (.v 0), .proj 22 (.v 0), .proj 23 (.v 0), .proj 24 (.v 0), .proj 25 (.v 0), .proj 26 (.v 0), .proj 27 (.v 0), .proj 28 (.v 0), .proj 29 (.v 0), .proj 30 (.v 0), .proj 31 (.v 0), .proj 32 (.v 0), .proj 33 (.v 0)]] 1) Hz0))
def Hk5 : T := (.ite (.bin .geq (.proj 14 (.v 0)) (.c (.i .i64 64))) Hm0 Hw2)
def Gs9 : T := (.ite (.ite (.ite (.bin .neq (.proj 7 (.v 0)) (.c (.i .i64 0))) (.c (.b true)) (.un .not (.v 2))) (.c (.b true)) (.v 3)) Ij5 Hk5)
def Gp8 : T := (.w (.chk (.ite (.un .not (.ite (.bin .neq (.proj 7 (.v 0)) (.c (.i .i64 0))) (.c (.b true)) (.un .not (.v 2)))) (.c .u) (.c .u))) (.w (.call (some (.un .not (.ite (.bin .neq (.proj 7 (.v 0)) (.c (.i .i64 0))) (.c (.b true)) (.un .not (.v 2))))) true Bz1 [.proj 6 (.v 0), .sub 0 3 (.v 1)] 1) Gs9))
def Fj7 : T := (.w (.chk (.fit 34 (.v 0))) (.w (.chk (.fit 3 (.v 1))) (.w (.call (some (.un .not (.bin .neq (.proj 7 (.v 0)) (.c (.i .i64 0))))) true Bz1 [.proj 5 (.v 0), .sub 0 3 (.v 1)] 1) Gp8)))
theorem Ff6 : type_of% (And.intro (tev_eq @Ij5.eq_1) (And.intro (tev_eq @Hm0.eq_1) (And.intro (tev_eq @Hd7.eq_1) (And.intro (tev_eq @Hz0.eq_1) (And.intro (tev_eq @Hw2.eq_1) (And.intro (tev_eq @Hk5.eq_1) (And.intro (tev_eq @Gs9.eq_1) (And.intro (tev_eq @Gp8.eq_1) (tev_eq @Fj7.eq_1))))))))) := (And.intro (tev_eq @Ij5.eq_1) (And.intro (tev_eq @Hm0.eq_1) (And.intro (tev_eq @Hd7.eq_1) (And.intro (tev_eq @Hz0.eq_1) (And.intro (tev_eq @Hw2.eq_1) (And.intro (tev_eq @Hk5.eq_1) (And.intro (tev_eq @Gs9.eq_1) (And.intro (tev_eq @Gp8.eq_1) (tev_eq @Fj7.eq_1)))))))))
def Ij4 : T := (.w (.chk (.fit 34 (.sub 0 34 (.v 0)))) (.ret [.sub 0 34 (.sub 0 34 (.v 0))]))
def Hl9 : T := (.w (.chk (.fit 34 (.v 5))) (.ret [.sub 0 34 (.v 5)]))
def Hd6 : T := (.w (.call none false Gw6 [.sub 0 34 (.v 0), .sub 0 17 (.v 2)] 1) Hl9)
def Hy9 : T := (.w (.chk (.fit 34 (.v 5))) (.ret [.sub 0 34 (.v 5)]))
def Hw1 : T := (.w (.call none false Fz5 [.sub 0 34 (.v 0)] 1) Hy9)
def Hk4 : T := (.w (.chk (.fit 34 (.v 5))) (.ret [.sub 0 34 (.v 5)]))
def Gs8 : T := (.w (.call none false Cs9 [.sub 0 34 (.v 0), .c (.i .i64 10)] 1) Hk4)
def Gp7 : T := (.w (.chk (.fit 34 (.v 5))) (.ret [.sub 0 34 (.v 5)]))
def Gm9 : T := (.w (.call none false Cs9 [.sub 0 34 (.v 0), .bin .add (.proj 8 (.v 0)) (.c (.i .i64 1))] 1) Gp7)
def Gl6 : T := (.w (.chk (.fit 34 (.v 5))) (.ret [.sub 0 34 (.v 5)]))
def Ek4 : T := (.w (.call none false Gw5 [.sub 0 34 (.v 0), .sub 0 17 (.v 2)] 1) Gl6)
def Ej4 : T := (.w (.chk (.scal (.c (.i .i64 3)))) (.w (.chk (.fit 17 (.v 5))) (.ret [.agg [.proj 0 (.v 0), .proj 1 (.v 0), .proj 2 (.v 0), .proj 3 (.v 0), .proj 4 (.v 0), .proj 5 (.v 0), .proj 6 (.v 0), .c (.i .i64 3), .proj 8 (.v 0), .proj 9 (.v 0), .proj 10 (.v 0), .proj 11 (.v 0), .proj 12 (.v 0), .proj 13 (.v 0), .proj 14 (.v 0), .proj 15 (.v 0), .proj 0 (.v 5), .proj 1 (.v 5), .proj 2 (.v 5), .proj 3 (.v 5), .proj 4 (.v 5), .proj 5 (.v 5), .proj 6 (.v 5), .proj 7 (.v 5), .proj 8 (.v 5), .proj 9 (.v 5), .proj 10 (.v 5), .proj 11 (.v 5), .proj 12 (.v 5), .proj 13 (.v 5), .proj 14 (.v 5), .proj 15 (.v 5), .proj 16 (.v 5), .proj 33 (.v 0)]])))
def Dt5 : T := (.w (.call none false Cj6 [.sub 0 17 (.v 2), .proj 3 (.v 0)] 1) Ej4)
def Ds7 : T := (.ite (.bin .eql (.v 3) (.c (.i .i64 2))) Ek4 Dt5)
def Ds1 : T := (.ite (.un .not (.eqs false true [.s, .i .i64] (.agg [.proj 12 (.v 0), .proj 13 (.v 0)]) (.v 4))) Gm9 Ds7)
def Dr6 : T := (.ite (.ite (.un .not (.eqs false true [.s, .i .i64] (.agg [.proj 12 (.v 0), .proj 13 (.v 0)]) (.v 4))) (.bin .eql (.v 3) (.c (.i .i64 5))) (.c (.b false))) Gs8 Ds1)
def Dr1 : T := (.ite (.bin .eql (.v 3) (.c (.i .i64 0))) Hw1 Dr6)
def Dp6 : T := (.w (.chk (.eqs false true [.s, .i .i64] (.agg [.proj 12 (.v 0), .proj 13 (.v 0)]) (.v 4))) (.ite (.bin .eql (.v 3) (.c (.i .i64 3))) Hd6 Dr1))
def Dp1 : T := (.w (.call none true Fz6 [.sub 0 34 (.v 0)] 1) Dp6)
def Dn6 : T := (.w (.call none true Gw7 [.sub 0 17 (.v 2), .proj 3 (.v 0)] 1) Dp1)
def Fj6 : T := (.w (.chk (.fit 34 (.v 0))) (.w (.chk (.fit 3 (.v 1))) (.w (.chk (.fit 17 (.v 2))) (.ite (.ite (.ite (.bin .neq (.proj 7 (.v 0)) (.c (.i .i64 1))) (.c (.b true)) (.eqs true true [.b, .i .u64, .i .u64] (.sub 0 3 (.v 1)) (.agg [.proj 9 (.v 0), .proj 10 (.v 0), .proj 11 (.v 0)]))) (.c (.b true)) (.eqs true true [.s, .i .i64] (.agg [.proj 12 (.v 2), .proj 13 (.v 2)]) (.agg [.proj 12 (.v 0), .proj 13 (.v 0)]))) Ij4 Dn6))))
theorem Br6 : type_of% (And.intro (tev_eq @Ij4.eq_1) (And.intro (tev_eq @Hl9.eq_1) (And.intro (tev_eq @Hd6.eq_1) (And.intro (tev_eq @Hy9.eq_1) (And.intro (tev_eq @Hw1.eq_1) (And.intro (tev_eq @Hk4.eq_1) (And.intro (tev_eq @Gs8.eq_1) (And.intro (tev_eq @Gp7.eq_1) (And.intro (tev_eq @Gm9.eq_1) (And.intro (tev_eq @Gl6.eq_1) (And.intro (tev_eq @Ek4.eq_1) (And.intro (tev_eq @Ej4.eq_1) (And.intro (tev_eq @Dt5.eq_1) (And.intro (tev_eq @Ds7.eq_1) (And.intro (tev_eq @Ds1.eq_1) (And.intro (tev_eq @Dr6.eq_1) (And.intro (tev_eq @Dr1.eq_1) (And.intro (tev_eq @Dp6.eq_1) (And.intro (tev_eq @Dp1.eq_1) (And.intro (tev_eq @Dn6.eq_1) (tev_eq @Fj6.eq_1))))))))))))))))))))) := (And.intro (tev_eq @Ij4.eq_1) (And.intro (tev_eq @Hl9.eq_1) (And.intro (tev_eq @Hd6.eq_1) (And.intro (tev_eq @Hy9.eq_1) (And.intro (tev_eq @Hw1.eq_1) (And.intro (tev_eq @Hk4.eq_1) (And.intro (tev_eq @Gs8.eq_1) (And.intro (tev_eq @Gp7.eq_1) (And.intro (tev_eq @Gm9.eq_1) (And.intro (tev_eq @Gl6.eq_1) (And.intro (tev_eq @Ek4.eq_1) (And.intro (tev_eq @Ej4.eq_1) (And.intro (tev_eq @Dt5.eq_1) (And.intro (tev_eq @Ds7.eq_1) (And.intro (tev_eq @Ds1.eq_1) (And.intro (tev_eq @Dr6.eq_1) (And.intro (tev_eq @Dr1.eq_1) (And.intro (tev_eq @Dp6.eq_1) (And.intro (tev_eq @Dp1.eq_1) (And.intro (tev_eq @Dn6.eq_1) (tev_eq @Fj6.eq_1)))))))))))))))))))))
def Ij3 : T := (.yld 1 [.bin .add (.v 2) (.c (.i .i64 1))])
def Hl8 : T := (.ite (.eqs true true [.s, .i .i64, .i .i64, .b, .i .u64, .i .u64, .s, .s, .s, .i .i64, .i .i64, .i .i64, .i .i64, .i .i64, .i .i64, .i .u64] (.sub 0 16 (.idx 16 (.v 0) (.v 2))) (.sub 0 16 (.idx 16 (.v 1) (.v 2)))) (.ret [.c (.b false)]) Ij3)
def Iw3 : T := (.ite (.bin .lss (.v 2) (.len (.v 0))) Hl8 (.yld 0 []))
def Jj4 : T := .loop 1 [.c (.i .i64 0)] Iw3
def Hd5 : T := (.blk 0 Jj4 (.ret [.c (.b true)]))
def Fj5 : T := (.ite (.bin .neq (.len (.v 0)) (.len (.v 1))) (.ret [.c (.b false)]) Hd5)
theorem Jk9 : type_of% (And.intro (tev_eq @Ij3.eq_1) (And.intro (tev_eq @Hl8.eq_1) (And.intro (tev_eq @Iw3.eq_1) (And.intro (tev_eq @Hd5.eq_1) (tev_eq @Fj5.eq_1))))) := (And.intro (tev_eq @Ij3.eq_1) (And.intro (tev_eq @Hl8.eq_1) (And.intro (tev_eq @Iw3.eq_1) (And.intro (tev_eq @Hd5.eq_1) (tev_eq @Fj5.eq_1)))))
def Ij2 : T := (.w (.chk (.fit 34 (.v 0))) (.w (.chk (.fit 34 (.sub 0 34 (.v 0)))) (.ret [.sub 0 34 (.sub 0 34 (.v 0))])))
def Fj4 : T := (.w (.chk (.scal (.c (.s [97, 46, 100, 46, 120, 46])))) (.w (.chk (.scal (.c (.i .i64 1)))) (.w (.chk (.scal (.c (.i .u64 7)))) (.w (.call none false n_u7 [.agg [.c (.s [97, 46, 100, 46, 120, 46]), .c (.i .i64 1)], .c (.s [120, 46]), .c (.l 1 []), .lit 3 [.agg [.c (.b false), .c (.i .u64 0), .c (.i .u64 7)]]] 2) Ij2))))
theorem Lw6 : type_of% (And.intro (tev_eq @Ij2.eq_1) (tev_eq @Fj4.eq_1)) := (And.intro (tev_eq @Ij2.eq_1) (tev_eq @Fj4.eq_1))
def Ij1 : T := (.yld 1 [.bin .add (.v 1) (.c (.i .i64 1))])
def Hl7 : T := (.ite (.ite (.ite (.ite (.bin .gtr (.slen (.proj 0 (.idx 16 (.v 0) (.v 1)))) (.c (.i .i64 300))) (.c (.b true)) (.bin .gtr (.slen (.proj 6 (.idx 16 (.v 0) (.v 1)))) (.c (.i .i64 300)))) (.c (.b true)) (.bin .gtr (.slen (.proj 7 (.idx 16 (.v 0) (.v 1)))) (.c (.i .i64 300)))) (.c (.b true)) (.bin .gtr (.slen (.proj 8 (.idx 16 (.v 0) (.v 1)))) (.c (.i .i64 300)))) (.ret [.c (.b false)]) Ij1)
def Iw2 : T := (.ite (.bin .lss (.v 1) (.len (.v 0))) Hl7 (.yld 0 []))
def Jj3 : T := .loop 1 [.c (.i .i64 0)] Iw2
def Hd4 : T := (.blk 0 Jj3 (.ret [.c (.b true)]))
def Fj3 : T := (.ite (.bin .gtr (.len (.v 0)) (.c (.i .i64 20))) (.ret [.c (.b false)]) Hd4)
theorem Br5 : type_of% (And.intro (tev_eq @Ij1.eq_1) (And.intro (tev_eq @Hl7.eq_1) (And.intro (tev_eq @Iw2.eq_1) (And.intro (tev_eq @Hd4.eq_1) (tev_eq @Fj3.eq_1))))) := (And.intro (tev_eq @Ij1.eq_1) (And.intro (tev_eq @Hl7.eq_1) (And.intro (tev_eq @Iw2.eq_1) (And.intro (tev_eq @Hd4.eq_1) (tev_eq @Fj3.eq_1)))))
def Ij0 : T := (.ret [.ite (.ite (.v 2) (.v 3) (.c (.b false))) (.v 4) (.c (.b false))])
def Hl6 : T := (.w (.chk (.ite (.ite (.v 2) (.v 3) (.c (.b false))) (.c .u) (.c .u))) (.w (.call (some (.ite (.v 2) (.v 3) (.c (.b false)))) true Gw4 [.v 0, .v 1] 1) Ij0))
def Hd3 : T := (.w (.chk (.ite (.v 2) (.c .u) (.c .u))) (.w (.call (some (.v 2)) true Cc6 [.v 1] 1) Hl6))
def Fj2 : T := (.w (.call none true Cc6 [.v 0] 1) Hd3)
theorem Jk8 : type_of% (And.intro (tev_eq @Ij0.eq_1) (And.intro (tev_eq @Hl6.eq_1) (And.intro (tev_eq @Hd3.eq_1) (tev_eq @Fj2.eq_1)))) := (And.intro (tev_eq @Ij0.eq_1) (And.intro (tev_eq @Hl6.eq_1) (And.intro (tev_eq @Hd3.eq_1) (tev_eq @Fj2.eq_1))))
def Ht9 : T := (.w (.chk (.fit 3 (.v 1))) (.ret [.v 2]))
def Fj1 : T := (.w (.call none true Gw3 [.v 0] 2) Ht9)
theorem Kk0 : type_of% (And.intro (tev_eq @Ht9.eq_1) (tev_eq @Fj1.eq_1)) := (And.intro (tev_eq @Ht9.eq_1) (tev_eq @Fj1.eq_1))
def Fj0 : T := (.w (.call none false Fz4 [.lsl 1 (.v 0) (.c (.i .i64 0)) (.mn (.len (.v 0)) (.c (.i .i64 16)))] 1) (.ret [.v 1]))
theorem Kj9 : type_of% (tev_eq @Fj0.eq_1) := (tev_eq @Fj0.eq_1)
def Et9 : T := (.w (.call none false Fz3 [.lsl 3 (.v 0) (.c (.i .i64 0)) (.mn (.len (.v 0)) (.c (.i .i64 16)))] 1) (.ret [.v 1]))
theorem Kj8 : type_of% (tev_eq @Et9.eq_1) := (tev_eq @Et9.eq_1)
def Ht8 : T := (.w (.chk (.scal (.c (.i .i64 0)))) (.ret [.agg [.proj 0 (.v 0), .proj 1 (.v 0), .proj 2 (.v 0), .proj 3 (.v 0), .proj 4 (.v 0), .proj 5 (.v 0), .proj 6 (.v 0), .c (.i .i64 0), .proj 8 (.v 0), .proj 9 (.v 0), .proj 10 (.v 0), .proj 11 (.v 0), .proj 12 (.v 0), .proj 13 (.v 0), .proj 14 (.v 0), .proj 15 (.v 0), .proj 16 (.v 0), .proj 17 (.v 0), .proj 18 (.v 0), .proj 19 (.v 0), .proj 20 (.v 0), .proj 21 (.v 0), .proj 22 (.v 0), .proj 23 (.v 0), .proj 24 (.v 0), .proj 25 (.v 0), .proj 26 (.v 0), .proj 27 (.v 0), .proj 28 (.v 0), .proj 29 (.v 0), .proj 30 (.v 0), .proj 31 (.v 0), .proj 32 (.v 0), .proj 33 (.v 0)]]))
def Hl5 : T := (.w (.chk (.scal (.c (.i .i64 2)))) (.ret [.agg [.proj 0 (.v 0), .proj 1 (.v 0), .proj 2 (.v 0), .proj 3 (.v 0), .proj 4 (.v 0), .proj 5 (.v 0), .proj 6 (.v 0), .c (.i .i64 2), .proj 8 (.v 0), .proj 9 (.v 0), .proj 10 (.v 0), .proj 11 (.v 0), .proj 12 (.v 0), .proj 13 (.v 0), .proj 14 (.v 0), .proj 15 (.v 0), .proj 16 (.v 0), .proj 17 (.v 0), .proj 18 (.v 0), .proj 19 (.v 0), .proj 20 (.v 0), .proj 21 (.v 0), .proj 22 (.v 0), .proj 23 (.v 0), .proj 24 (.v 0), .proj 25 (.v 0), .proj 26 (.v 0), .proj 27 (.v 0), .proj 28 (.v 0), .proj 29 (.v 0), .proj 30 (.v 0), .proj 31 (.v 0), .proj 32 (.v 0), .proj 33 (.v 0)]]))
def Hd2 : T := (.w (.chk (.scal (.c (.i .i64 4)))) (.w (.chk (.scal (.c (.i .i64 29)))) (.ret [.agg [.proj 0 (.v 0), .proj 1 (.v 0), .proj 2 (.v 0), .proj 3 (.v 0), .proj 4 (.v 0), .proj 5 (.v 0), .proj 6 (.v 0), .c (.i .i64 4), .proj 8 (.v 0), .proj 9 (.v 0), .proj 10 (.v 0), .proj 11 (.v 0), .proj 12 (.v 0), .proj 13 (.v 0), .proj 14 (.v 0), .proj 15 (.v 0), .proj 16 (.v 0), .proj 17 (.v 0), .proj 18 (.v 0), .proj 19 (.v 0), .proj 20 (.v 0), .proj 21 (.v 0), .proj 22 (.v 0), .proj 23 (.v 0), .proj 24 (.v 0), .proj 25 (.v 0), .proj 26 (.v 0), .proj 27 (.v 0), .proj 28 (.v 0), .proj 29 (.v 0), .proj 30 (.v 0), .proj 31 (.v 0), .proj 32 (.v 0), .c (.i .i64 29)]])))
def Hy8 : T := (.ite (.v 2) Hl5 Hd2)
def Hw0 : T := (.w (.call none true Gw1 [.proj 4 (.v 0), .clo Fz1 [.agg [.proj 0 (.v 0), .proj 1 (.v 0), .proj 2 (.v 0), .proj 3 (.v 0), .proj 4 (.v 0), .proj 5 (.v 0), .proj 6 (.v 0), .proj 7 (.v 0), .proj 8 (.v 0), .proj 9 (.v 0), .proj 10 (.v 0), .proj 11 (.v 0), .proj 12 (.v 0), .proj 13 (.v 0), .proj 14 (.v 0), .proj 15 (.v 0), .proj 16 (.v 0), .proj 17 (.v 0), .proj 18 (.v 0), .proj 19 (.v 0), .proj 20 (.v 0), .proj 21 (.v 0), .proj 22 (.v 0), .proj 23 (.v 0), .proj 24 (.v 0), .proj 25 (.v 0), .proj 26 (.v 0), .proj 27 (.v 0), .proj 28 (.v 0), .proj 29 (.v 0), .proj 30 (.v 0), .proj 31 (.v 0), .proj 32 (.v 0), .proj 33 (.v 0)]]] 1) Hy8)
def Hk3 : T := (.ite (.v 1) Ht8 Hw0)
def Et8 : T := (.w (.chk (.fit 34 (.v 0))) (.w (.call none true Gw2 [.proj 5 (.v 0), .clo Fz2 [.agg [.proj 0 (.v 0), .proj 1 (.v 0), .proj 2 (.v 0), .proj 3 (.v 0), .proj 4 (.v 0), .proj 5 (.v 0), .proj 6 (.v 0), .proj 7 (.v 0), .proj 8 (.v 0), .proj 9 (.v 0), .proj 10 (.v 0), .proj 11 (.v 0), .proj 12 (.v 0), .proj 13 (.v 0), .proj 14 (.v 0), .proj 15 (.v 0), .proj 16 (.v 0), .proj 17 (.v 0), .proj 18 (.v 0), .proj 19 (.v 0), .proj 20 (.v 0), .proj 21 (.v 0), .proj 22 (.v 0), .proj 23 (.v 0), .proj 24 (.v 0), .proj 25 (.v 0), .proj 26 (.v 0), .proj 27 (.v 0), .proj 28 (.v 0), .proj 29 (.v 0), .proj 30 (.v 0), .proj 31 (.v 0), .proj 32 (.v 0), .proj 33 (.v 0)]]] 1) Hk3))
theorem Jk7 : type_of% (And.intro (tev_eq @Ht8.eq_1) (And.intro (tev_eq @Hl5.eq_1) (And.intro (tev_eq @Hd2.eq_1) (And.intro (tev_eq @Hy8.eq_1) (And.intro (tev_eq @Hw0.eq_1) (And.intro (tev_eq @Hk3.eq_1) (tev_eq @Et8.eq_1))))))) := (And.intro (tev_eq @Ht8.eq_1) (And.intro (tev_eq @Hl5.eq_1) (And.intro (tev_eq @Hd2.eq_1) (And.intro (tev_eq @Hy8.eq_1) (And.intro (tev_eq @Hw0.eq_1) (And.intro (tev_eq @Hk3.eq_1) (tev_eq @Et8.eq_1)))))))
def Ht7 : T := (.ret [.ite (.ite (.v 3) (.v 5) (.c (.b false))) (.bin .eql (.v 6) (.len (.v 4))) (.c (.b false))])
def Hl4 : T := (.w (.chk (.ite (.ite (.v 3) (.v 5) (.c (.b false))) (.c .u) (.c .u))) (.w (.call (some (.ite (.v 3) (.v 5) (.c (.b false)))) true Gw0 [.v 2, .v 4] 1) Ht7))
def Hd1 : T := (.w (.call none false Cc4 [.v 1] 2) Hl4)
def Et7 : T := (.w (.call none false Cc4 [.v 0] 2) Hd1)
theorem Lw5 : type_of% (And.intro (tev_eq @Ht7.eq_1) (And.intro (tev_eq @Hl4.eq_1) (And.intro (tev_eq @Hd1.eq_1) (tev_eq @Et7.eq_1)))) := (And.intro (tev_eq @Ht7.eq_1) (And.intro (tev_eq @Hl4.eq_1) (And.intro (tev_eq @Hd1.eq_1) (tev_eq @Et7.eq_1))))
def Ht6 : T := (.ret [.bin .neq (.v 1) (.c (.s []))])
def Et6 : T := (.w (.call none true Gv9 [.v 0] 1) Ht6)
theorem Lw4 : type_of% (And.intro (tev_eq @Ht6.eq_1) (tev_eq @Et6.eq_1)) := (And.intro (tev_eq @Ht6.eq_1) (tev_eq @Et6.eq_1))
def Ht5 : T := (.w (.chk (.scal (.proj 0 (.idx 1 (.v 0) (.v 2))))) (.yld 1 [.app 1 (.v 1) (.lit 1 [.proj 0 (.idx 1 (.v 0) (.v 2))]), .bin .add (.v 2) (.c (.i .i64 1))]))
def Iw1 : T := (.ite (.ite (.bin .lss (.v 2) (.len (.v 0))) (.bin .lss (.v 2) (.c (.i .i64 16))) (.c (.b false))) Ht5 (.yld 0 [.v 1]))
def Jj2 : T := .loop 1 [.c (.l 1 []), .c (.i .i64 0)] Iw1
def Et5 : T := (.blk 0 Jj2 (.ret [.v 1]))
theorem Iy5 : type_of% (And.intro (tev_eq @Ht5.eq_1) (And.intro (tev_eq @Iw1.eq_1) (tev_eq @Et5.eq_1))) := (And.intro (tev_eq @Ht5.eq_1) (And.intro (tev_eq @Iw1.eq_1) (tev_eq @Et5.eq_1)))
def Ht4 : T := (.w (.chk (.scal (.c (.i .i64 0)))) (.ret [.agg [.proj 0 (.v 0), .proj 1 (.v 0), .proj 2 (.v 0), .proj 3 (.v 0), .proj 4 (.v 0), .proj 5 (.v 0), .proj 6 (.v 0), .c (.i .i64 0), .proj 8 (.v 0), .proj 9 (.v 0), .proj 10 (.v 0), .proj 11 (.v 0), .proj 12 (.v 0), .proj 13 (.v 0), .proj 14 (.v 0), .proj 15 (.v 0), .proj 16 (.v 0), .proj 17 (.v 0), .proj 18 (.v 0), .proj 19 (.v 0), .proj 20 (.v 0), .proj 21 (.v 0), .proj 22 (.v 0), .proj 23 (.v 0), .proj 24 (.v 0), .proj 25 (.v 0), .proj 26 (.v 0), .proj 27 (.v 0), .proj 28 (.v 0), .proj 29 (.v 0), .proj 30 (.v 0), .proj 31 (.v 0), .proj 32 (.v 0), .proj 33 (.v 0)]]))
def Hl3 : T := (.yld 1 [.bin .add (.v 1) (.c (.i .i64 1)), .v 2, .v 3, .v 4, .v 5, .v 6, .v 7, .v 8, .v 9, .v 10, .v 11, .v 12, .v 13, .v 14, .v 15, .v 16, .v 17, .v 18, .v 19, .v 20, .v 21, .v 22, .v 23, .v 24, .v 25, .v 26, .v 27, .v 28, .v 29, .v 30, .v 31, .v 32, .v 33, .v 34, .v 35, .v 36])
def Hd0 : T := (.ite (.un .not (.v 37)) Ht4 Hl3)
def Hy7 : T := (.w (.call none true Cj5 [.proj 6 (.v 0), .sub 0 3 (.idx 3 (.proj 5 (.v 0)) (.v 1))] 1) Hd0)
def Hv9 : T := (.yld 0 [.v 2, .v 3, .v 4, .v 5, .v 6, .v 7, .v 8, .v 9, .v 10, .v 11, .v 12, .v 13, .v 14, .v 15, .v 16, .v 17, .v 18, .v 19, .v 20, .v 21, .v 22, .v 23, .v 24, .v 25, .v 26, .v 27, .v 28, .v 29, .v 30, .v 31, .v 32, .v 33, .v 34, .v 35, .v 36])
def Iw0 : T := (.ite (.bin .lss (.v 1) (.len (.proj 5 (.v 0)))) Hy7 Hv9)
def Jj1 : T := .loop 1 [.c (.i .i64 0), .proj 7 (.v 0), .c (.s []), .c (.i .i64 0), .c (.s []), .c (.s []), .c (.l 1 []), .c (.l 3 []), .c (.l 3 []), .c (.i .i64 0), .c (.i .i64 0), .c (.b false), .c (.i .u64 0), .c (.i .u64 0), .c (.s []), .c (.i .i64 0), .c (.i .i64 0), .c (.l 16 []), .c (.i .i64 0), .c (.i .i64 0), .c (.i .i64 0), .c (.b false), .c (.b false), .c (.b false), .c (.b false), .c (.b false), .c (.b false), .c (.b false), .c (.b false), .c (.i .i64 0), .c (.s []), .c (.i .i64 0), .c (.l 16 []), .c (.l 16 []), .c (.l 16 []), .c (.i .i64 0)] Iw0
def Hk2 : T := (.w (.chk (.scal (.c (.i .i64 2)))) (.ret [.agg [.proj 0 (.v 0), .proj 1 (.v 0), .proj 2 (.v 0), .proj 3 (.v 0), .proj 4 (.v 0), .proj 5 (.v 0), .proj 6 (.v 0), .c (.i .i64 2), .proj 8 (.v 0), .proj 9 (.v 0), .proj 10 (.v 0), .proj 11 (.v 0), .proj 12 (.v 0), .proj 13 (.v 0), .proj 14 (.v 0), .proj 15 (.v 0), .proj 16 (.v 0), .proj 17 (.v 0), .proj 18 (.v 0), .proj 19 (.v 0), .proj 20 (.v 0), .proj 21 (.v 0), .proj 22 (.v 0), .proj 23 (.v 0), .proj 24 (.v 0), .proj 25 (.v 0), .proj 26 (.v 0), .proj 27 (.v 0), .proj 28 (.v 0), .proj 29 (.v 0), .proj 30 (.v 0), .proj 31 (.v 0), .proj 32 (.v 0), .proj 33 (.v 0)]]))
def Gs7 : T := (.yld 1 [.bin .add (.v 36) (.c (.i .i64 1)), .v 37, .v 38, .v 39, .v 40, .v 41, .v 42, .v 43, .v 44, .v 45, .v 46, .v 47, .v 48, .v 49, .v 50, .v 51, .v 52, .v 53, .v 54, .v 55, .v 56, .v 57, .v 58, .v 59, .v 60, .v 61, .v 62, .v 63, .v 64, .v 65, .v 66, .v 67, .v 68, .v 69, .v 70, .v 71])
def Gp6 : T := (.ite (.un .not (.v 72)) Hk2 Gs7)
def Gm8 : T := (.w (.call none true Am8 [.proj 0 (.idx 1 (.proj 4 (.v 0)) (.v 36)), .proj 3 (.v 0)] 1) Gp6)
def Gl5 : T := (.yld 0 [.v 37, .v 38, .v 39, .v 40, .v 41, .v 42, .v 43, .v 44, .v 45, .v 46, .v 47, .v 48, .v 49, .v 50, .v 51, .v 52, .v 53, .v 54, .v 55, .v 56, .v 57, .v 58, .v 59, .v 60, .v 61, .v 62, .v 63, .v 64, .v 65, .v 66, .v 67, .v 68, .v 69, .v 70, .v 71])
def Iq5 : T := (.ite (.bin .lss (.v 36) (.len (.proj 4 (.v 0)))) Gm8 Gl5)
def Is5 : T := .loop 1 [.c (.i .i64 0), .v 1, .v 2, .v 3, .v 4, .v 5, .v 6, .v 7, .v 8, .v 9, .v 10, .v 11, .v 12, .v 13, .v 14, .v 15, .v 16, .v 17, .v 18, .v 19, .v 20, .v 21, .v 22, .v 23, .v 24, .v 25, .v 26, .v 27, .v 28, .v 29, .v 30, .v 31, .v 32, .v 33, .v 34, .v 35] Iq5
def Ek3 : T := (.w (.chk (.scal (.c (.i .i64 4)))) (.w (.chk (.scal (.c (.i .i64 29)))) (.ret [.agg [.proj 0 (.v 0), .proj 1 (.v 0), .proj 2 (.v 0), .proj 3 (.v 0), .proj 4 (.v 0), .proj 5 (.v 0), .proj 6 (.v 0), .c (.i .i64 4), .proj 8 (.v 0), .proj 9 (.v 0), .proj 10 (.v 0), .proj 11 (.v 0), .proj 12 (.v 0), .proj 13 (.v 0), .proj 14 (.v 0), .proj 15 (.v 0), .proj 16 (.v 0), .proj 17 (.v 0), .proj 18 (.v 0), .proj 19 (.v 0), .proj 20 (.v 0), .proj 21 (.v 0), .proj 22 (.v 0), .proj 23 (.v 0), .proj 24 (.v 0), .proj 25 (.v 0), .proj 26 (.v 0), .proj 27 (.v 0), .proj 28 (.v 0), .proj 29 (.v 0), .proj 30 (.v 0), .proj 31 (.v 0), .proj 32 (.v 0), .c (.i .i64 29)]])))
def Ej3 : T := (.blk 0 Is5 Ek3)
def Et4 : T := (.w (.chk (.fit 34 (.v 0))) (.blk 0 Jj1 Ej3))
theorem Br4 : type_of% (And.intro (tev_eq @Ht4.eq_1) (And.intro (tev_eq @Hl3.eq_1) (And.intro (tev_eq @Hd0.eq_1) (And.intro (tev_eq @Hy7.eq_1) (And.intro (tev_eq @Hv9.eq_1) (And.intro (tev_eq @Iw0.eq_1) (And.intro (tev_eq @Hk2.eq_1) (And.intro (tev_eq @Gs7.eq_1) (And.intro (tev_eq @Gp6.eq_1) (And.intro (tev_eq @Gm8.eq_1) (And.intro (tev_eq @Gl5.eq_1) (And.intro (tev_eq @Iq5.eq_1) (And.intro (tev_eq @Ek3.eq_1) (And.intro (tev_eq @Ej3.eq_1) (tev_eq @Et4.eq_1))))))))))))))) := (And.intro (tev_eq @Ht4.eq_1) (And.intro (tev_eq @Hl3.eq_1) (And.intro (tev_eq @Hd0.eq_1) (And.intro (tev_eq @Hy7.eq_1) (And.intro (tev_eq @Hv9.eq_1) (And.intro (tev_eq @Iw0.eq_1) (And.intro (tev_eq @Hk2.eq_1) (And.intro (tev_eq @Gs7.eq_1) (And.intro (tev_eq @Gp6.eq_1) (And.intro (tev_eq @Gm8.eq_1) (And.intro (tev_eq @Gl5.eq_1) (And.intro (tev_eq @Iq5.eq_1) (And.intro (tev_eq @Ek3.eq_1) (And.intro (tev_eq @Ej3.eq_1) (tev_eq @Et4.eq_1)))))))))))))))
def Ht3 : T := (.yld 1 [.bin .add (.v 2) (.c (.i .i64 1))])
def Hl2 : T := (.ite (.eqs true true [.b, .i .u64, .i .u64] (.sub 0 3 (.idx 3 (.v 0) (.v 2))) (.sub 0 3 (.idx 3 (.v 1) (.v 2)))) (.ret [.c (.b false)]) Ht3)
def Iv9 : T := (.ite (.bin .lss (.v 2) (.len (.v 0))) Hl2 (.yld 0 []))
def Jj0 : T := .loop 1 [.c (.i .i64 0)] Iv9
def Hc9 : T := (.blk 0 Jj0 (.ret [.c (.b true)]))
def Et3 : T := (.ite (.bin .neq (.len (.v 0)) (.len (.v 1))) (.ret [.c (.b false)]) Hc9)
theorem Jk6 : type_of% (And.intro (tev_eq @Ht3.eq_1) (And.intro (tev_eq @Hl2.eq_1) (And.intro (tev_eq @Iv9.eq_1) (And.intro (tev_eq @Hc9.eq_1) (tev_eq @Et3.eq_1))))) := (And.intro (tev_eq @Ht3.eq_1) (And.intro (tev_eq @Hl2.eq_1) (And.intro (tev_eq @Iv9.eq_1) (And.intro (tev_eq @Hc9.eq_1) (tev_eq @Et3.eq_1)))))
def Ht2 : T := (.yld 1 [.bin .add (.v 1) (.len (.proj 0 (.idx 1 (.v 0) (.v 2)))), .bin .add (.v 2) (.c (.i .i64 1))])
def Hl1 : T := (.ite (.bin .lss (.bin .add (.v 1) (.len (.proj 0 (.idx 1 (.v 0) (.v 2))))) (.c (.i .i64 0))) (.ret [.scal (.c .u)]) Ht2)
def Iv8 : T := (.ite (.bin .lss (.v 2) (.len (.v 0))) Hl1 (.yld 0 [.v 1]))
def It9 : T := .loop 1 [.c (.i .i64 0), .c (.i .i64 0)] Iv8
def Hc8 : T := (.yld 1 [.app 16 (.v 3) (.proj 0 (.idx 1 (.v 0) (.v 4))), .bin .add (.v 4) (.c (.i .i64 1))])
def Iq4 : T := (.ite (.bin .lss (.v 4) (.len (.v 0))) Hc8 (.yld 0 [.v 3]))
def Is4 : T := .loop 1 [.v 2, .c (.i .i64 0)] Iq4
def Hy6 : T := (.w (.chk (.len (.v 0))) (.blk 0 Is4 (.ret [.v 3])))
def Hv8 : T := (.w (.mcall Gv8 [.c (.l 16 []), .v 1]) Hy6)
def Et2 : T := (.w (.chk (.len (.v 0))) (.blk 0 It9 Hv8))
theorem Cn8 : type_of% (And.intro (tev_eq @Ht2.eq_1) (And.intro (tev_eq @Hl1.eq_1) (And.intro (tev_eq @Iv8.eq_1) (And.intro (tev_eq @Hc8.eq_1) (And.intro (tev_eq @Iq4.eq_1) (And.intro (tev_eq @Hy6.eq_1) (And.intro (tev_eq @Hv8.eq_1) (tev_eq @Et2.eq_1)))))))) := (And.intro (tev_eq @Ht2.eq_1) (And.intro (tev_eq @Hl1.eq_1) (And.intro (tev_eq @Iv8.eq_1) (And.intro (tev_eq @Hc8.eq_1) (And.intro (tev_eq @Iq4.eq_1) (And.intro (tev_eq @Hy6.eq_1) (And.intro (tev_eq @Hv8.eq_1) (tev_eq @Et2.eq_1))))))))
def Et1 : T := (.w (.chk (.len (.v 0))) (.w (.chk (.lit 16 [])) (.ret [.app 16 (.c (.l 16 [])) (.v 0)])))
theorem Lw3 : type_of% (tev_eq @Et1.eq_1) := (tev_eq @Et1.eq_1)
def Ht1 : T := (.ret [.agg [.c (.b false), .c (.i .u64 0), .c (.i .u64 0)]])
def Hl0 : T := (.w (.chk (.fit 3 (.sub 0 3 (.idx 3 (.v 0) (.bin .rem (.conv .i64 (.v 1)) (.len (.v 0))))))) (.ret [.sub 0 3 (.sub 0 3 (.idx 3 (.v 0) (.bin .rem (.conv .i64 (.v 1)) (.len (.v 0)))))]))
def Et0 : T := (.ite (.bin .eql (.len (.v 0)) (.c (.i .i64 0))) Ht1 Hl0)
theorem Kj7 : type_of% (And.intro (tev_eq @Ht1.eq_1) (And.intro (tev_eq @Hl0.eq_1) (tev_eq @Et0.eq_1))) := (And.intro (tev_eq @Ht1.eq_1) (And.intro (tev_eq @Hl0.eq_1) (tev_eq @Et0.eq_1)))
def Ht0 : T := (.w (.chk (.fit 34 (.sub 0 34 (.v 0)))) (.ret [.sub 0 34 (.sub 0 34 (.v 0))]))
def Hh9 : T := (.w (.chk (.fit 34 (.v 1))) (.ret [.sub 0 34 (.v 1)]))
def Hc7 : T := (.w (.call none false Fz5 [.sub 0 34 (.v 0)] 1) Hh9)
def Es9 : T := (.w (.chk (.fit 34 (.v 0))) (.ite (.bin .neq (.proj 7 (.v 0)) (.c (.i .i64 1))) Ht0 Hc7))
theorem Kj6 : type_of% (And.intro (tev_eq @Ht0.eq_1) (And.intro (tev_eq @Hh9.eq_1) (And.intro (tev_eq @Hc7.eq_1) (tev_eq @Es9.eq_1)))) := (And.intro (tev_eq @Ht0.eq_1) (And.intro (tev_eq @Hh9.eq_1) (And.intro (tev_eq @Hc7.eq_1) (tev_eq @Es9.eq_1))))
def Hs9 : T := (.w (.chk (.fit 34 (.sub 0 34 (.v 0)))) (.ret [.sub 0 34 (.sub 0 34 (.v 0))]))
def Hh8 : T := (.w (.chk (.fit 3 (.sub 0 3 (.sub 0 3 (.idx 3 (.v 2) (.v 6)))))) (.yld 1 [.bin .add (.v 6) (.c (.i .i64 1)), .app 3 (.v 7) (.lit 3 [.sub 0 3 (.sub 0 3 (.idx 3 (.v 2) (.v 6)))])]))
def Hc6 : T := (.yld 1 [.bin .add (.v 6) (.c (.i .i64 1)), .v 7])
def Hy5 : T := (.ite (.ite (.un .not (.v 8)) (.un .not (.v 9)) (.c (.b false))) Hh8 Hc6)
def Hv7 : T := (.w (.chk (.ite (.un .not (.v 8)) (.c .u) (.c .u))) (.w (.call (some (.un .not (.v 8))) true Bz1 [.v 7, .sub 0 3 (.sub 0 3 (.idx 3 (.v 2) (.v 6)))] 1) Hy5))
def Hk1 : T := (.w (.chk (.fit 3 (.sub 0 3 (.idx 3 (.v 2) (.v 6))))) (.w (.call none true Bz1 [.proj 6 (.v 0), .sub 0 3 (.sub 0 3 (.idx 3 (.v 2) (.v 6)))] 1) Hv7))
def Iv7 : T := (.ite (.bin .lss (.v 6) (.len (.v 2))) Hk1 (.yld 0 [.v 7]))
def It8 : T := .loop 1 [.c (.i .i64 0), .c (.l 3 [])] Iv7
def Gs6 : T := (.w (.chk (.fit 34 (.v 8))) (.ret [.sub 0 34 (.v 8)]))
def Gp5 : T := (.w (.call none false Cc8 [.agg [.proj 0 (.v 0), .proj 1 (.v 0), .proj 2 (.v 0), .proj 3 (.v 0), .v 5, .v 7, .proj 6 (.v 0), .proj 7 (.v 0), .proj 8 (.v 0), .proj 9 (.v 0), .proj 10 (.v 0), .proj 11 (.v 0), .proj 12 (.v 0), .proj 13 (.v 0), .proj 14 (.v 0), .proj 15 (.v 0), .proj 16 (.v 0), .proj 17 (.v 0), .proj 18 (.v 0), .proj 19 (.v 0), .proj 20 (.v 0), .proj 21 (.v 0), .proj 22 (.v 0), .proj 23 (.v 0), .proj 24 (.v 0), .proj 25 (.v 0), .proj 26 (.v 0), .proj 27 (.v 0), .proj 28 (.v 0), .proj 29 (.v 0), .proj 30 (.v 0), .proj 31 (.v 0), .proj 32 (.v 0), .proj 33 (.v 0)]] 1) Gs6)
def Gm7 : T := (.w (.call none false Ct1 [.v 6] 1) Gp5)
def Gl4 : T := (.w (.chk (.len (.v 2))) (.blk 0 It8 Gm7))
def Ek2 : T := (.w (.mcall Gv7 [.v 4, .clo Fy9 [.v 1]]) Gl4)
def Ej2 : T := (.w (.call none false Fz4 [.proj 4 (.v 0)] 1) Ek2)
def Dt4 : T := (.ite (.ite (.bin .neq (.proj 7 (.v 0)) (.c (.i .i64 2))) (.c (.b true)) (.un .not (.v 3))) Hs9 Ej2)
def Es8 : T := (.w (.chk (.fit 34 (.v 0))) (.w (.chk (.scal (.v 1))) (.w (.call (some (.un .not (.bin .neq (.proj 7 (.v 0)) (.c (.i .i64 2))))) true Fz0 [.proj 4 (.v 0), .v 1] 1) Dt4)))
theorem Cn7 : type_of% (And.intro (tev_eq @Hs9.eq_1) (And.intro (tev_eq @Hh8.eq_1) (And.intro (tev_eq @Hc6.eq_1) (And.intro (tev_eq @Hy5.eq_1) (And.intro (tev_eq @Hv7.eq_1) (And.intro (tev_eq @Hk1.eq_1) (And.intro (tev_eq @Iv7.eq_1) (And.intro (tev_eq @Gs6.eq_1) (And.intro (tev_eq @Gp5.eq_1) (And.intro (tev_eq @Gm7.eq_1) (And.intro (tev_eq @Gl4.eq_1) (And.intro (tev_eq @Ek2.eq_1) (And.intro (tev_eq @Ej2.eq_1) (And.intro (tev_eq @Dt4.eq_1) (tev_eq @Es8.eq_1))))))))))))))) := (And.intro (tev_eq @Hs9.eq_1) (And.intro (tev_eq @Hh8.eq_1) (And.intro (tev_eq @Hc6.eq_1) (And.intro (tev_eq @Hy5.eq_1) (And.intro (tev_eq @Hv7.eq_1) (And.intro (tev_eq @Hk1.eq_1) (And.intro (tev_eq @Iv7.eq_1) (And.intro (tev_eq @Gs6.eq_1) (And.intro (tev_eq @Gp5.eq_1) (And.intro (tev_eq @Gm7.eq_1) (And.intro (tev_eq @Gl4.eq_1) (And.intro (tev_eq @Ek2.eq_1) (And.intro (tev_eq @Ej2.eq_1) (And.intro (tev_eq @Dt4.eq_1) (tev_eq @Es8.eq_1)))))))))))))))
def Hs8 : T := (.ret [.proj 0 (.idx 1 (.v 0) (.bin .rem (.conv .i64 (.proj 1 (.v 1))) (.len (.v 0))))])
def Es7 : T := (.w (.chk (.fit 22 (.v 1))) (.ite (.ite (.proj 2 (.v 1)) (.c (.b true)) (.bin .eql (.len (.v 0)) (.c (.i .i64 0)))) (.ret [.proj 20 (.v 1)]) Hs8))
theorem Jk5 : type_of% (And.intro (tev_eq @Hs8.eq_1) (tev_eq @Es7.eq_1)) := (And.intro (tev_eq @Hs8.eq_1) (tev_eq @Es7.eq_1))
def Hs7 : T := (.w (.chk (.fit 34 (.sub 0 34 (.v 0)))) (.ret [.sub 0 34 (.sub 0 34 (.v 0)), .agg [.c (.i .i64 0), .c (.i .i64 0), .c (.i .i64 0), .c (.b false), .c (.b false), .c (.b false), .c (.b false), .c (.b false), .c (.b false), .c (.b false), .c (.b false), .c (.i .i64 0), .c (.s []), .c (.i .i64 0), .c (.l 16 []), .c (.l 16 []), .c (.l 16 [])], .c (.b false)]))
def Hh7 : T := (.w (.chk (.scal (.c (.i .i64 4)))) (.w (.chk (.scal (.c (.i .i64 9)))) (.ret [.agg [.proj 0 (.v 0), .proj 1 (.v 0), .proj 2 (.v 0), .proj 3 (.v 0), .proj 4 (.v 0), .proj 5 (.v 0), .proj 6 (.v 0), .c (.i .i64 4), .proj 8 (.v 0), .proj 9 (.v 0), .proj 10 (.v 0), .proj 11 (.v 0), .proj 12 (.v 0), .proj 13 (.v 0), .proj 14 (.v 0), .proj 15 (.v 0), .proj 16 (.v 0), .proj 17 (.v 0), .proj 18 (.v 0), .proj 19 (.v 0), .proj 20 (.v 0), .proj 21 (.v 0), .proj 22 (.v 0), .proj 23 (.v 0), .proj 24 (.v 0), .proj 25 (.v 0), .proj 26 (.v 0), .proj 27 (.v 0), .proj 28 (.v 0), .proj 29 (.v 0), .proj 30 (.v 0), .proj 31 (.v 0), .proj 32 (.v 0), .c (.i .i64 9)], .agg [.c (.i .i64 0), .c (.i .i64 0), .c (.i .i64 0), .c (.b false), .c (.b false), .c (.b false), .c (.b false), .c (.b false), .c (.b false), .c (.b false), .c (.b false), .c (.i .i64 0), .c (.s []), .c (.i .i64 0), .c (.l 16 []), .c (.l 16 []), .c (.l 16 [])], .c (.b false)])))
def Hc5 : T := (.w (.chk (.fit 2 (.v 5))) (.w (.chk (.scal (.c (.i .i64 1)))) (.w (.chk (.fit 3 (.sub 0 3 (.v 1)))) (.w (.chk (.scal (.bin .add (.proj 14 (.v 0)) (.c (.i .i64 1))))) (.w (.chk (.fit 2 (.sub 0 2 (.v 5)))) (.w (.chk (.scal (.c (.b true)))) (.w (.chk (.scal (.c (.i .i64 1232)))) (.ret [.agg [.proj 0 (.v 0), .proj 1 (.v 0), .proj 2 (.v 0), .proj 3 (.v 0), .proj 4 (.v 0), .proj 5 (.v 0), .proj 6 (.v 0), .c (.i .i64 1), .proj 8 (.v 0), .proj 0 (.sub 0 3 (.v 1)), .proj 1 (.sub 0 3 (.v 1)), .proj 2 (.sub 0 3 (.v 1)), .proj 0 (.sub 0 2 (.v 5)), .proj 1 (.sub 0 2 (.v 5)), .bin .add (.proj 14 (.v 0)) (.c (.i .i64 1)), .proj 15 (.v 0), .proj 16 (.v 0), .proj 17 (.v 0), .proj 18 (.v 0), .proj 19 (.v 0), .proj 20 (.v 0), .proj 21 (.v 0), .proj 22 (.v 0), .proj 23 (.v 0), .proj 24 (.v 0), .proj 25 (.v 0), .proj 26 (.v 0), .proj 27 (.v 0), .proj 28 (.v 0), .proj 29 (.v 0), .proj 30 (.v 0), .proj 31 (.v 0), .proj 32 (.v 0), .proj 33 (.v 0)], .agg [.c (.i .i64 0), .c (.i .i64 0), .c (.i .i64 0), .c (.b false), .c (.b false), .c (.b false), .c (.b false), .c (.b false), .c (.b false), .c (.b false), .c (.b true), .c (.i .i64 1232), .proj 0 (.sub 0 2 (.v 5)), .proj 1 (.sub 0 2 (.v 5)), .c (.l 16 []), .c (.l 16 []), .c (.l 16 [])], .c (.b true)]))))))))
def Hy4 : T := (.w (.call none true Gv6 [.v 4, .proj 3 (.v 0), .proj 8 (.v 0)] 2) Hc5)
def Hv6 : T := (.w (.call none true Cs8 [.sub 0 34 (.v 0)] 1) Hy4)
def Hk0 : T := (.ite (.bin .geq (.proj 14 (.v 0)) (.c (.i .i64 64))) Hh7 Hv6)
def Gs5 : T := (.ite (.ite (.ite (.bin .neq (.proj 7 (.v 0)) (.c (.i .i64 0))) (.c (.b true)) (.un .not (.v 2))) (.c (.b true)) (.v 3)) Hs7 Hk0)
def Gp4 : T := (.w (.chk (.ite (.un .not (.ite (.bin .neq (.proj 7 (.v 0)) (.c (.i .i64 0))) (.c (.b true)) (.un .not (.v 2)))) (.c .u) (.c .u))) (.w (.call (some (.un .not (.ite (.bin .neq (.proj 7 (.v 0)) (.c (.i .i64 0))) (.c (.b true)) (.un .not (.v 2))))) true Cj5 [.proj 6 (.v 0), .sub 0 3 (.v 1)] 1) Gs5))
def Es6 : T := (.w (.chk (.fit 34 (.v 0))) (.w (.chk (.fit 3 (.v 1))) (.w (.call (some (.un .not (.bin .neq (.proj 7 (.v 0)) (.c (.i .i64 0))))) true Cj5 [.proj 5 (.v 0), .sub 0 3 (.v 1)] 1) Gp4)))
theorem Ff5 : type_of% (And.intro (tev_eq @Hs7.eq_1) (And.intro (tev_eq @Hh7.eq_1) (And.intro (tev_eq @Hc5.eq_1) (And.intro (tev_eq @Hy4.eq_1) (And.intro (tev_eq @Hv6.eq_1) (And.intro (tev_eq @Hk0.eq_1) (And.intro (tev_eq @Gs5.eq_1) (And.intro (tev_eq @Gp4.eq_1) (tev_eq @Es6.eq_1))))))))) := (And.intro (tev_eq @Hs7.eq_1) (And.intro (tev_eq @Hh7.eq_1) (And.intro (tev_eq @Hc5.eq_1) (And.intro (tev_eq @Hy4.eq_1) (And.intro (tev_eq @Hv6.eq_1) (And.intro (tev_eq @Hk0.eq_1) (And.intro (tev_eq @Gs5.eq_1) (And.intro (tev_eq @Gp4.eq_1) (tev_eq @Es6.eq_1)))))))))
def Hs6 : T := (.w (.chk (.fit 34 (.sub 0 34 (.v 0)))) (.ret [.sub 0 34 (.sub 0 34 (.v 0))]))
def Hh6 : T := (.w (.chk (.fit 34 (.v 4))) (.ret [.sub 0 34 (.v 4)]))
def Hc4 : T := (.w (.call none false Gv4 [.sub 0 34 (.v 0), .sub 0 17 (.v 2)] 1) Hh6)
def Hy3 : T := (.w (.chk (.fit 34 (.v 4))) (.ret [.sub 0 34 (.v 4)]))
def Hv5 : T := (.w (.call none false Fy8 [.sub 0 34 (.v 0)] 1) Hy3)
def Hj9 : T := (.w (.chk (.scal (.c (.i .i64 10)))) (.yld 0 [.c (.i .i64 10)]))
def Gs4 : T := (.yld 0 [.bin .add (.proj 8 (.v 0)) (.c (.i .i64 1))])
def Gp3 : T := (.ite (.bin .eql (.v 3) (.c (.i .i64 5))) Hj9 Gs4)
def Gm6 : T := (.w (.chk (.scal (.c (.i .i64 0)))) (.ret [.agg [.proj 0 (.v 0), .proj 1 (.v 0), .proj 2 (.v 0), .proj 3 (.v 0), .proj 4 (.v 0), .proj 5 (.v 0), .c (.l 3 []), .c (.i .i64 0), .v 5, .proj 9 (.v 0), .proj 10 (.v 0), .proj 11 (.v 0), .proj 12 (.v 0), .proj 13 (.v 0), .proj 14 (.v 0), .proj 15 (.v 0), .proj 16 (.v 0), .proj 17 (.v 0), .proj 18 (.v 0), .proj 19 (.v 0), .proj 20 (.v 0), .proj 21 (.v 0), .proj 22 (.v 0), .proj 23 (.v 0), .proj 24 (.v 0), .proj 25 (.v 0), .proj 26 (.v 0), .proj 27 (.v 0), .proj 28 (.v 0), .proj 29 (.v 0), .proj 30 (.v 0), .proj 31 (.v 0), .proj 32 (.v 0), .proj 33 (.v 0)]]))
def Gl3 : T := (.w (.chk (.scal (.bin .add (.proj 8 (.v 0)) (.c (.i .i64 1))))) (.blk 0 Gp3 Gm6))
def Ek1 : T := (.w (.chk (.fit 34 (.v 5))) (.ret [.sub 0 34 (.v 5)]))
def Ej1 : T := (.w (.call none false Fy7 [.sub 0 34 (.v 0), .sub 0 17 (.v 2)] 1) Ek1)
def Dt3 : T := (.w (.chk (.fit 17 (.v 5))) (.ret [.agg [.proj 0 (.v 0), .proj 1 (.v 0), .proj 2 (.v 0), .proj 3 (.v 0), .proj 4 (.v 0), .proj 5 (.v 0), .proj 6 (.v 0), .c (.i .i64 3), .proj 8 (.v 0), .proj 9 (.v 0), .proj 10 (.v 0), .proj 11 (.v 0), .proj 12 (.v 0), .proj 13 (.v 0), .proj 14 (.v 0), .proj 15 (.v 0), .proj 0 (.v 5), .proj 1 (.v 5), .proj 2 (.v 5), .proj 3 (.v 5), .proj 4 (.v 5), .proj 5 (.v 5), .proj 6 (.v 5), .proj 7 (.v 5), .proj 8 (.v 5), .proj 9 (.v 5), .proj 10 (.v 5), .proj 11 (.v 5), .proj 12 (.v 5), .proj 13 (.v 5), .proj 14 (.v 5), .proj 15 (.v 5), .proj 16 (.v 5), .proj 33 (.v 0)]]))
def Ds6 : T := (.w (.chk (.scal (.c (.i .i64 3)))) (.w (.call none false Cj4 [.sub 0 17 (.v 2), .proj 3 (.v 0)] 1) Dt3))
def Ds0 : T := (.ite (.bin .eql (.v 3) (.c (.i .i64 2))) Ej1 Ds6)
def Dr5 : T := (.ite (.eqs true true [.s, .i .i64] (.agg [.proj 12 (.v 0), .proj 13 (.v 0)]) (.v 4)) Gl3 Ds0)
def Dr0 : T := (.w (.call none true Cs8 [.sub 0 34 (.v 0)] 1) Dr5)
def Dp5 : T := (.ite (.bin .eql (.v 3) (.c (.i .i64 0))) Hv5 Dr0)
def Dp0 : T := (.ite (.bin .eql (.v 3) (.c (.i .i64 3))) Hc4 Dp5)
def Dn5 : T := (.w (.call none true Gv5 [.sub 0 17 (.v 2), .proj 3 (.v 0)] 1) Dp0)
def Es5 : T := (.w (.chk (.fit 34 (.v 0))) (.w (.chk (.fit 3 (.v 1))) (.w (.chk (.fit 17 (.v 2))) (.ite (.ite (.ite (.bin .neq (.proj 7 (.v 0)) (.c (.i .i64 1))) (.c (.b true)) (.eqs true true [.b, .i .u64, .i .u64] (.sub 0 3 (.v 1)) (.agg [.proj 9 (.v 0), .proj 10 (.v 0), .proj 11 (.v 0)]))) (.c (.b true)) (.eqs true true [.s, .i .i64] (.agg [.proj 12 (.v 2), .proj 13 (.v 2)]) (.agg [.proj 12 (.v 0), .proj 13 (.v 0)]))) Hs6 Dn5))))
theorem Br3 : type_of% (And.intro (tev_eq @Hs6.eq_1) (And.intro (tev_eq @Hh6.eq_1) (And.intro (tev_eq @Hc4.eq_1) (And.intro (tev_eq @Hy3.eq_1) (And.intro (tev_eq @Hv5.eq_1) (And.intro (tev_eq @Hj9.eq_1) (And.intro (tev_eq @Gs4.eq_1) (And.intro (tev_eq @Gp3.eq_1) (And.intro (tev_eq @Gm6.eq_1) (And.intro (tev_eq @Gl3.eq_1) (And.intro (tev_eq @Ek1.eq_1) (And.intro (tev_eq @Ej1.eq_1) (And.intro (tev_eq @Dt3.eq_1) (And.intro (tev_eq @Ds6.eq_1) (And.intro (tev_eq @Ds0.eq_1) (And.intro (tev_eq @Dr5.eq_1) (And.intro (tev_eq @Dr0.eq_1) (And.intro (tev_eq @Dp5.eq_1) (And.intro (tev_eq @Dp0.eq_1) (And.intro (tev_eq @Dn5.eq_1) (tev_eq @Es5.eq_1))))))))))))))))))))) := (And.intro (tev_eq @Hs6.eq_1) (And.intro (tev_eq @Hh6.eq_1) (And.intro (tev_eq @Hc4.eq_1) (And.intro (tev_eq @Hy3.eq_1) (And.intro (tev_eq @Hv5.eq_1) (And.intro (tev_eq @Hj9.eq_1) (And.intro (tev_eq @Gs4.eq_1) (And.intro (tev_eq @Gp3.eq_1) (And.intro (tev_eq @Gm6.eq_1) (And.intro (tev_eq @Gl3.eq_1) (And.intro (tev_eq @Ek1.eq_1) (And.intro (tev_eq @Ej1.eq_1) (And.intro (tev_eq @Dt3.eq_1) (And.intro (tev_eq @Ds6.eq_1) (And.intro (tev_eq @Ds0.eq_1) (And.intro (tev_eq @Dr5.eq_1) (And.intro (tev_eq @Dr0.eq_1) (And.intro (tev_eq @Dp5.eq_1) (And.intro (tev_eq @Dp0.eq_1) (And.intro (tev_eq @Dn5.eq_1) (tev_eq @Es5.eq_1)))))))))))))))))))))
def Hs5 : T := (.w (.chk (.fit 34 (.sub 0 34 (.v 0)))) (.ret [.sub 0 34 (.sub 0 34 (.v 0))]))
def Hh5 : T := (.w (.chk (.fit 34 (.v 1))) (.ret [.sub 0 34 (.v 1)]))
def Hc3 : T := (.w (.call none false Fy8 [.sub 0 34 (.v 0)] 1) Hh5)
def Es4 : T := (.w (.chk (.fit 34 (.v 0))) (.ite (.bin .neq (.proj 7 (.v 0)) (.c (.i .i64 1))) Hs5 Hc3))
theorem Kj5 : type_of% (And.intro (tev_eq @Hs5.eq_1) (And.intro (tev_eq @Hh5.eq_1) (And.intro (tev_eq @Hc3.eq_1) (tev_eq @Es4.eq_1)))) := (And.intro (tev_eq @Hs5.eq_1) (And.intro (tev_eq @Hh5.eq_1) (And.intro (tev_eq @Hc3.eq_1) (tev_eq @Es4.eq_1))))
def Hs4 : T := (.yld 1 [.c (.b true), .v 4, .bin .add (.v 5) (.c (.i .i64 1))])
def Hh4 : T := (.w (.chk (.scal (.proj 0 (.idx 1 (.proj 4 (.v 0)) (.v 5))))) (.yld 1 [.v 3, .app 1 (.v 4) (.lit 1 [.proj 0 (.idx 1 (.proj 4 (.v 0)) (.v 5))]), .bin .add (.v 5) (.c (.i .i64 1))]))
def Hc2 : T := (.ite (.bin .eql (.proj 0 (.idx 1 (.proj 4 (.v 0)) (.v 5))) (.v 1)) Hs4 Hh4)
def Iv6 : T := (.ite (.bin .lss (.v 5) (.len (.proj 4 (.v 0)))) Hc2 (.yld 0 [.v 3, .v 4]))
def It7 : T := .loop 1 [.c (.b false), .c (.l 1 []), .c (.i .i64 0)] Iv6
def Hy2 : T := (.w (.chk (.fit 34 (.sub 0 34 (.v 0)))) (.ret [.sub 0 34 (.sub 0 34 (.v 0))]))
def Hv4 : T := (.w (.chk (.fit 34 (.v 6))) (.ret [.sub 0 34 (.v 6)]))
def Hj8 : T := (.w (.chk (.scal (.v 5))) (.w (.call none false Cc7 [.agg [.proj 0 (.v 0), .proj 1 (.v 0), .proj 2 (.v 0), .proj 3 (.v 0), .v 4, .v 5, .proj 6 (.v 0), .proj 7 (.v 0), .proj 8 (.v 0), .proj 9 (.v 0), .proj 10 (.v 0), .proj 11 (.v 0), .proj 12 (.v 0), .proj 13 (.v 0), .proj 14 (.v 0), .proj 15 (.v 0), .proj 16 (.v 0), .proj 17 (.v 0), .proj 18 (.v 0), .proj 19 (.v 0), .proj 20 (.v 0), .proj 21 (.v 0), .proj 22 (.v 0), .proj 23 (.v 0), .proj 24 (.v 0), .proj 25 (.v 0), .proj 26 (.v 0), .proj 27 (.v 0), .proj 28 (.v 0), .proj 29 (.v 0), .proj 30 (.v 0), .proj 31 (.v 0), .proj 32 (.v 0), .proj 33 (.v 0)]] 1) Hv4))
def Gs3 : T := (.w (.call none false Bn0 [.c (.l 3 []), .v 2, .proj 6 (.v 0)] 1) Hj8)
def Gp2 : T := (.ite (.ite (.bin .neq (.proj 7 (.v 0)) (.c (.i .i64 2))) (.c (.b true)) (.un .not (.v 3))) Hy2 Gs3)
def Es3 : T := (.w (.chk (.fit 34 (.v 0))) (.blk 0 It7 Gp2))
theorem Em2 : type_of% (And.intro (tev_eq @Hs4.eq_1) (And.intro (tev_eq @Hh4.eq_1) (And.intro (tev_eq @Hc2.eq_1) (And.intro (tev_eq @Iv6.eq_1) (And.intro (tev_eq @Hy2.eq_1) (And.intro (tev_eq @Hv4.eq_1) (And.intro (tev_eq @Hj8.eq_1) (And.intro (tev_eq @Gs3.eq_1) (And.intro (tev_eq @Gp2.eq_1) (tev_eq @Es3.eq_1)))))))))) := (And.intro (tev_eq @Hs4.eq_1) (And.intro (tev_eq @Hh4.eq_1) (And.intro (tev_eq @Hc2.eq_1) (And.intro (tev_eq @Iv6.eq_1) (And.intro (tev_eq @Hy2.eq_1) (And.intro (tev_eq @Hv4.eq_1) (And.intro (tev_eq @Hj8.eq_1) (And.intro (tev_eq @Gs3.eq_1) (And.intro (tev_eq @Gp2.eq_1) (tev_eq @Es3.eq_1))))))))))
def Hs3 : T := (.yld 1 [.bin .add (.v 3) (.c (.i .i64 1))])
def Hh3 : T := (.w (.chk (.ite (.ite (.un .not (.v 4)) (.un .not (.bin .gtr (.v 3) (.c (.i .i64 0)))) (.c (.b false))) (.bin .neq (.proj 0 (.idx 1 (.v 2) (.v 3))) (.c (.s [42]))) (.c .u))) (.ite (.ite (.un .not (.v 4)) (.ite (.bin .gtr (.v 3) (.c (.i .i64 0))) (.c (.b true)) (.bin .neq (.proj 0 (.idx 1 (.v 2) (.v 3))) (.c (.s [42])))) (.c (.b false))) (.ret [.c (.b false)]) Hs3))
def Hc1 : T := (.w (.call none true Bm7 [.proj 0 (.idx 1 (.v 2) (.v 3))] 1) Hh3)
def El6 : T := (.ite (.bin .lss (.v 3) (.len (.v 2))) Hc1 (.yld 0 []))
def It6 : T := .loop 1 [.c (.i .i64 0)] El6
def Hy1 : T := (.w (.chk (.len (.v 2))) (.blk 0 It6 (.ret [.c (.b true)])))
def Hv3 : T := (.w (.call none false Bm8 [.ssl (.v 0) (.c (.i .i64 0)) (.bin .sub (.slen (.v 0)) (.c (.i .i64 1))), .c (.s [46])] 1) Hy1)
def Hj7 : T := (.ite (.ite (.bin .geq (.slen (.v 0)) (.c (.i .i64 255))) (.c (.b true)) (.un .not (.v 1))) (.ret [.c (.b false)]) Hv3)
def Gs2 : T := (.w (.call (some (.un .not (.bin .geq (.slen (.v 0)) (.c (.i .i64 255))))) true Bm9 [.v 0, .c (.s [46])] 1) Hj7)
def Es2 : T := (.ite (.bin .eql (.v 0) (.c (.s [46]))) (.ret [.c (.b true)]) Gs2)
theorem Br2 : type_of% (And.intro (tev_eq @Hs3.eq_1) (And.intro (tev_eq @Hh3.eq_1) (And.intro (tev_eq @Hc1.eq_1) (And.intro (tev_eq @El6.eq_1) (And.intro (tev_eq @Hy1.eq_1) (And.intro (tev_eq @Hv3.eq_1) (And.intro (tev_eq @Hj7.eq_1) (And.intro (tev_eq @Gs2.eq_1) (tev_eq @Es2.eq_1))))))))) := (And.intro (tev_eq @Hs3.eq_1) (And.intro (tev_eq @Hh3.eq_1) (And.intro (tev_eq @Hc1.eq_1) (And.intro (tev_eq @El6.eq_1) (And.intro (tev_eq @Hy1.eq_1) (And.intro (tev_eq @Hv3.eq_1) (And.intro (tev_eq @Hj7.eq_1) (And.intro (tev_eq @Gs2.eq_1) (tev_eq @Es2.eq_1)))))))))
def Hs2 : T := (.ret [.bin .geq (.v 2) (.c (.i .i64 0))])
def Es1 : T := (.w (.call none true Cg5 [.v 0, .v 1] 1) Hs2)
theorem Lw2 : type_of% (And.intro (tev_eq @Hs2.eq_1) (tev_eq @Es1.eq_1)) := (And.intro (tev_eq @Hs2.eq_1) (tev_eq @Es1.eq_1))
def Hs1 : T := (.ret [.bin .geq (.v 2) (.c (.i .i64 0))])
def Es0 : T := (.w (.chk (.fit 3 (.v 1))) (.w (.call none true Cg4 [.v 0, .sub 0 3 (.v 1)] 1) Hs1))
theorem Lw1 : type_of% (And.intro (tev_eq @Hs1.eq_1) (tev_eq @Es0.eq_1)) := (And.intro (tev_eq @Hs1.eq_1) (tev_eq @Es0.eq_1))
def Hs0 : T := (.w (.chk (.fit 2 (.sub 0 2 (.v 0)))) (.ret [.sub 0 2 (.sub 0 2 (.v 0)), .c (.b true)]))
def Hh2 : T := (.w (.chk (.fit 2 (.sub 0 2 (.v 0)))) (.ret [.sub 0 2 (.sub 0 2 (.v 0)), .c (.b true)]))
def Hc0 : T := (.w (.chk (.scal (.v 6))) (.w (.chk (.scal (.c (.i .i64 2)))) (.ret [.agg [.v 6, .c (.i .i64 2)], .c (.b false)])))
def Hy0 : T := (.w (.call none true Cg2 [.lsl 1 (.v 4) (.bin .sub (.len (.v 4)) (.bin .add (.bin .add (.len (.v 5)) (.c (.i .i64 1))) (.v 2))) (.len (.v 4))] 2) Hc0)
def Hv2 : T := (.ite (.bin .leq (.len (.v 4)) (.bin .add (.bin .add (.len (.v 5)) (.c (.i .i64 1))) (.v 2))) Hh2 Hy0)
def Hj6 : T := (.w (.call none false Bm6 [.v 1] 1) Hv2)
def Gs1 : T := (.w (.call none false Bm6 [.proj 0 (.v 0)] 1) Hj6)
def Gp1 : T := (.ite (.ite (.ite (.un .not (.v 3)) (.c (.b true)) (.bin .lss (.v 2) (.c (.i .i64 0)))) (.c (.b true)) (.bin .geq (.v 2) (.c (.i .i64 10)))) Hs0 Gs1)
def Er9 : T := (.w (.chk (.fit 2 (.v 0))) (.w (.call none true Cg3 [.proj 0 (.v 0), .v 1] 1) Gp1))
theorem Ff4 : type_of% (And.intro (tev_eq @Hs0.eq_1) (And.intro (tev_eq @Hh2.eq_1) (And.intro (tev_eq @Hc0.eq_1) (And.intro (tev_eq @Hy0.eq_1) (And.intro (tev_eq @Hv2.eq_1) (And.intro (tev_eq @Hj6.eq_1) (And.intro (tev_eq @Gs1.eq_1) (And.intro (tev_eq @Gp1.eq_1) (tev_eq @Er9.eq_1))))))))) := (And.intro (tev_eq @Hs0.eq_1) (And.intro (tev_eq @Hh2.eq_1) (And.intro (tev_eq @Hc0.eq_1) (And.intro (tev_eq @Hy0.eq_1) (And.intro (tev_eq @Hv2.eq_1) (And.intro (tev_eq @Hj6.eq_1) (And.intro (tev_eq @Gs1.eq_1) (And.intro (tev_eq @Gp1.eq_1) (tev_eq @Er9.eq_1)))))))))
def Er8 : T := (.w (.chk (.fit 34 (.v 0))) (.w (.chk (.scal (.proj 2 (.v 0)))) (.w (.chk (.scal (.proj 1 (.v 0)))) (.ret [.agg [.proj 2 (.v 0), .proj 1 (.v 0)]]))))
theorem Lw0 : type_of% (tev_eq @Er8.eq_1) := (tev_eq @Er8.eq_1)
def Hr9 : T := (.w (.call none true Bm5 [.v 2, .v 1] 1) (.ret [.v 3]))
def Er7 : T := (.w (.chk (.fit 17 (.v 0))) (.w (.call none false Cj6 [.sub 0 17 (.v 0), .v 1] 1) Hr9))
theorem Lv9 : type_of% (And.intro (tev_eq @Hr9.eq_1) (tev_eq @Er7.eq_1)) := (And.intro (tev_eq @Hr9.eq_1) (tev_eq @Er7.eq_1))
def Hr8 : T := (.w (.chk (.fit 3 (.sub 0 3 (.sub 0 3 (.idx 3 (.v 9) (.v 10)))))) (.yld 3 [.bin .add (.v 10) (.c (.i .i64 1)), .app 3 (.v 11) (.lit 3 [.sub 0 3 (.sub 0 3 (.idx 3 (.v 9) (.v 10)))])]))
def Hh1 : T := (.yld 3 [.bin .add (.v 10) (.c (.i .i64 1)), .v 11])
def Hb9 : T := (.ite (.un .not (.v 12)) Hr8 Hh1)
def Hx9 : T := (.w (.chk (.fit 3 (.sub 0 3 (.idx 3 (.v 9) (.v 10))))) (.w (.call none true Bz1 [.v 11, .sub 0 3 (.sub 0 3 (.idx 3 (.v 9) (.v 10)))] 1) Hb9))
def Iq3 : T := (.ite (.bin .lss (.v 10) (.len (.v 9))) Hx9 (.yld 2 [.v 11]))
def Is3 : T := .loop 3 [.c (.i .i64 0), .v 8] Iq3
def Hv1 : T := (.yld 1 [.bin .add (.v 7) (.c (.i .i64 1)), .v 10])
def Hj5 : T := (.w (.chk (.len (.v 9))) (.blk 2 Is3 Hv1))
def Gs0 : T := (.w (.call none false Cg0 [.sub 0 17 (.v 2), .proj 0 (.idx 1 (.v 6) (.v 7))] 1) Hj5)
def Iv5 : T := (.ite (.bin .lss (.v 7) (.len (.v 6))) Gs0 (.yld 0 [.v 8]))
def It5 : T := .loop 1 [.c (.i .i64 0), .c (.l 3 [])] Iv5
def Gp0 : T := (.w (.chk (.fit 34 (.v 9))) (.ret [.sub 0 34 (.v 9)]))
def Gm5 : T := (.w (.call none false Cc8 [.agg [.proj 0 (.v 0), .proj 1 (.v 0), .proj 2 (.v 0), .v 3, .v 6, .v 8, .c (.l 3 []), .proj 7 (.v 0), .c (.i .i64 0), .proj 9 (.v 0), .proj 10 (.v 0), .proj 11 (.v 0), .proj 12 (.v 0), .proj 13 (.v 0), .proj 14 (.v 0), .proj 15 (.v 0), .proj 16 (.v 0), .proj 17 (.v 0), .proj 18 (.v 0), .proj 19 (.v 0), .proj 20 (.v 0), .proj 21 (.v 0), .proj 22 (.v 0), .proj 23 (.v 0), .proj 24 (.v 0), .proj 25 (.v 0), .proj 26 (.v 0), .proj 27 (.v 0), .proj 28 (.v 0), .proj 29 (.v 0), .proj 30 (.v 0), .proj 31 (.v 0), .proj 32 (.v 0), .proj 33 (.v 0)]] 1) Gp0)
def Gl2 : T := (.w (.call none false Ct1 [.v 7] 1) Gm5)
def Ek0 : T := (.w (.chk (.scal (.v 3))) (.w (.chk (.scal (.v 6))) (.w (.chk (.scal (.c (.i .i64 0)))) (.w (.chk (.len (.v 6))) (.blk 0 It5 Gl2)))))
def Ej0 : T := (.w (.call none false Fb1 [.v 4] 1) Ek0)
def Dt2 : T := (.w (.chk (.fit 17 (.v 2))) (.w (.call none false Cg1 [.sub 0 17 (.v 1), .proj 3 (.v 0)] 3) Ej0))
def Er6 : T := (.w (.chk (.fit 34 (.v 0))) (.w (.chk (.fit 17 (.v 1))) (.w (.call none false Cj6 [.sub 0 17 (.v 1), .proj 3 (.v 0)] 1) Dt2)))
theorem Em1 : type_of% (And.intro (tev_eq @Hr8.eq_1) (And.intro (tev_eq @Hh1.eq_1) (And.intro (tev_eq @Hb9.eq_1) (And.intro (tev_eq @Hx9.eq_1) (And.intro (tev_eq @Iq3.eq_1) (And.intro (tev_eq @Hv1.eq_1) (And.intro (tev_eq @Hj5.eq_1) (And.intro (tev_eq @Gs0.eq_1) (And.intro (tev_eq @Iv5.eq_1) (And.intro (tev_eq @Gp0.eq_1) (And.intro (tev_eq @Gm5.eq_1) (And.intro (tev_eq @Gl2.eq_1) (And.intro (tev_eq @Ek0.eq_1) (And.intro (tev_eq @Ej0.eq_1) (And.intro (tev_eq @Dt2.eq_1) (tev_eq @Er6.eq_1)))))))))))))))) := (And.intro (tev_eq @Hr8.eq_1) (And.intro (tev_eq @Hh1.eq_1) (And.intro (tev_eq @Hb9.eq_1) (And.intro (tev_eq @Hx9.eq_1) (And.intro (tev_eq @Iq3.eq_1) (And.intro (tev_eq @Hv1.eq_1) (And.intro (tev_eq @Hj5.eq_1) (And.intro (tev_eq @Gs0.eq_1) (And.intro (tev_eq @Iv5.eq_1) (And.intro (tev_eq @Gp0.eq_1) (And.intro (tev_eq @Gm5.eq_1) (And.intro (tev_eq @Gl2.eq_1) (And.intro (tev_eq @Ek0.eq_1) (And.intro (tev_eq @Ej0.eq_1) (And.intro (tev_eq @Dt2.eq_1) (tev_eq @Er6.eq_1))))))))))))))))
def Hr7 : T := (.w (.chk (.fit 34 (.v 2))) (.ret [.sub 0 34 (.v 2)]))
def Hh0 : T := (.w (.call none false Cc8 [.agg [.proj 0 (.v 0), .proj 1 (.v 0), .proj 2 (.v 0), .proj 3 (.v 0), .proj 4 (.v 0), .proj 5 (.v 0), .app 3 (.v 1) (.lit 3 [.agg [.proj 9 (.v 0), .proj 10 (.v 0), .proj 11 (.v 0)]]), .proj 7 (.v 0), .proj 8 (.v 0), .proj 9 (.v 0), .proj 10 (.v 0), .proj 11 (.v 0), .proj 12 (.v 0), .proj 13 (.v 0), .proj 14 (.v 0), .proj 15 (.v 0), .proj 16 (.v 0), .proj 17 (.v 0), .proj 18 (.v 0), .proj 19 (.v 0), .proj 20 (.v 0), .proj 21 (.v 0), .proj 22 (.v 0), .proj 23 (.v 0), .proj 24 (.v 0), .proj 25 (.v 0), .proj 26 (.v 0), .proj 27 (.v 0), .proj 28 (.v 0), .proj 29 (.v 0), .proj 30 (.v 0), .proj 31 (.v 0), .proj 32 (.v 0), .proj 33 (.v 0)]] 1) Hr7)
def Er5 : T := (.w (.chk (.fit 34 (.v 0))) (.w (.call none false Fz3 [.proj 6 (.v 0)] 1) Hh0))
theorem Lv8 : type_of% (And.intro (tev_eq @Hr7.eq_1) (And.intro (tev_eq @Hh0.eq_1) (tev_eq @Er5.eq_1))) := (And.intro (tev_eq @Hr7.eq_1) (And.intro (tev_eq @Hh0.eq_1) (tev_eq @Er5.eq_1)))
def Er4 : T := (.w (.chk (.fit 34 (.v 0))) (.w (.chk (.scal (.c (.i .i64 0)))) (.w (.chk (.scal (.v 1))) (.ret [.agg [.proj 0 (.v 0), .proj 1 (.v 0), .proj 2 (.v 0), .proj 3 (.v 0), .proj 4 (.v 0), .proj 5 (.v 0), .c (.l 3 []), .c (.i .i64 0), .v 1, .proj 9 (.v 0), .proj 10 (.v 0), .proj 11 (.v 0), .proj 12 (.v 0), .proj 13 (.v 0), .proj 14 (.v 0), .proj 15 (.v 0), .proj 16 (.v 0), .proj 17 (.v 0), .proj 18 (.v 0), .proj 19 (.v 0), .proj 20 (.v 0), .proj 21 (.v 0), .proj 22 (.v 0), .proj 23 (.v 0), .proj 24 (.v 0), .proj 25 (.v 0), .proj 26 (.v 0), .proj 27 (.v 0), .proj 28 (.v 0), .proj 29 (.v 0), .proj 30 (.v 0), .proj 31 (.v 0), .proj 32 (.v 0), .proj 33 (.v 0)]]))))
theorem Lv7 : type_of% (tev_eq @Er4.eq_1) := (tev_eq @Er4.eq_1)
def Hr6 : T := (.w (.chk (.fit 16 (.sub 0 16 (.idx 16 (.v 8) (.c (.i .i64 0)))))) (.w (.chk (.scal (.proj 6 (.idx 16 (.v 8) (.c (.i .i64 0)))))) (.yld 1 [.bin .add (.v 4) (.c (.i .i64 1)), .proj 6 (.idx 16 (.v 8) (.c (.i .i64 0))), .app 16 (.v 6) (.lit 16 [.sub 0 16 (.idx 16 (.v 8) (.c (.i .i64 0)))])])))
def Hg9 : T := (.ite (.bin .eql (.len (.v 8)) (.c (.i .i64 0))) (.yld 0 [.v 5, .v 6]) Hr6)
def Hb8 : T := (.w (.call none false At7 [.proj 14 (.v 2), .v 5, .c (.i .i64 5)] 1) Hg9)
def Hx8 : T := (.ite (.ite (.bin .lss (.v 4) (.c (.i .i64 8))) (.un .not (.v 7)) (.c (.b false))) Hb8 (.yld 0 [.v 5, .v 6]))
def Iv4 : T := (.w (.clo (some (.bin .lss (.v 4) (.c (.i .i64 8)))) true (.clo Cf9 [.agg [.proj 0 (.v 2), .proj 1 (.v 2), .proj 2 (.v 2), .proj 3 (.v 2), .proj 4 (.v 2), .proj 5 (.v 2), .proj 6 (.v 2), .proj 7 (.v 2), .proj 8 (.v 2), .proj 9 (.v 2), .proj 10 (.v 2), .proj 11 (.v 2), .proj 12 (.v 2), .proj 13 (.v 2), .proj 14 (.v 2), .proj 15 (.v 2), .proj 16 (.v 2)], .agg [.proj 0 (.v 0), .proj 1 (.v 0), .v 5, .proj 3 (.v 0), .proj 4 (.v 0), .proj 5 (.v 0), .proj 6 (.v 0), .proj 7 (.v 0), .proj 8 (.v 0), .proj 9 (.v 0), .proj 10 (.v 0), .proj 11 (.v 0), .proj 12 (.v 0), .proj 13 (.v 0), .proj 14 (.v 0), .v 6, .proj 16 (.v 0), .proj 17 (.v 0), .proj 18 (.v 0), .proj 19 (.v 0), .proj 20 (.v 0), .proj 21 (.v 0), .proj 22 (.v 0), .proj 23 (.v 0), .proj 24 (.v 0), .proj 25 (.v 0), .proj 26 (.v 0), .proj 27 (.v 0), .proj 28 (.v 0), .proj 29 (.v 0), .proj 30 (.v 0), .proj 31 (.v 0), .proj 32 (.v 0), .proj 33 (.v 0)]]) [] 1) Hx8)
def It4 : T := .loop 1 [.c (.i .i64 0), .proj 2 (.v 0), .v 3] Iv4
def Hv0 : T := (.w (.chk (.scal (.c (.i .i64 4)))) (.w (.chk (.scal (.c (.i .i64 28)))) (.ret [.agg [.proj 0 (.v 0), .proj 1 (.v 0), .v 4, .proj 3 (.v 0), .proj 4 (.v 0), .proj 5 (.v 0), .proj 6 (.v 0), .c (.i .i64 4), .proj 8 (.v 0), .proj 9 (.v 0), .proj 10 (.v 0), .proj 11 (.v 0), .proj 12 (.v 0), .proj 13 (.v 0), .proj 14 (.v 0), .v 5, .proj 16 (.v 0), .proj 17 (.v 0), .proj 18 (.v 0), .proj 19 (.v 0), .proj 20 (.v 0), .proj 21 (.v 0), .proj 22 (.v 0), .proj 23 (.v 0), .proj 24 (.v 0), .proj 25 (.v 0), .proj 26 (.v 0), .proj 27 (.v 0), .proj 28 (.v 0), .proj 29 (.v 0), .proj 30 (.v 0), .proj 31 (.v 0), .proj 32 (.v 0), .c (.i .i64 28)]])))
def Hj4 : T := (.w (.chk (.fit 34 (.v 8))) (.ret [.sub 0 34 (.v 8)]))
def Gr9 : T := (.w (.call none false Cs9 [.agg [.proj 0 (.v 0), .proj 1 (.v 0), .v 4, .proj 3 (.v 0), .proj 4 (.v 0), .proj 5 (.v 0), .proj 6 (.v 0), .proj 7 (.v 0), .proj 8 (.v 0), .proj 9 (.v 0), .proj 10 (.v 0), .proj 11 (.v 0), .proj 12 (.v 0), .proj 13 (.v 0), .proj 14 (.v 0), .v 5, .proj 16 (.v 0), .proj 17 (.v 0), .proj 18 (.v 0), .proj 19 (.v 0), .proj 20 (.v 0), .proj 21 (.v 0), .proj 22 (.v 0), .proj 23 (.v 0), .proj 24 (.v 0), .proj 25 (.v 0), .proj 26 (.v 0), .proj 27 (.v 0), .proj 28 (.v 0), .proj 29 (.v 0), .proj 30 (.v 0), .proj 31 (.v 0), .proj 32 (.v 0), .proj 33 (.v 0)], .c (.i .i64 0)] 1) Hj4)
def Gn9 : T := (.w (.chk (.scal (.c (.i .i64 5)))) (.ret [.agg [.proj 0 (.v 0), .proj 1 (.v 0), .v 4, .proj 3 (.v 0), .proj 4 (.v 0), .proj 5 (.v 0), .proj 6 (.v 0), .c (.i .i64 5), .proj 8 (.v 0), .proj 9 (.v 0), .proj 10 (.v 0), .proj 11 (.v 0), .proj 12 (.v 0), .proj 13 (.v 0), .proj 14 (.v 0), .v 5, .proj 16 (.v 0), .proj 17 (.v 0), .proj 18 (.v 0), .proj 19 (.v 0), .proj 20 (.v 0), .proj 21 (.v 0), .proj 22 (.v 0), .proj 23 (.v 0), .proj 24 (.v 0), .proj 25 (.v 0), .proj 26 (.v 0), .proj 27 (.v 0), .proj 28 (.v 0), .proj 29 (.v 0), .proj 30 (.v 0), .proj 31 (.v 0), .proj 32 (.v 0), .proj 33 (.v 0)]]))
def Gm4 : T := (.ite (.v 7) Gr9 Gn9)
def Gl1 : T := (.w (.call none true Ap0 [.v 4, .proj 3 (.v 0)] 1) Gm4)
def Ej9 : T := (.ite (.ite (.ite (.bin .eql (.v 4) (.proj 0 (.v 0))) (.c (.b true)) (.v 6)) (.c (.b true)) (.bin .gtr (.len (.v 5)) (.c (.i .i64 8)))) Hv0 Gl1)
def Dt9 : T := (.w (.call (some (.un .not (.bin .eql (.v 4) (.proj 0 (.v 0))))) true Cc5 [.v 5, .clo Bm3 [.agg [.proj 0 (.v 0), .proj 1 (.v 0), .v 4, .proj 3 (.v 0), .proj 4 (.v 0), .proj 5 (.v 0), .proj 6 (.v 0), .proj 7 (.v 0), .proj 8 (.v 0), .proj 9 (.v 0), .proj 10 (.v 0), .proj 11 (.v 0), .proj 12 (.v 0), .proj 13 (.v 0), .proj 14 (.v 0), .v 5, .proj 16 (.v 0), .proj 17 (.v 0), .proj 18 (.v 0), .proj 19 (.v 0), .proj 20 (.v 0), .proj 21 (.v 0), .proj 22 (.v 0), .proj 23 (.v 0), .proj 24 (.v 0), .proj 25 (.v 0), .proj 26 (.v 0), .proj 27 (.v 0), .proj 28 (.v 0), .proj 29 (.v 0), .proj 30 (.v 0), .proj 31 (.v 0), .proj 32 (.v 0), .proj 33 (.v 0)]]] 1) Ej9)
def Dt1 : T := (.blk 0 It4 Dt9)
def Ds5 : T := (.w (.chk (.fit 17 (.v 2))) (.w (.call none false Ct0 [.proj 15 (.v 0)] 1) Dt1))
def Er3 : T := (.w (.chk (.fit 34 (.v 0))) (.w (.chk (.fit 17 (.v 1))) (.w (.call none false Cj6 [.sub 0 17 (.v 1), .proj 3 (.v 0)] 1) Ds5)))
theorem Br1 : type_of% (And.intro (tev_eq @Hr6.eq_1) (And.intro (tev_eq @Hg9.eq_1) (And.intro (tev_eq @Hb8.eq_1) (And.intro (tev_eq @Hx8.eq_1) (And.intro (tev_eq @Iv4.eq_1) (And.intro (tev_eq @Hv0.eq_1) (And.intro (tev_eq @Hj4.eq_1) (And.intro (tev_eq @Gr9.eq_1) (And.intro (tev_eq @Gn9.eq_1) (And.intro (tev_eq @Gm4.eq_1) (And.intro (tev_eq @Gl1.eq_1) (And.intro (tev_eq @Ej9.eq_1) (And.intro (tev_eq @Dt9.eq_1) (And.intro (tev_eq @Dt1.eq_1) (And.intro (tev_eq @Ds5.eq_1) (tev_eq @Er3.eq_1)))))))))))))))) := (And.intro (tev_eq @Hr6.eq_1) (And.intro (tev_eq @Hg9.eq_1) (And.intro (tev_eq @Hb8.eq_1) (And.intro (tev_eq @Hx8.eq_1) (And.intro (tev_eq @Iv4.eq_1) (And.intro (tev_eq @Hv0.eq_1) (And.intro (tev_eq @Hj4.eq_1) (And.intro (tev_eq @Gr9.eq_1) (And.intro (tev_eq @Gn9.eq_1) (And.intro (tev_eq @Gm4.eq_1) (And.intro (tev_eq @Gl1.eq_1) (And.intro (tev_eq @Ej9.eq_1) (And.intro (tev_eq @Dt9.eq_1) (And.intro (tev_eq @Dt1.eq_1) (And.intro (tev_eq @Ds5.eq_1) (tev_eq @Er3.eq_1))))))))))))))))
def Hr5 : T := (.w (.chk (.slen (.proj 6 (.sub 0 16 (.idx 16 (.proj 0 (.idx 1 (.lit 1 [.v 2, .v 3]) (.v 4))) (.v 6)))))) (.w (.chk (.scal (.c (.b true)))) (.yld 3 [.bin .add (.v 6) (.c (.i .i64 1)), .mset (.v 7) (.proj 6 (.sub 0 16 (.idx 16 (.proj 0 (.idx 1 (.lit 1 [.v 2, .v 3]) (.v 4))) (.v 6)))) (.c (.b true))])))
def Hg8 : T := (.yld 3 [.bin .add (.v 6) (.c (.i .i64 1)), .v 7])
def Hb7 : T := (.w (.chk (.fit 16 (.sub 0 16 (.idx 16 (.proj 0 (.idx 1 (.lit 1 [.v 2, .v 3]) (.v 4))) (.v 6))))) (.ite (.ite (.ite (.bin .eql (.proj 1 (.sub 0 16 (.idx 16 (.proj 0 (.idx 1 (.lit 1 [.v 2, .v 3]) (.v 4))) (.v 6)))) (.c (.i .i64 2))) (.c (.b true)) (.bin .eql (.proj 1 (.sub 0 16 (.idx 16 (.proj 0 (.idx 1 (.lit 1 [.v 2, .v 3]) (.v 4))) (.v 6)))) (.c (.i .i64 15)))) (.c (.b true)) (.bin .eql (.proj 1 (.sub 0 16 (.idx 16 (.proj 0 (.idx 1 (.lit 1 [.v 2, .v 3]) (.v 4))) (.v 6)))) (.c (.i .i64 33)))) Hr5 Hg8))
def Iq2 : T := (.ite (.bin .lss (.v 6) (.len (.proj 0 (.idx 1 (.lit 1 [.v 2, .v 3]) (.v 4))))) Hb7 (.yld 2 [.v 7]))
def Is2 : T := .loop 3 [.c (.i .i64 0), .v 5] Iq2
def Hx7 : T := (.yld 1 [.bin .add (.v 4) (.c (.i .i64 1)), .v 6])
def Hq9 : T := (.w (.chk (.len (.proj 0 (.idx 1 (.lit 1 [.v 2, .v 3]) (.v 4))))) (.blk 2 Is2 Hx7))
def Iv3 : T := (.ite (.bin .lss (.v 4) (.len (.lit 1 [.v 2, .v 3]))) Hq9 (.yld 0 [.v 5]))
def It3 : T := .loop 1 [.c (.i .i64 0), .c (.m [])] Iv3
def Hj3 : T := (.w (.chk (.scal (.v 5))) (.ret [.agg [.proj 0 (.v 0), .proj 1 (.v 0), .proj 2 (.v 0), .proj 3 (.v 0), .proj 4 (.v 0), .proj 5 (.v 0), .proj 6 (.v 0), .proj 7 (.v 0), .proj 8 (.v 0), .proj 9 (.v 0), .proj 10 (.v 0), .proj 11 (.v 0), .proj 12 (.v 0), .proj 13 (.v 0), .v 2, .v 3, .v 5]]))
def Gr8 : T := (.w (.call none false Bw4 [.proj 16 (.v 0), .clo Bm2 [.clo Ag1 [.v 1], .v 4]] 1) Hj3)
def Gn8 : T := (.w (.chk (.scal (.v 2))) (.w (.chk (.scal (.v 3))) (.w (.chk (.len (.lit 1 [.v 2, .v 3]))) (.blk 0 It3 Gr8))))
def Gm3 : T := (.w (.call none false Bw4 [.proj 15 (.v 0), .clo Ag1 [.v 1]] 1) Gn8)
def Er2 : T := (.w (.chk (.fit 17 (.v 0))) (.w (.chk (.scal (.v 1))) (.w (.call none false Bw4 [.proj 14 (.v 0), .clo Ag1 [.v 1]] 1) Gm3)))
theorem Cw8 : type_of% (And.intro (tev_eq @Hr5.eq_1) (And.intro (tev_eq @Hg8.eq_1) (And.intro (tev_eq @Hb7.eq_1) (And.intro (tev_eq @Iq2.eq_1) (And.intro (tev_eq @Hx7.eq_1) (And.intro (tev_eq @Hq9.eq_1) (And.intro (tev_eq @Iv3.eq_1) (And.intro (tev_eq @Hj3.eq_1) (And.intro (tev_eq @Gr8.eq_1) (And.intro (tev_eq @Gn8.eq_1) (And.intro (tev_eq @Gm3.eq_1) (tev_eq @Er2.eq_1)))))))))))) := (And.intro (tev_eq @Hr5.eq_1) (And.intro (tev_eq @Hg8.eq_1) (And.intro (tev_eq @Hb7.eq_1) (And.intro (tev_eq @Iq2.eq_1) (And.intro (tev_eq @Hx7.eq_1) (And.intro (tev_eq @Hq9.eq_1) (And.intro (tev_eq @Iv3.eq_1) (And.intro (tev_eq @Hj3.eq_1) (And.intro (tev_eq @Gr8.eq_1) (And.intro (tev_eq @Gn8.eq_1) (And.intro (tev_eq @Gm3.eq_1) (tev_eq @Er2.eq_1))))))))))))
def Hr4 : T := (.ret [.ite (.ite (.bin .eql (.v 1) (.c (.s [46]))) (.c (.b true)) (.bin .eql (.v 0) (.v 1))) (.c (.b true)) (.v 2)])
def Er1 : T := (.w (.chk (.ite (.un .not (.ite (.bin .eql (.v 1) (.c (.s [46]))) (.c (.b true)) (.bin .eql (.v 0) (.v 1)))) (.bin .add (.c (.s [46])) (.v 1)) (.c .u))) (.w (.call (some (.un .not (.ite (.bin .eql (.v 1) (.c (.s [46]))) (.c (.b true)) (.bin .eql (.v 0) (.v 1))))) true Bm9 [.v 0, .bin .add (.c (.s [46])) (.v 1)] 1) Hr4))
theorem Lv6 : type_of% (And.intro (tev_eq @Hr4.eq_1) (tev_eq @Er1.eq_1)) := (And.intro (tev_eq @Hr4.eq_1) (tev_eq @Er1.eq_1))
def Hr3 : T := (.w (.chk (.fit 3 (.sub 0 3 (.sub 0 3 (.idx 3 (.v 1) (.v 2)))))) (.ret [.sub 0 3 (.sub 0 3 (.sub 0 3 (.idx 3 (.v 1) (.v 2)))), .c (.b true)]))
def Hg7 : T := (.yld 1 [.bin .add (.v 2) (.c (.i .i64 1)), .v 3, .v 4, .v 5])
def Hb6 : T := (.w (.chk (.fit 3 (.sub 0 3 (.idx 3 (.v 1) (.v 2))))) (.ite (.bin .eql (.proj 0 (.sub 0 3 (.idx 3 (.v 1) (.v 2)))) (.v 0)) Hr3 Hg7))
def Hx6 : T := (.yld 0 [.v 3, .v 4, .v 5])
def Iv2 : T := (.ite (.bin .lss (.v 2) (.len (.v 1))) Hb6 Hx6)
def It2 : T := .loop 1 [.c (.i .i64 0), .c (.i .i64 0), .c (.s []), .c (.s [])] Iv2
def Hq8 : T := (.ret [.agg [.c (.i .i64 0), .c (.s []), .c (.s [])], .c (.b false)])
def Hj2 : T := (.w (.chk (.len (.v 1))) (.blk 0 It2 Hq8))
def Er0 : T := (.w (.call none false Cf8 [] 1) Hj2)
theorem Ff3 : type_of% (And.intro (tev_eq @Hr3.eq_1) (And.intro (tev_eq @Hg7.eq_1) (And.intro (tev_eq @Hb6.eq_1) (And.intro (tev_eq @Hx6.eq_1) (And.intro (tev_eq @Iv2.eq_1) (And.intro (tev_eq @Hq8.eq_1) (And.intro (tev_eq @Hj2.eq_1) (tev_eq @Er0.eq_1)))))))) := (And.intro (tev_eq @Hr3.eq_1) (And.intro (tev_eq @Hg7.eq_1) (And.intro (tev_eq @Hb6.eq_1) (And.intro (tev_eq @Hx6.eq_1) (And.intro (tev_eq @Iv2.eq_1) (And.intro (tev_eq @Hq8.eq_1) (And.intro (tev_eq @Hj2.eq_1) (tev_eq @Er0.eq_1))))))))
def Ep9 : T := (.w (.chk (.len (.v 0))) (.w (.chk (.lit 1 [])) (.ret [.app 1 (.c (.l 1 [])) (.v 0)])))
theorem Lv5 : type_of% (tev_eq @Ep9.eq_1) := (tev_eq @Ep9.eq_1)
def Ep8 : T := (.w (.chk (.len (.v 0))) (.w (.chk (.lit 3 [])) (.ret [.app 3 (.c (.l 3 [])) (.v 0)])))
theorem Lv4 : type_of% (tev_eq @Ep8.eq_1) := (tev_eq @Ep8.eq_1)
def Hr2 : T := (.ret [.bin .geq (.v 2) (.c (.i .i64 0))])
def Ep7 : T := (.w (.call none true Cf7 [.v 0, .v 1] 1) Hr2)
theorem Lv3 : type_of% (And.intro (tev_eq @Hr2.eq_1) (tev_eq @Ep7.eq_1)) := (And.intro (tev_eq @Hr2.eq_1) (tev_eq @Ep7.eq_1))
def Ep6 : T := (.w (.chk (.fit 3 (.v 0))) (.w (.call none true Bz1 [.proj 6 (.v 1), .sub 0 3 (.v 0)] 1) (.ret [.un .not (.v 2)])))
theorem Lv2 : type_of% (tev_eq @Ep6.eq_1) := (tev_eq @Ep6.eq_1)
def Hr1 : T := (.ret [.bin .geq (.v 2) (.c (.i .i64 0))])
def Ep5 : T := (.w (.call none true Bm1 [.v 0, .v 1] 1) Hr1)
theorem Lv1 : type_of% (And.intro (tev_eq @Hr1.eq_1) (tev_eq @Ep5.eq_1)) := (And.intro (tev_eq @Hr1.eq_1) (tev_eq @Ep5.eq_1))
def Ep4 : T := (.w (.call none true Ap0 [.v 0, .proj 3 (.v 1)] 1) (.ret [.un .not (.v 2)]))
theorem Lv0 : type_of% (tev_eq @Ep4.eq_1) := (tev_eq @Ep4.eq_1)
def Hr0 : T := (.ret [.c (.l 1 []), .c (.b true)])
def Hg6 : T := (.ret [.c (.l 1 []), .c (.b false)])
def Hb5 : T := (.yld 1 [.v 1, .v 2, .bin .add (.v 3) (.c (.i .i64 1))])
def Hx5 : T := (.ret [.c (.l 1 []), .c (.b false)])
def Hq7 : T := (.w (.chk (.scal (.ssl (.v 0) (.v 2) (.v 3)))) (.yld 1 [.app 1 (.v 1) (.lit 1 [.ssl (.v 0) (.v 2) (.v 3)]), .bin .add (.v 3) (.c (.i .i64 1)), .bin .add (.v 3) (.c (.i .i64 1))]))
def Hj1 : T := (.w (.chk (.ite (.ite (.un .not (.un .not (.v 4))) (.bin .eql (.ssl (.v 0) (.v 2) (.v 3)) (.c (.s [42]))) (.c (.b false))) (.bin .gtr (.v 2) (.c (.i .i64 0))) (.c .u))) (.ite (.ite (.un .not (.v 4)) (.c (.b true)) (.ite (.bin .eql (.ssl (.v 0) (.v 2) (.v 3)) (.c (.s [42]))) (.bin .gtr (.v 2) (.c (.i .i64 0))) (.c (.b false)))) Hx5 Hq7))
def Gr7 : T := (.w (.call none true Cf6 [.ssl (.v 0) (.v 2) (.v 3)] 1) Hj1)
def Gn7 : T := (.ite (.bin .neq (.sidx (.v 0) (.v 3)) (.c (.i .u8 46))) Hb5 Gr7)
def Iv1 : T := (.ite (.bin .lss (.v 3) (.slen (.v 0))) Gn7 (.yld 0 [.v 1]))
def It1 : T := .loop 1 [.c (.l 1 []), .c (.i .i64 0), .c (.i .i64 0)] Iv1
def Gm2 : T := (.ret [.v 1, .c (.b true)])
def Gl0 : T := (.blk 0 It1 Gm2)
def Ej8 : T := (.ite (.ite (.ite (.bin .lss (.slen (.v 0)) (.c (.i .i64 2))) (.c (.b true)) (.bin .gtr (.slen (.v 0)) (.c (.i .i64 254)))) (.c (.b true)) (.bin .neq (.sidx (.v 0) (.bin .sub (.slen (.v 0)) (.c (.i .i64 1)))) (.c (.i .u8 46)))) Hg6 Gl0)
def Ep3 : T := (.ite (.bin .eql (.v 0) (.c (.s [46]))) Hr0 Ej8)
theorem Cw7 : type_of% (And.intro (tev_eq @Hr0.eq_1) (And.intro (tev_eq @Hg6.eq_1) (And.intro (tev_eq @Hb5.eq_1) (And.intro (tev_eq @Hx5.eq_1) (And.intro (tev_eq @Hq7.eq_1) (And.intro (tev_eq @Hj1.eq_1) (And.intro (tev_eq @Gr7.eq_1) (And.intro (tev_eq @Gn7.eq_1) (And.intro (tev_eq @Iv1.eq_1) (And.intro (tev_eq @Gm2.eq_1) (And.intro (tev_eq @Gl0.eq_1) (And.intro (tev_eq @Ej8.eq_1) (tev_eq @Ep3.eq_1))))))))))))) := (And.intro (tev_eq @Hr0.eq_1) (And.intro (tev_eq @Hg6.eq_1) (And.intro (tev_eq @Hb5.eq_1) (And.intro (tev_eq @Hx5.eq_1) (And.intro (tev_eq @Hq7.eq_1) (And.intro (tev_eq @Hj1.eq_1) (And.intro (tev_eq @Gr7.eq_1) (And.intro (tev_eq @Gn7.eq_1) (And.intro (tev_eq @Iv1.eq_1) (And.intro (tev_eq @Gm2.eq_1) (And.intro (tev_eq @Gl0.eq_1) (And.intro (tev_eq @Ej8.eq_1) (tev_eq @Ep3.eq_1)))))))))))))
def Hp9 : T := (.yld 1 [.bin .add (.v 2) (.c (.i .i64 1))])
def El5 : T := (.ite (.ite (.ite (.bin .lss (.v 2) (.len (.v 0))) (.bin .lss (.v 2) (.len (.v 1))) (.c (.b false))) (.bin .eql (.proj 0 (.idx 1 (.v 0) (.bin .sub (.bin .sub (.len (.v 0)) (.c (.i .i64 1))) (.v 2)))) (.proj 0 (.idx 1 (.v 1) (.bin .sub (.bin .sub (.len (.v 1)) (.c (.i .i64 1))) (.v 2))))) (.c (.b false))) Hp9 (.yld 0 [.v 2]))
def Gb1 : T := .loop 1 [.c (.i .i64 0)] El5
def Ep2 : T := (.blk 0 Gb1 (.ret [.v 2]))
theorem Iy4 : type_of% (And.intro (tev_eq @Hp9.eq_1) (And.intro (tev_eq @El5.eq_1) (tev_eq @Ep2.eq_1))) := (And.intro (tev_eq @Hp9.eq_1) (And.intro (tev_eq @El5.eq_1) (tev_eq @Ep2.eq_1)))
def Hp8 : T := (.ret [.c (.s [78, 83])])
def Hg5 : T := (.ret [.c (.s [67, 78, 65, 77, 69])])
def Hb4 : T := (.ret [.c (.s [83, 79, 65])])
def Hx4 : T := (.ret [.c (.s [80, 84, 82])])
def Hq6 : T := (.ret [.c (.s [77, 88])])
def Hj0 : T := (.ret [.c (.s [84, 88, 84])])
def Gr6 : T := (.ret [.c (.s [65, 65, 65, 65])])
def Gn6 : T := (.ret [.c (.s [83, 82, 86])])
def Gm1 : T := (.ret [.c (.s [68, 78, 65, 77, 69])])
def Gh9 : T := (.ret [.c (.s [68, 83])])
def Ej7 : T := (.ret [.c (.s [82, 82, 83, 73, 71])])
def Dt8 : T := (.ret [.c (.s [78, 83, 69, 67])])
def Dt0 : T := (.ret [.c (.s [68, 78, 83, 75, 69, 89])])
def Ds4 : T := (.ite (.bin .eql (.v 0) (.c (.i .i64 48))) Dt0 (.ret [.c (.s [])]))
def Dr9 : T := (.ite (.bin .eql (.v 0) (.c (.i .i64 47))) Dt8 Ds4)
def Dr4 : T := (.ite (.bin .eql (.v 0) (.c (.i .i64 46))) Ej7 Dr9)
def Dp9 : T := (.ite (.bin .eql (.v 0) (.c (.i .i64 43))) Gh9 Dr4)
def Dp4 : T := (.ite (.bin .eql (.v 0) (.c (.i .i64 39))) Gm1 Dp9)
def Dn9 : T := (.ite (.bin .eql (.v 0) (.c (.i .i64 33))) Gn6 Dp4)
def Dn4 : T := (.ite (.bin .eql (.v 0) (.c (.i .i64 28))) Gr6 Dn9)
def Dg6 : T := (.ite (.bin .eql (.v 0) (.c (.i .i64 16))) Hj0 Dn4)
def Dg5 : T := (.ite (.bin .eql (.v 0) (.c (.i .i64 15))) Hq6 Dg6)
def Dg4 : T := (.ite (.bin .eql (.v 0) (.c (.i .i64 12))) Hx4 Dg5)
def Dg3 : T := (.ite (.bin .eql (.v 0) (.c (.i .i64 6))) Hb4 Dg4)
def Dg2 : T := (.ite (.bin .eql (.v 0) (.c (.i .i64 5))) Hg5 Dg3)
def Dg1 : T := (.ite (.bin .eql (.v 0) (.c (.i .i64 2))) Hp8 Dg2)
def Ep1 : T := (.ite (.bin .eql (.v 0) (.c (.i .i64 1))) (.ret [.c (.s [65])]) Dg1)
theorem Lq9 : type_of% (And.intro (tev_eq @Hp8.eq_1) (And.intro (tev_eq @Hg5.eq_1) (And.intro (tev_eq @Hb4.eq_1) (And.intro (tev_eq @Hx4.eq_1) (And.intro (tev_eq @Hq6.eq_1) (And.intro (tev_eq @Hj0.eq_1) (And.intro (tev_eq @Gr6.eq_1) (And.intro (tev_eq @Gn6.eq_1) (And.intro (tev_eq @Gm1.eq_1) (And.intro (tev_eq @Gh9.eq_1) (And.intro (tev_eq @Ej7.eq_1) (And.intro (tev_eq @Dt8.eq_1) (And.intro (tev_eq @Dt0.eq_1) (And.intro (tev_eq @Ds4.eq_1) (And.intro (tev_eq @Dr9.eq_1) (And.intro (tev_eq @Dr4.eq_1) (And.intro (tev_eq @Dp9.eq_1) (And.intro (tev_eq @Dp4.eq_1) (And.intro (tev_eq @Dn9.eq_1) (And.intro (tev_eq @Dn4.eq_1) (And.intro (tev_eq @Dg6.eq_1) (And.intro (tev_eq @Dg5.eq_1) (And.intro (tev_eq @Dg4.eq_1) (And.intro (tev_eq @Dg3.eq_1) (And.intro (tev_eq @Dg2.eq_1) (And.intro (tev_eq @Dg1.eq_1) (tev_eq @Ep1.eq_1))))))))))))))))))))))))))) := (And.intro (tev_eq @Hp8.eq_1) (And.intro (tev_eq @Hg5.eq_1) (And.intro (tev_eq @Hb4.eq_1) (And.intro (tev_eq @Hx4.eq_1) (And.intro (tev_eq @Hq6.eq_1) (And.intro (tev_eq @Hj0.eq_1) (And.intro (tev_eq @Gr6.eq_1) (And.intro (tev_eq @Gn6.eq_1) (And.intro (tev_eq @Gm1.eq_1) (And.intro (tev_eq @Gh9.eq_1) (And.intro (tev_eq @Ej7.eq_1) (And.intro (tev_eq @Dt8.eq_1) (And.intro (tev_eq @Dt0.eq_1) (And.intro (tev_eq @Ds4.eq_1) (And.intro (tev_eq @Dr9.eq_1) (And.intro (tev_eq @Dr4.eq_1) (And.intro (tev_eq @Dp9.eq_1) (And.intro (tev_eq @Dp4.eq_1) (And.intro (tev_eq @Dn9.eq_1) (And.intro (tev_eq @Dn4.eq_1) (And.intro (tev_eq @Dg6.eq_1) (And.intro (tev_eq @Dg5.eq_1) (And.intro (tev_eq @Dg4.eq_1) (And.intro (tev_eq @Dg3.eq_1) (And.intro (tev_eq @Dg2.eq_1) (And.intro (tev_eq @Dg1.eq_1) (tev_eq @Ep1.eq_1)))))))))))))))))))))))))))
def Hp7 : T := (.yld 1 [.bin .add (.v 2) (.c (.i .i64 1))])
def Hg4 : T := (.ite (.eqs false true [.b, .i .u64, .i .u64] (.sub 0 3 (.idx 3 (.v 0) (.v 2))) (.sub 0 3 (.v 1))) (.ret [.c (.b true)]) Hp7)
def Iv0 : T := (.ite (.bin .lss (.v 2) (.len (.v 0))) Hg4 (.yld 0 []))
def It0 : T := .loop 1 [.c (.i .i64 0)] Iv0
def Ep0 : T := (.w (.chk (.fit 3 (.v 1))) (.blk 0 It0 (.ret [.c (.b false)])))
theorem Ff2 : type_of% (And.intro (tev_eq @Hp7.eq_1) (And.intro (tev_eq @Hg4.eq_1) (And.intro (tev_eq @Iv0.eq_1) (tev_eq @Ep0.eq_1)))) := (And.intro (tev_eq @Hp7.eq_1) (And.intro (tev_eq @Hg4.eq_1) (And.intro (tev_eq @Iv0.eq_1) (tev_eq @Ep0.eq_1))))
def Hp6 : T := (.ite (.bin .lss (.v 1) (.c (.i .i64 0))) (.ret [.scal (.c .u)]) (.yld 0 []))
def Hg3 : T := (.w (.chk (.lsl 16 (.v 0) (.c (.i .i64 0)) (.len (.v 0)))) (.w (.chk (.ite (.bin .eql (.len (.v 0)) (.len (.v 0))) (.c .u) (.scal (.c .u)))) (.w (.chk (.ite (.bin .eql (.len (.v 0)) (.c (.i .i64 0))) (.c .u) (.idx 16 (.rep 16 (.bin .sub (.v 1) (.bin .sub (.len (.v 0)) (.len (.v 0)))) (.agg [.c (.s []), .c (.i .i64 0), .c (.i .i64 0), .c (.b false), .c (.i .u64 0), .c (.i .u64 0), .c (.s []), .c (.s []), .c (.s []), .c (.i .i64 0), .c (.i .i64 0), .c (.i .i64 0), .c (.i .i64 0), .c (.i .i64 0), .c (.i .i64 0), .c (.i .u64 0)])) (.c (.i .i64 0))))) (.ret [.lsl 16 (.app 16 (.v 0) (.rep 16 (.bin .sub (.v 1) (.bin .sub (.len (.v 0)) (.len (.v 0)))) (.agg [.c (.s []), .c (.i .i64 0), .c (.i .i64 0), .c (.b false), .c (.i .u64 0), .c (.i .u64 0), .c (.s []), .c (.s []), .c (.s []), .c (.i .i64 0), .c (.i .i64 0), .c (.i .i64 0), .c (.i .i64 0), .c (.i .i64 0), .c (.i .i64 0), .c (.i .u64 0)]))) (.c (.i .i64 0)) (.len (.v 0))]))))
def Hb3 : T := (.w (.chk (.ite (.bin .eql (.len (.v 0)) (.c (.i .i64 0))) (.c .u) (.scal (.c .u)))) (.ret [.c (.l 16 [])]))
def Hx3 : T := (.ite (.bin .gtr (.bin .sub (.v 1) (.bin .sub (.len (.v 0)) (.len (.v 0)))) (.c (.i .i64 0))) Hg3 Hb3)
def En9 : T := (.blk 0 Hp6 Hx3)
theorem Kj4 : type_of% (And.intro (tev_eq @Hp6.eq_1) (And.intro (tev_eq @Hg3.eq_1) (And.intro (tev_eq @Hb3.eq_1) (And.intro (tev_eq @Hx3.eq_1) (tev_eq @En9.eq_1))))) := (And.intro (tev_eq @Hp6.eq_1) (And.intro (tev_eq @Hg3.eq_1) (And.intro (tev_eq @Hb3.eq_1) (And.intro (tev_eq @Hx3.eq_1) (tev_eq @En9.eq_1)))))
def Hp5 : T := (.ret [.bin .geq (.v 2) (.c (.i .i64 0))])
def En8 : T := (.w (.call none true Cf5 [.v 0, .v 1] 1) Hp5)
theorem Lq8 : type_of% (And.intro (tev_eq @Hp5.eq_1) (tev_eq @En8.eq_1)) := (And.intro (tev_eq @Hp5.eq_1) (tev_eq @En8.eq_1))
def Hp4 : T := (.w (.chk (.idx 1 (.v 5) (.v 3))) (.w (.chk (.scal (.proj 0 (.idx 1 (.v 5) (.v 4))))) (.yld 1 [.bin .add (.v 3) (.c (.i .i64 1)), .bin .add (.v 4) (.c (.i .i64 1)), .set 1 (.v 5) (.v 3) 0 [.proj 0 (.idx 1 (.v 5) (.v 4))]])))
def Hg2 : T := (.yld 1 [.v 3, .bin .add (.v 4) (.c (.i .i64 1)), .v 5])
def Hb2 : T := (.ite (.un .not (.v 6)) Hp4 Hg2)
def Hx2 : T := (.w (.clo none true (.v 1) [.proj 0 (.idx 1 (.v 5) (.v 4))] 1) Hb2)
def Iq9 : T := (.ite (.bin .lss (.v 4) (.len (.v 5))) Hx2 (.yld 0 [.v 3, .v 5]))
def Is9 : T := .loop 1 [.v 2, .bin .add (.v 2) (.c (.i .i64 1)), .v 0] Iq9
def Hq5 : T := (.w (.chk (.lsl 1 (.v 4) (.v 3) (.len (.v 4)))) (.ret [.lsl 1 (.app 1 (.lsl 1 (.v 4) (.c (.i .i64 0)) (.v 3)) (.rep 1 (.bin .sub (.len (.v 4)) (.v 3)) (.c (.s [])))) (.c (.i .i64 0)) (.v 3)]))
def Gt9 : T := (.blk 0 Is9 Hq5)
def Gr5 : T := (.ite (.bin .eql (.v 2) (.c (.i .i64 (-1)))) (.ret [.v 0]) Gt9)
def En7 : T := (.w (.call none true Bm1 [.v 0, .v 1] 1) Gr5)
theorem Ff1 : type_of% (And.intro (tev_eq @Hp4.eq_1) (And.intro (tev_eq @Hg2.eq_1) (And.intro (tev_eq @Hb2.eq_1) (And.intro (tev_eq @Hx2.eq_1) (And.intro (tev_eq @Iq9.eq_1) (And.intro (tev_eq @Hq5.eq_1) (And.intro (tev_eq @Gt9.eq_1) (And.intro (tev_eq @Gr5.eq_1) (tev_eq @En7.eq_1))))))))) := (And.intro (tev_eq @Hp4.eq_1) (And.intro (tev_eq @Hg2.eq_1) (And.intro (tev_eq @Hb2.eq_1) (And.intro (tev_eq @Hx2.eq_1) (And.intro (tev_eq @Iq9.eq_1) (And.intro (tev_eq @Hq5.eq_1) (And.intro (tev_eq @Gt9.eq_1) (And.intro (tev_eq @Gr5.eq_1) (tev_eq @En7.eq_1)))))))))
def En6 : T := (.ret [.bin .eql (.v 0) (.proj 0 (.v 1))])
theorem Lq7 : type_of% (tev_eq @En6.eq_1) := (tev_eq @En6.eq_1)
def Hp3 : T := (.w (.chk (.fit 2 (.sub 0 2 (.v 0)))) (.ret [.sub 0 2 (.sub 0 2 (.v 0)), .c (.b true)]))
def Hg1 : T := (.w (.chk (.fit 2 (.sub 0 2 (.v 0)))) (.ret [.sub 0 2 (.sub 0 2 (.v 0)), .c (.b true)]))
def Hb1 : T := (.w (.chk (.scal (.v 6))) (.w (.chk (.scal (.c (.i .i64 2)))) (.ret [.agg [.v 6, .c (.i .i64 2)], .c (.b false)])))
def Hx1 : T := (.w (.call none true Cf4 [.proj 0 (.v 0), .bin .add (.bin .add (.len (.v 4)) (.c (.i .i64 1))) (.v 2)] 1) Hb1)
def Hq4 : T := (.ite (.bin .leq (.len (.v 5)) (.bin .add (.bin .add (.len (.v 4)) (.c (.i .i64 1))) (.v 2))) Hg1 Hx1)
def Gt8 : T := (.w (.chk (.bin .add (.bin .add (.len (.v 4)) (.c (.i .i64 1))) (.v 2))) (.w (.call none false Bw3 [.proj 0 (.v 0)] 1) Hq4))
def Gr4 : T := (.w (.call none false Bw3 [.v 1] 1) Gt8)
def Gn5 : T := (.ite (.ite (.ite (.ite (.bin .eql (.proj 0 (.v 0)) (.v 1)) (.c (.b true)) (.un .not (.v 3))) (.c (.b true)) (.bin .lss (.v 2) (.c (.i .i64 0)))) (.c (.b true)) (.bin .geq (.v 2) (.c (.i .i64 10)))) Hp3 Gr4)
def En5 : T := (.w (.chk (.fit 2 (.v 0))) (.w (.call (some (.un .not (.bin .eql (.proj 0 (.v 0)) (.v 1)))) true Am8 [.proj 0 (.v 0), .v 1] 1) Gn5))
theorem Em0 : type_of% (And.intro (tev_eq @Hp3.eq_1) (And.intro (tev_eq @Hg1.eq_1) (And.intro (tev_eq @Hb1.eq_1) (And.intro (tev_eq @Hx1.eq_1) (And.intro (tev_eq @Hq4.eq_1) (And.intro (tev_eq @Gt8.eq_1) (And.intro (tev_eq @Gr4.eq_1) (And.intro (tev_eq @Gn5.eq_1) (tev_eq @En5.eq_1))))))))) := (And.intro (tev_eq @Hp3.eq_1) (And.intro (tev_eq @Hg1.eq_1) (And.intro (tev_eq @Hb1.eq_1) (And.intro (tev_eq @Hx1.eq_1) (And.intro (tev_eq @Hq4.eq_1) (And.intro (tev_eq @Gt8.eq_1) (And.intro (tev_eq @Gr4.eq_1) (And.intro (tev_eq @Gn5.eq_1) (tev_eq @En5.eq_1)))))))))
def En4 : T := (.w (.chk (.fit 34 (.v 0))) (.w (.chk (.scal (.proj 2 (.v 0)))) (.w (.chk (.scal (.proj 1 (.v 0)))) (.ret [.agg [.proj 2 (.v 0), .proj 1 (.v 0)]]))))
theorem Lq6 : type_of% (tev_eq @En4.eq_1) := (tev_eq @En4.eq_1)
def Hp2 : T := (.w (.call none true Bm0 [.v 2, .v 1] 1) (.ret [.v 3]))
def En3 : T := (.w (.chk (.fit 17 (.v 0))) (.w (.call none false Cj4 [.sub 0 17 (.v 0), .v 1] 1) Hp2))
theorem Lq5 : type_of% (And.intro (tev_eq @Hp2.eq_1) (tev_eq @En3.eq_1)) := (And.intro (tev_eq @Hp2.eq_1) (tev_eq @En3.eq_1))
def Hp1 : T := (.w (.chk (.scal (.v 10))) (.yld 1 [.bin .add (.v 7) (.c (.i .i64 1)), .v 10]))
def Hg0 : T := (.w (.call none false Bn0 [.v 8, .v 9, .c (.l 3 [])] 1) Hp1)
def Hb0 : T := (.w (.call none false Cf2 [.sub 0 17 (.v 2), .proj 0 (.idx 1 (.v 6) (.v 7))] 1) Hg0)
def Iq8 : T := (.ite (.bin .lss (.v 7) (.len (.v 6))) Hb0 (.yld 0 [.v 8]))
def Is8 : T := .loop 1 [.c (.i .i64 0), .c (.l 3 [])] Iq8
def Hx0 : T := (.w (.chk (.fit 34 (.v 8))) (.ret [.sub 0 34 (.v 8)]))
def Hq3 : T := (.w (.chk (.scal (.c (.i .i64 0)))) (.w (.call none false Cc7 [.agg [.proj 0 (.v 0), .proj 1 (.v 0), .proj 2 (.v 0), .v 3, .v 6, .v 7, .c (.l 3 []), .proj 7 (.v 0), .c (.i .i64 0), .proj 9 (.v 0), .proj 10 (.v 0), .proj 11 (.v 0), .proj 12 (.v 0), .proj 13 (.v 0), .proj 14 (.v 0), .proj 15 (.v 0), .proj 16 (.v 0), .proj 17 (.v 0), .proj 18 (.v 0), .proj 19 (.v 0), .proj 20 (.v 0), .proj 21 (.v 0), .proj 22 (.v 0), .proj 23 (.v 0), .proj 24 (.v 0), .proj 25 (.v 0), .proj 26 (.v 0), .proj 27 (.v 0), .proj 28 (.v 0), .proj 29 (.v 0), .proj 30 (.v 0), .proj 31 (.v 0), .proj 32 (.v 0), .proj 33 (.v 0)]] 1) Hx0))
def Gt7 : T := (.w (.chk (.scal (.v 6))) (.blk 0 Is8 Hq3))
def Gr3 : T := (.w (.chk (.scal (.v 3))) (.w (.call none false Fb0 [.v 4] 1) Gt7))
def Gn4 : T := (.w (.chk (.fit 17 (.v 2))) (.w (.call none false Cf3 [.sub 0 17 (.v 1), .proj 3 (.v 0)] 3) Gr3))
def En2 : T := (.w (.chk (.fit 34 (.v 0))) (.w (.chk (.fit 17 (.v 1))) (.w (.call none false Cj4 [.sub 0 17 (.v 1), .proj 3 (.v 0)] 1) Gn4)))
theorem Jk4 : type_of% (And.intro (tev_eq @Hp1.eq_1) (And.intro (tev_eq @Hg0.eq_1) (And.intro (tev_eq @Hb0.eq_1) (And.intro (tev_eq @Iq8.eq_1) (And.intro (tev_eq @Hx0.eq_1) (And.intro (tev_eq @Hq3.eq_1) (And.intro (tev_eq @Gt7.eq_1) (And.intro (tev_eq @Gr3.eq_1) (And.intro (tev_eq @Gn4.eq_1) (tev_eq @En2.eq_1)))))))))) := (And.intro (tev_eq @Hp1.eq_1) (And.intro (tev_eq @Hg0.eq_1) (And.intro (tev_eq @Hb0.eq_1) (And.intro (tev_eq @Iq8.eq_1) (And.intro (tev_eq @Hx0.eq_1) (And.intro (tev_eq @Hq3.eq_1) (And.intro (tev_eq @Gt7.eq_1) (And.intro (tev_eq @Gr3.eq_1) (And.intro (tev_eq @Gn4.eq_1) (tev_eq @En2.eq_1))))))))))
def Hp0 : T := (.w (.chk (.fit 34 (.v 1))) (.ret [.sub 0 34 (.v 1)]))
def En1 : T := (.w (.chk (.fit 34 (.v 0))) (.w (.call none false Cc7 [.agg [.proj 0 (.v 0), .proj 1 (.v 0), .proj 2 (.v 0), .proj 3 (.v 0), .proj 4 (.v 0), .proj 5 (.v 0), .app 3 (.app 3 (.c (.l 3 [])) (.proj 6 (.v 0))) (.lit 3 [.agg [.proj 9 (.v 0), .proj 10 (.v 0), .proj 11 (.v 0)]]), .proj 7 (.v 0), .proj 8 (.v 0), .proj 9 (.v 0), .proj 10 (.v 0), .proj 11 (.v 0), .proj 12 (.v 0), .proj 13 (.v 0), .proj 14 (.v 0), .proj 15 (.v 0), .proj 16 (.v 0), .proj 17 (.v 0), .proj 18 (.v 0), .proj 19 (.v 0), .proj 20 (.v 0), .proj 21 (.v 0), .proj 22 (.v 0), .proj 23 (.v 0), .proj 24 (.v 0), .proj 25 (.v 0), .proj 26 (.v 0), .proj 27 (.v 0), .proj 28 (.v 0), .proj 29 (.v 0), .proj 30 (.v 0), .proj 31 (.v 0), .proj 32 (.v 0), .proj 33 (.v 0)]] 1) Hp0))
theorem Lq4 : type_of% (And.intro (tev_eq @Hp0.eq_1) (tev_eq @En1.eq_1)) := (And.intro (tev_eq @Hp0.eq_1) (tev_eq @En1.eq_1))
def Hn9 : T := (.yld 1 [.ite (.v 5) (.c (.b true)) (.bin .eql (.proj 0 (.idx 16 (.app 16 (.app 16 (.c (.l 16 [])) (.proj 15 (.v 0))) (.v 4)) (.v 6))) (.proj 6 (.idx 16 (.v 4) (.bin .sub (.len (.v 4)) (.c (.i .i64 1)))))), .bin .add (.v 6) (.c (.i .i64 1))])
def Iq7 : T := (.ite (.bin .lss (.v 6) (.len (.app 16 (.app 16 (.c (.l 16 [])) (.proj 15 (.v 0))) (.v 4)))) Hn9 (.yld 0 [.v 5]))
def Is7 : T := .loop 1 [.ite (.bin .gtr (.len (.app 16 (.app 16 (.c (.l 16 [])) (.proj 15 (.v 0))) (.v 4))) (.c (.i .i64 8))) (.c (.b true)) (.bin .eql (.proj 6 (.idx 16 (.v 4) (.bin .sub (.len (.v 4)) (.c (.i .i64 1))))) (.proj 0 (.v 0))), .c (.i .i64 0)] Iq7
def Hf9 : T := (.w (.chk (.scal (.c (.i .i64 4)))) (.w (.chk (.scal (.c (.i .i64 28)))) (.ret [.agg [.proj 0 (.v 0), .proj 1 (.v 0), .proj 6 (.idx 16 (.v 4) (.bin .sub (.len (.v 4)) (.c (.i .i64 1)))), .proj 3 (.v 0), .proj 4 (.v 0), .proj 5 (.v 0), .proj 6 (.v 0), .c (.i .i64 4), .proj 8 (.v 0), .proj 9 (.v 0), .proj 10 (.v 0), .proj 11 (.v 0), .proj 12 (.v 0), .proj 13 (.v 0), .proj 14 (.v 0), .app 16 (.app 16 (.c (.l 16 [])) (.proj 15 (.v 0))) (.v 4), .proj 16 (.v 0), .proj 17 (.v 0), .proj 18 (.v 0), .proj 19 (.v 0), .proj 20 (.v 0), .proj 21 (.v 0), .proj 22 (.v 0), .proj 23 (.v 0), .proj 24 (.v 0), .proj 25 (.v 0), .proj 26 (.v 0), .proj 27 (.v 0), .proj 28 (.v 0), .proj 29 (.v 0), .proj 30 (.v 0), .proj 31 (.v 0), .proj 32 (.v 0), .c (.i .i64 28)]])))
def Hz9 : T := (.w (.chk (.scal (.c (.i .i64 5)))) (.ret [.agg [.proj 0 (.v 0), .proj 1 (.v 0), .proj 6 (.idx 16 (.v 4) (.bin .sub (.len (.v 4)) (.c (.i .i64 1)))), .proj 3 (.v 0), .proj 4 (.v 0), .proj 5 (.v 0), .proj 6 (.v 0), .c (.i .i64 5), .proj 8 (.v 0), .proj 9 (.v 0), .proj 10 (.v 0), .proj 11 (.v 0), .proj 12 (.v 0), .proj 13 (.v 0), .proj 14 (.v 0), .app 16 (.app 16 (.c (.l 16 [])) (.proj 15 (.v 0))) (.v 4), .proj 16 (.v 0), .proj 17 (.v 0), .proj 18 (.v 0), .proj 19 (.v 0), .proj 20 (.v 0), .proj 21 (.v 0), .proj 22 (.v 0), .proj 23 (.v 0), .proj 24 (.v 0), .proj 25 (.v 0), .proj 26 (.v 0), .proj 27 (.v 0), .proj 28 (.v 0), .proj 29 (.v 0), .proj 30 (.v 0), .proj 31 (.v 0), .proj 32 (.v 0), .proj 33 (.v 0)]]))
def Hw9 : T := (.w (.chk (.scal (.c (.i .i64 0)))) (.ret [.agg [.proj 0 (.v 0), .proj 1 (.v 0), .proj 6 (.idx 16 (.v 4) (.bin .sub (.len (.v 4)) (.c (.i .i64 1)))), .proj 3 (.v 0), .proj 4 (.v 0), .proj 5 (.v 0), .c (.l 3 []), .c (.i .i64 0), .c (.i .i64 0), .proj 9 (.v 0), .proj 10 (.v 0), .proj 11 (.v 0), .proj 12 (.v 0), .proj 13 (.v 0), .proj 14 (.v 0), .app 16 (.app 16 (.c (.l 16 [])) (.proj 15 (.v 0))) (.v 4), .proj 16 (.v 0), .proj 17 (.v 0), .proj 18 (.v 0), .proj 19 (.v 0), .proj 20 (.v 0), .proj 21 (.v 0), .proj 22 (.v 0), .proj 23 (.v 0), .proj 24 (.v 0), .proj 25 (.v 0), .proj 26 (.v 0), .proj 27 (.v 0), .proj 28 (.v 0), .proj 29 (.v 0), .proj 30 (.v 0), .proj 31 (.v 0), .proj 32 (.v 0), .proj 33 (.v 0)]]))
def Hq2 : T := (.ite (.un .not (.v 6)) Hz9 Hw9)
def Gt6 : T := (.w (.call none true Am8 [.proj 6 (.idx 16 (.v 4) (.bin .sub (.len (.v 4)) (.c (.i .i64 1)))), .proj 3 (.v 0)] 1) Hq2)
def Gr2 : T := (.ite (.v 5) Hf9 Gt6)
def Gn3 : T := (.w (.chk (.scal (.proj 6 (.idx 16 (.v 4) (.bin .sub (.len (.v 4)) (.c (.i .i64 1))))))) (.blk 0 Is7 Gr2))
def Gm0 : T := (.w (.call none false Cf1 [.proj 14 (.v 2), .v 3] 1) Gn3)
def Gh8 : T := (.w (.chk (.fit 17 (.v 2))) (.w (.chk (.proj 14 (.v 2))) (.w (.call none true Cs8 [.sub 0 34 (.v 0)] 1) Gm0)))
def En0 : T := (.w (.chk (.fit 34 (.v 0))) (.w (.chk (.fit 17 (.v 1))) (.w (.call none false Cj4 [.sub 0 17 (.v 1), .proj 3 (.v 0)] 1) Gh8)))
theorem El9 : type_of% (And.intro (tev_eq @Hn9.eq_1) (And.intro (tev_eq @Iq7.eq_1) (And.intro (tev_eq @Hf9.eq_1) (And.intro (tev_eq @Hz9.eq_1) (And.intro (tev_eq @Hw9.eq_1) (And.intro (tev_eq @Hq2.eq_1) (And.intro (tev_eq @Gt6.eq_1) (And.intro (tev_eq @Gr2.eq_1) (And.intro (tev_eq @Gn3.eq_1) (And.intro (tev_eq @Gm0.eq_1) (And.intro (tev_eq @Gh8.eq_1) (tev_eq @En0.eq_1)))))))))))) := (And.intro (tev_eq @Hn9.eq_1) (And.intro (tev_eq @Iq7.eq_1) (And.intro (tev_eq @Hf9.eq_1) (And.intro (tev_eq @Hz9.eq_1) (And.intro (tev_eq @Hw9.eq_1) (And.intro (tev_eq @Hq2.eq_1) (And.intro (tev_eq @Gt6.eq_1) (And.intro (tev_eq @Gr2.eq_1) (And.intro (tev_eq @Gn3.eq_1) (And.intro (tev_eq @Gm0.eq_1) (And.intro (tev_eq @Gh8.eq_1) (tev_eq @En0.eq_1))))))))))))
def Hn8 : T := (.w (.chk (.fit 16 (.sub 0 16 (.sub 0 16 (.idx 16 (.v 4) (.v 5)))))) (.yld 1 [.bin .add (.v 5) (.c (.i .i64 1)), .app 16 (.v 6) (.lit 16 [.sub 0 16 (.sub 0 16 (.idx 16 (.v 4) (.v 5)))])]))
def Hf8 : T := (.yld 1 [.bin .add (.v 5) (.c (.i .i64 1)), .v 6])
def Hz8 : T := (.ite (.ite (.ite (.bin .eql (.proj 1 (.sub 0 16 (.idx 16 (.v 4) (.v 5)))) (.c (.i .i64 1))) (.c (.b true)) (.bin .eql (.proj 1 (.sub 0 16 (.idx 16 (.v 4) (.v 5)))) (.c (.i .i64 28)))) (.ite (.v 7) (.c (.b true)) (.v 8)) (.c (.b false))) Hn8 Hf8)
def Hw8 : T := (.w (.chk (.ite (.ite (.ite (.bin .eql (.proj 1 (.sub 0 16 (.idx 16 (.v 4) (.v 5)))) (.c (.i .i64 1))) (.c (.b true)) (.bin .eql (.proj 1 (.sub 0 16 (.idx 16 (.v 4) (.v 5)))) (.c (.i .i64 28)))) (.un .not (.v 7)) (.c (.b false))) (.c .u) (.c .u))) (.w (.call (some (.ite (.ite (.bin .eql (.proj 1 (.sub 0 16 (.idx 16 (.v 4) (.v 5)))) (.c (.i .i64 1))) (.c (.b true)) (.bin .eql (.proj 1 (.sub 0 16 (.idx 16 (.v 4) (.v 5)))) (.c (.i .i64 28)))) (.un .not (.v 7)) (.c (.b false)))) true Bl9 [.v 3, .proj 0 (.sub 0 16 (.idx 16 (.v 4) (.v 5)))] 1) Hz8))
def Hq1 : T := (.w (.chk (.fit 16 (.sub 0 16 (.idx 16 (.v 4) (.v 5))))) (.w (.call (some (.ite (.bin .eql (.proj 1 (.sub 0 16 (.idx 16 (.v 4) (.v 5)))) (.c (.i .i64 1))) (.c (.b true)) (.bin .eql (.proj 1 (.sub 0 16 (.idx 16 (.v 4) (.v 5)))) (.c (.i .i64 28))))) true Bl9 [.v 2, .proj 0 (.sub 0 16 (.idx 16 (.v 4) (.v 5)))] 1) Hw8))
def Iq6 : T := (.ite (.bin .lss (.v 5) (.len (.v 4))) Hq1 (.yld 0 [.v 6]))
def Is6 : T := .loop 1 [.c (.i .i64 0), .c (.l 16 [])] Iq6
def Gt5 : T := (.ret [.agg [.proj 0 (.v 0), .proj 1 (.v 0), .proj 2 (.v 0), .proj 3 (.v 0), .proj 4 (.v 0), .proj 5 (.v 0), .proj 6 (.v 0), .proj 7 (.v 0), .proj 8 (.v 0), .proj 9 (.v 0), .proj 10 (.v 0), .proj 11 (.v 0), .proj 12 (.v 0), .proj 13 (.v 0), .v 2, .v 3, .v 5]])
def Gr1 : T := (.blk 0 Is6 Gt5)
def Gn2 : T := (.w (.chk (.scal (.v 3))) (.w (.call none false Bw2 [.proj 16 (.v 0), .v 1] 1) Gr1))
def Gl9 : T := (.w (.chk (.scal (.v 2))) (.w (.call none false Bw2 [.proj 15 (.v 0), .v 1] 1) Gn2))
def Em9 : T := (.w (.chk (.fit 17 (.v 0))) (.w (.call none false Bw2 [.proj 14 (.v 0), .v 1] 1) Gl9))
theorem Iy3 : type_of% (And.intro (tev_eq @Hn8.eq_1) (And.intro (tev_eq @Hf8.eq_1) (And.intro (tev_eq @Hz8.eq_1) (And.intro (tev_eq @Hw8.eq_1) (And.intro (tev_eq @Hq1.eq_1) (And.intro (tev_eq @Iq6.eq_1) (And.intro (tev_eq @Gt5.eq_1) (And.intro (tev_eq @Gr1.eq_1) (And.intro (tev_eq @Gn2.eq_1) (And.intro (tev_eq @Gl9.eq_1) (tev_eq @Em9.eq_1))))))))))) := (And.intro (tev_eq @Hn8.eq_1) (And.intro (tev_eq @Hf8.eq_1) (And.intro (tev_eq @Hz8.eq_1) (And.intro (tev_eq @Hw8.eq_1) (And.intro (tev_eq @Hq1.eq_1) (And.intro (tev_eq @Iq6.eq_1) (And.intro (tev_eq @Gt5.eq_1) (And.intro (tev_eq @Gr1.eq_1) (And.intro (tev_eq @Gn2.eq_1) (And.intro (tev_eq @Gl9.eq_1) (tev_eq @Em9.eq_1)))))))))))
def Ex5 : T := (.w (.chk (.fit 3 (.sub 0 3 (.idx 3 (.v 1) (.v 4))))) (.yld 1 [.app 3 (.v 3) (.lit 3 [.sub 0 3 (.idx 3 (.v 1) (.v 4))]), .bin .add (.v 4) (.c (.i .i64 1))]))
def Dn3 : T := (.yld 1 [.v 3, .bin .add (.v 4) (.c (.i .i64 1))])
def Dg0 : T := (.ite (.ite (.un .not (.v 5)) (.un .not (.v 6)) (.c (.b false))) Ex5 Dn3)
def Dc0 : T := (.w (.chk (.ite (.un .not (.v 5)) (.sub 0 3 (.idx 3 (.v 1) (.v 4))) (.c .u))) (.w (.chk (.ite (.un .not (.v 5)) (.c .u) (.c .u))) (.w (.call (some (.un .not (.v 5))) true Cj5 [.v 2, .sub 0 3 (.idx 3 (.v 1) (.v 4))] 1) Dg0)))
def Dy9 : T := (.w (.call none true Cj5 [.v 3, .sub 0 3 (.idx 3 (.v 1) (.v 4))] 1) Dc0)
def Eb9 : T := (.ite (.ite (.bin .lss (.v 4) (.len (.v 1))) (.bin .lss (.len (.v 3)) (.c (.i .i64 16))) (.c (.b false))) Dy9 (.yld 0 [.v 3]))
def Gd7 : T := .loop 1 [.app 3 (.c (.l 3 [])) (.v 0), .c (.i .i64 0)] Eb9
def Bh0 : T := (.blk 0 Gd7 (.ret [.v 3]))
theorem Bz4 : type_of% (And.intro (tev_eq @Ex5.eq_1) (And.intro (tev_eq @Dn3.eq_1) (And.intro (tev_eq @Dg0.eq_1) (And.intro (tev_eq @Dc0.eq_1) (And.intro (tev_eq @Dy9.eq_1) (And.intro (tev_eq @Eb9.eq_1) (tev_eq @Bh0.eq_1))))))) := (And.intro (tev_eq @Ex5.eq_1) (And.intro (tev_eq @Dn3.eq_1) (And.intro (tev_eq @Dg0.eq_1) (And.intro (tev_eq @Dc0.eq_1) (And.intro (tev_eq @Dy9.eq_1) (And.intro (tev_eq @Eb9.eq_1) (tev_eq @Bh0.eq_1)))))))
def Bg9 : T := (.w (.call none true Cf0 [.v 0, .v 1] 1) (.ret [.v 2]))
theorem Kq3 : type_of% (tev_eq @Bg9.eq_1) := (tev_eq @Bg9.eq_1)
def Bg8 : T := (.w (.call none false Cd9 [.v 0, .v 1, .c (.i .i64 0), .c (.i .i64 (-1))] 1) (.ret [.v 2]))
theorem Kq2 : type_of% (tev_eq @Bg8.eq_1) := (tev_eq @Bg8.eq_1)
def Ex4 : T := (.yld 1 [.bin .add (.v 1) (.c (.i .i64 1))])
def Dn2 : T := (.w (.chk (.ite (.ite (.ite (.bin .lss (.sidx (.v 0) (.v 1)) (.c (.i .u8 97))) (.c (.b true)) (.bin .gtr (.sidx (.v 0) (.v 1)) (.c (.i .u8 122)))) (.un .not (.bin .lss (.sidx (.v 0) (.v 1)) (.c (.i .u8 48)))) (.c (.b false))) (.bin .gtr (.sidx (.v 0) (.v 1)) (.c (.i .u8 57))) (.c .u))) (.ite (.ite (.ite (.ite (.ite (.bin .lss (.sidx (.v 0) (.v 1)) (.c (.i .u8 97))) (.c (.b true)) (.bin .gtr (.sidx (.v 0) (.v 1)) (.c (.i .u8 122)))) (.ite (.bin .lss (.sidx (.v 0) (.v 1)) (.c (.i .u8 48))) (.c (.b true)) (.bin .gtr (.sidx (.v 0) (.v 1)) (.c (.i .u8 57)))) (.c (.b false))) (.bin .neq (.sidx (.v 0) (.v 1)) (.c (.i .u8 45))) (.c (.b false))) (.bin .neq (.sidx (.v 0) (.v 1)) (.c (.i .u8 95))) (.c (.b false))) (.ret [.c (.b false)]) Ex4))
def Cv5 : T := (.ite (.bin .lss (.v 1) (.slen (.v 0))) Dn2 (.yld 0 []))
def Gd6 : T := .loop 1 [.c (.i .i64 0)] Cv5
def Df9 : T := (.w (.chk (.slen (.v 0))) (.blk 0 Gd6 (.ret [.c (.b true)])))
def Bg7 : T := (.ite (.ite (.bin .eql (.v 0) (.c (.s []))) (.c (.b true)) (.bin .gtr (.slen (.v 0)) (.c (.i .i64 63)))) (.ret [.c (.b false)]) Df9)
theorem Cx9 : type_of% (And.intro (tev_eq @Ex4.eq_1) (And.intro (tev_eq @Dn2.eq_1) (And.intro (tev_eq @Cv5.eq_1) (And.intro (tev_eq @Df9.eq_1) (tev_eq @Bg7.eq_1))))) := (And.intro (tev_eq @Ex4.eq_1) (And.intro (tev_eq @Dn2.eq_1) (And.intro (tev_eq @Cv5.eq_1) (And.intro (tev_eq @Df9.eq_1) (tev_eq @Bg7.eq_1)))))
def Ex3 : T := (.yld 1 [.bin .add (.v 2) (.c (.i .i64 1))])
def Dn1 : T := (.ite (.v 3) (.ret [.v 2]) Ex3)
def Df8 : T := (.w (.clo none true (.v 1) [.sub 0 16 (.idx 16 (.v 0) (.v 2))] 1) Dn1)
def Eb8 : T := (.ite (.bin .lss (.v 2) (.len (.v 0))) Df8 (.yld 0 []))
def Gd5 : T := .loop 1 [.c (.i .i64 0)] Eb8
def Bg6 : T := (.w (.chk (.len (.v 0))) (.blk 0 Gd5 (.ret [.c (.i .i64 (-1))])))
theorem Cx8 : type_of% (And.intro (tev_eq @Ex3.eq_1) (And.intro (tev_eq @Dn1.eq_1) (And.intro (tev_eq @Df8.eq_1) (And.intro (tev_eq @Eb8.eq_1) (tev_eq @Bg6.eq_1))))) := (And.intro (tev_eq @Ex3.eq_1) (And.intro (tev_eq @Dn1.eq_1) (And.intro (tev_eq @Df8.eq_1) (And.intro (tev_eq @Eb8.eq_1) (tev_eq @Bg6.eq_1)))))
def Ex2 : T := (.w (.chk (.fit 16 (.sub 0 16 (.sub 0 16 (.idx 16 (.v 0) (.v 4)))))) (.yld 1 [.app 16 (.v 3) (.lit 16 [.sub 0 16 (.sub 0 16 (.idx 16 (.v 0) (.v 4)))]), .bin .add (.v 4) (.c (.i .i64 1))]))
def Dn0 : T := (.yld 1 [.v 3, .bin .add (.v 4) (.c (.i .i64 1))])
def Df7 : T := (.w (.chk (.fit 16 (.sub 0 16 (.idx 16 (.v 0) (.v 4))))) (.ite (.ite (.bin .eql (.proj 1 (.sub 0 16 (.idx 16 (.v 0) (.v 4)))) (.v 2)) (.bin .eql (.proj 0 (.sub 0 16 (.idx 16 (.v 0) (.v 4)))) (.v 1)) (.c (.b false))) Ex2 Dn0))
def Eb7 : T := (.ite (.bin .lss (.v 4) (.len (.v 0))) Df7 (.yld 0 [.v 3]))
def Gd4 : T := .loop 1 [.c (.l 16 []), .c (.i .i64 0)] Eb7
def Bg5 : T := (.w (.chk (.len (.v 0))) (.blk 0 Gd4 (.ret [.v 3])))
theorem Cx7 : type_of% (And.intro (tev_eq @Ex2.eq_1) (And.intro (tev_eq @Dn0.eq_1) (And.intro (tev_eq @Df7.eq_1) (And.intro (tev_eq @Eb7.eq_1) (tev_eq @Bg5.eq_1))))) := (And.intro (tev_eq @Ex2.eq_1) (And.intro (tev_eq @Dn0.eq_1) (And.intro (tev_eq @Df7.eq_1) (And.intro (tev_eq @Eb7.eq_1) (tev_eq @Bg5.eq_1)))))
def Ex1 : T := (.yld 1 [.bin .add (.v 2) (.c (.i .i64 1))])
def Dm9 : T := (.ite (.eqs false true [.b, .i .u64, .i .u64] (.sub 0 3 (.v 1)) (.sub 0 3 (.idx 3 (.v 0) (.v 2)))) (.ret [.v 2]) Ex1)
def Eb6 : T := (.ite (.bin .lss (.v 2) (.len (.v 0))) Dm9 (.yld 0 []))
def Gd3 : T := .loop 1 [.c (.i .i64 0)] Eb6
def Bg4 : T := (.w (.chk (.fit 3 (.v 1))) (.w (.chk (.len (.v 0))) (.blk 0 Gd3 (.ret [.c (.i .i64 (-1))]))))
theorem Cx6 : type_of% (And.intro (tev_eq @Ex1.eq_1) (And.intro (tev_eq @Dm9.eq_1) (And.intro (tev_eq @Eb6.eq_1) (tev_eq @Bg4.eq_1)))) := (And.intro (tev_eq @Ex1.eq_1) (And.intro (tev_eq @Dm9.eq_1) (And.intro (tev_eq @Eb6.eq_1) (tev_eq @Bg4.eq_1))))
def Ex0 : T := (.ret [.ite (.bin .neq (.v 0) (.v 1)) (.v 2) (.c (.b false))])
def Bg3 : T := (.w (.call (some (.bin .neq (.v 0) (.v 1))) true Ap0 [.v 0, .v 1] 1) Ex0)
theorem Ip9 : type_of% (And.intro (tev_eq @Ex0.eq_1) (tev_eq @Bg3.eq_1)) := (And.intro (tev_eq @Ex0.eq_1) (tev_eq @Bg3.eq_1))
def Ew9 : T := (.w (.call none false Bm8 [.ssl (.v 0) (.c (.i .i64 0)) (.bin .sub (.slen (.v 0)) (.c (.i .i64 1))), .c (.s [46])] 1) (.ret [.v 2]))
def Dm8 : T := (.ite (.ite (.bin .eql (.v 0) (.c (.s [46]))) (.c (.b true)) (.un .not (.v 1))) (.ret [.c (.l 1 [])]) Ew9)
def Bg2 : T := (.w (.call (some (.un .not (.bin .eql (.v 0) (.c (.s [46]))))) true Cc6 [.v 0] 1) Dm8)
theorem Fg1 : type_of% (And.intro (tev_eq @Ew9.eq_1) (And.intro (tev_eq @Dm8.eq_1) (tev_eq @Bg2.eq_1))) := (And.intro (tev_eq @Ew9.eq_1) (And.intro (tev_eq @Dm8.eq_1) (tev_eq @Bg2.eq_1)))
def Ew8 : T := (.ret [.c (.s [46]), .c (.i .i64 0)])
def Dm7 : T := (.ret [.c (.s []), .c (.i .i64 2)])
def Df6 : T := (.ret [.c (.s []), .c (.i .i64 2)])
def Db9 : T := (.w (.chk (.b2s (.lit 1 [.c (.i .u8 46)]))) (.yld 1 [.bin .add (.v 1) (.c (.i .i64 1)), .app 1 (.app 1 (.v 2) (.s2b (.proj 0 (.idx 1 (.v 0) (.v 1))))) (.lit 1 [.c (.i .u8 46)])]))
def Dy8 : T := (.ite (.ite (.un .not (.v 3)) (.bin .neq (.proj 0 (.idx 1 (.v 0) (.v 1))) (.c (.s [42]))) (.c (.b false))) Df6 Db9)
def Dx4 : T := (.w (.call none true Bm7 [.proj 0 (.idx 1 (.v 0) (.v 1))] 1) Dy8)
def Eb5 : T := (.ite (.bin .lss (.v 1) (.len (.v 0))) Dx4 (.yld 0 [.v 2]))
def Gd2 : T := .loop 1 [.c (.i .i64 0), .c (.l 1 [])] Eb5
def Dw1 : T := (.ret [.b2s (.v 1), .c (.i .i64 0)])
def Dv2 : T := (.ret [.c (.s []), .c (.i .i64 2)])
def Dq6 : T := (.ite (.v 2) Dw1 Dv2)
def Dq0 : T := (.w (.chk (.sidx (.b2s (.v 1)) (.c (.i .i64 0)))) (.w (.call none true Cc6 [.b2s (.v 1)] 1) Dq6))
def Cv2 : T := (.w (.chk (.len (.v 0))) (.blk 0 Gd2 Dq0))
def Cq8 : T := (.ite (.bin .gtr (.len (.v 0)) (.c (.i .i64 255))) Dm7 Cv2)
def Bg1 : T := (.ite (.bin .eql (.len (.v 0)) (.c (.i .i64 0))) Ew8 Cq8)
theorem Ed4 : type_of% (And.intro (tev_eq @Ew8.eq_1) (And.intro (tev_eq @Dm7.eq_1) (And.intro (tev_eq @Df6.eq_1) (And.intro (tev_eq @Db9.eq_1) (And.intro (tev_eq @Dy8.eq_1) (And.intro (tev_eq @Dx4.eq_1) (And.intro (tev_eq @Eb5.eq_1) (And.intro (tev_eq @Dw1.eq_1) (And.intro (tev_eq @Dv2.eq_1) (And.intro (tev_eq @Dq6.eq_1) (And.intro (tev_eq @Dq0.eq_1) (And.intro (tev_eq @Cv2.eq_1) (And.intro (tev_eq @Cq8.eq_1) (tev_eq @Bg1.eq_1)))))))))))))) := (And.intro (tev_eq @Ew8.eq_1) (And.intro (tev_eq @Dm7.eq_1) (And.intro (tev_eq @Df6.eq_1) (And.intro (tev_eq @Db9.eq_1) (And.intro (tev_eq @Dy8.eq_1) (And.intro (tev_eq @Dx4.eq_1) (And.intro (tev_eq @Eb5.eq_1) (And.intro (tev_eq @Dw1.eq_1) (And.intro (tev_eq @Dv2.eq_1) (And.intro (tev_eq @Dq6.eq_1) (And.intro (tev_eq @Dq0.eq_1) (And.intro (tev_eq @Cv2.eq_1) (And.intro (tev_eq @Cq8.eq_1) (tev_eq @Bg1.eq_1))))))))))))))
def Ew7 : T := (.ite (.ite (.v 7) (.bin .eql (.proj 2 (.v 0)) (.c (.i .i64 0))) (.c (.b false))) (.ret [.c (.i .i64 3)]) (.ret [.c (.i .i64 0)]))
def Dm6 : T := (.ite (.v 5) (.ret [.c (.i .i64 4)]) Ew7)
def Df5 : T := (.ite (.ite (.v 5) (.bin .eql (.proj 2 (.v 0)) (.c (.i .i64 3))) (.c (.b false))) (.ret [.c (.i .i64 5)]) Dm6)
def Db8 : T := (.ite (.bin .gtr (.len (.v 2)) (.c (.i .i64 0))) (.ret [.c (.i .i64 2)]) Df5)
def Dy7 : T := (.ite (.v 8) (.ret [.c (.i .i64 1)]) Db8)
def Dx3 : T := (.w (.chk (.scal (.v 3))) (.w (.chk (.scal (.proj 13 (.v 0)))) (.w (.call none true Bl6 [.proj 14 (.v 0), .agg [.v 3, .proj 13 (.v 0)]] 1) Dy7)))
def Dw0 : T := (.w (.chk (.fit 16 (.v 4))) (.w (.call none true Bl7 [.sub 0 17 (.v 0), .v 1] 2) Dx3))
def Dv1 : T := (.w (.call none true Bl8 [.sub 0 17 (.v 0), .c (.i .i64 6), .c (.s [])] 2) Dw0)
def Dq5 : T := (.w (.call none false Cd8 [.sub 0 17 (.v 0)] 2) Dv1)
def Bg0 : T := (.w (.chk (.fit 17 (.v 0))) (.w (.chk (.ite (.ite (.un .not (.ite (.un .not (.proj 3 (.v 0))) (.c (.b true)) (.bin .neq (.proj 1 (.v 0)) (.c (.i .i64 0))))) (.bin .neq (.proj 2 (.v 0)) (.c (.i .i64 0))) (.c (.b false))) (.bin .neq (.proj 2 (.v 0)) (.c (.i .i64 3))) (.c .u))) (.ite (.ite (.ite (.ite (.un .not (.proj 3 (.v 0))) (.c (.b true)) (.bin .neq (.proj 1 (.v 0)) (.c (.i .i64 0)))) (.c (.b true)) (.ite (.bin .neq (.proj 2 (.v 0)) (.c (.i .i64 0))) (.bin .neq (.proj 2 (.v 0)) (.c (.i .i64 3))) (.c (.b false)))) (.c (.b true)) (.proj 5 (.v 0))) (.ret [.c (.i .i64 0)]) Dq5)))
theorem An2 : type_of% (And.intro (tev_eq @Ew7.eq_1) (And.intro (tev_eq @Dm6.eq_1) (And.intro (tev_eq @Df5.eq_1) (And.intro (tev_eq @Db8.eq_1) (And.intro (tev_eq @Dy7.eq_1) (And.intro (tev_eq @Dx3.eq_1) (And.intro (tev_eq @Dw0.eq_1) (And.intro (tev_eq @Dv1.eq_1) (And.intro (tev_eq @Dq5.eq_1) (tev_eq @Bg0.eq_1)))))))))) := (And.intro (tev_eq @Ew7.eq_1) (And.intro (tev_eq @Dm6.eq_1) (And.intro (tev_eq @Df5.eq_1) (And.intro (tev_eq @Db8.eq_1) (And.intro (tev_eq @Dy7.eq_1) (And.intro (tev_eq @Dx3.eq_1) (And.intro (tev_eq @Dw0.eq_1) (And.intro (tev_eq @Dv1.eq_1) (And.intro (tev_eq @Dq5.eq_1) (tev_eq @Bg0.eq_1))))))))))
def Ew6 : T := (.ret [.c (.s []), .c (.l 1 []), .c (.b false)])
def Dm5 : T := (.w (.chk (.scal (.proj 6 (.sub 0 16 (.idx 16 (.v 6) (.v 8)))))) (.yld 1 [.app 1 (.v 7) (.lit 1 [.proj 6 (.sub 0 16 (.idx 16 (.v 6) (.v 8)))]), .bin .add (.v 8) (.c (.i .i64 1))]))
def Df4 : T := (.yld 1 [.v 7, .bin .add (.v 8) (.c (.i .i64 1))])
def Db7 : T := (.ite (.un .not (.v 9)) Dm5 Df4)
def Dy6 : T := (.w (.chk (.fit 16 (.sub 0 16 (.idx 16 (.v 6) (.v 8))))) (.w (.call none true Fz0 [.v 7, .proj 6 (.sub 0 16 (.idx 16 (.v 6) (.v 8)))] 1) Db7))
def Eb4 : T := (.ite (.bin .lss (.v 8) (.len (.v 6))) Dy6 (.yld 0 [.v 7]))
def Gd1 : T := .loop 1 [.c (.l 1 []), .c (.i .i64 0)] Eb4
def Dx2 : T := (.ret [.v 4, .v 7, .c (.b true)])
def Dv9 : T := (.w (.chk (.len (.v 6))) (.blk 0 Gd1 Dx2))
def Dv0 : T := (.w (.call none false At7 [.proj 15 (.v 2), .v 4, .c (.i .i64 2)] 1) Dv9)
def Dq4 : T := (.w (.call none true Bl7 [.sub 0 17 (.v 2), .v 1] 2) Dv0)
def Dk9 : T := (.ite (.bin .neq (.v 3) (.c (.i .i64 3))) Ew6 Dq4)
def Cv1 : T := (.w (.chk (.fit 17 (.v 2))) (.w (.call none true Bm5 [.sub 0 17 (.v 2), .v 1] 1) Dk9))
def Bf9 : T := (.w (.chk (.fit 17 (.v 0))) (.w (.call none false Cj6 [.sub 0 17 (.v 0), .v 1] 1) Cv1))
theorem Cx5 : type_of% (And.intro (tev_eq @Ew6.eq_1) (And.intro (tev_eq @Dm5.eq_1) (And.intro (tev_eq @Df4.eq_1) (And.intro (tev_eq @Db7.eq_1) (And.intro (tev_eq @Dy6.eq_1) (And.intro (tev_eq @Eb4.eq_1) (And.intro (tev_eq @Dx2.eq_1) (And.intro (tev_eq @Dv9.eq_1) (And.intro (tev_eq @Dv0.eq_1) (And.intro (tev_eq @Dq4.eq_1) (And.intro (tev_eq @Dk9.eq_1) (And.intro (tev_eq @Cv1.eq_1) (tev_eq @Bf9.eq_1))))))))))))) := (And.intro (tev_eq @Ew6.eq_1) (And.intro (tev_eq @Dm5.eq_1) (And.intro (tev_eq @Df4.eq_1) (And.intro (tev_eq @Db7.eq_1) (And.intro (tev_eq @Dy6.eq_1) (And.intro (tev_eq @Eb4.eq_1) (And.intro (tev_eq @Dx2.eq_1) (And.intro (tev_eq @Dv9.eq_1) (And.intro (tev_eq @Dv0.eq_1) (And.intro (tev_eq @Dq4.eq_1) (And.intro (tev_eq @Dk9.eq_1) (And.intro (tev_eq @Cv1.eq_1) (tev_eq @Bf9.eq_1)))))))))))))
def Ew5 : T := (.w (.chk (.fit 16 (.sub 0 16 (.idx 16 (.v 5) (.v 7))))) (.yld 3 [.app 3 (.v 6) (.lit 3 [.agg [.proj 3 (.sub 0 16 (.idx 16 (.v 5) (.v 7))), .proj 4 (.sub 0 16 (.idx 16 (.v 5) (.v 7))), .proj 5 (.sub 0 16 (.idx 16 (.v 5) (.v 7)))]]), .bin .add (.v 7) (.c (.i .i64 1))]))
def Ey2 : T := (.ite (.bin .lss (.v 7) (.len (.v 5))) Ew5 (.yld 2 [.v 6]))
def Gb0 : T := .loop 3 [.v 3, .c (.i .i64 0)] Ey2
def Dm4 : T := (.yld 1 [.v 6, .bin .add (.v 4) (.c (.i .i64 1))])
def Df3 : T := (.w (.chk (.len (.v 5))) (.blk 2 Gb0 Dm4))
def Db6 : T := (.w (.call none false At7 [.proj 16 (.v 0), .v 1, .proj 0 (.idx 1 (.lit 1 [.c (.i .i64 1), .c (.i .i64 28)]) (.v 4))] 1) Df3)
def Eb3 : T := (.ite (.bin .lss (.v 4) (.len (.lit 1 [.c (.i .i64 1), .c (.i .i64 28)]))) Db6 (.yld 0 [.v 3]))
def Gd0 : T := .loop 1 [.c (.l 3 []), .c (.i .i64 0)] Eb3
def Dy5 : T := (.w (.chk (.scal (.c (.i .i64 1)))) (.w (.chk (.scal (.c (.i .i64 28)))) (.w (.chk (.len (.lit 1 [.c (.i .i64 1), .c (.i .i64 28)]))) (.blk 0 Gd0 (.ret [.v 3])))))
def Dx1 : T := (.ite (.un .not (.v 2)) (.ret [.c (.l 3 [])]) Dy5)
def Bf8 : T := (.w (.chk (.fit 17 (.v 0))) (.w (.chk (.scal (.v 1))) (.w (.call none true Cc5 [.proj 15 (.v 0), .clo Bl5 [.v 1, .agg [.proj 0 (.v 0), .proj 1 (.v 0), .proj 2 (.v 0), .proj 3 (.v 0), .proj 4 (.v 0), .proj 5 (.v 0), .proj 6 (.v 0), .proj 7 (.v 0), .proj 8 (.v 0), .proj 9 (.v 0), .proj 10 (.v 0), .proj 11 (.v 0), .proj 12 (.v 0), .proj 13 (.v 0), .proj 14 (.v 0), .proj 15 (.v 0), .proj 16 (.v 0)]]] 1) Dx1)))
theorem Bz3 : type_of% (And.intro (tev_eq @Ew5.eq_1) (And.intro (tev_eq @Ey2.eq_1) (And.intro (tev_eq @Dm4.eq_1) (And.intro (tev_eq @Df3.eq_1) (And.intro (tev_eq @Db6.eq_1) (And.intro (tev_eq @Eb3.eq_1) (And.intro (tev_eq @Dy5.eq_1) (And.intro (tev_eq @Dx1.eq_1) (tev_eq @Bf8.eq_1))))))))) := (And.intro (tev_eq @Ew5.eq_1) (And.intro (tev_eq @Ey2.eq_1) (And.intro (tev_eq @Dm4.eq_1) (And.intro (tev_eq @Df3.eq_1) (And.intro (tev_eq @Db6.eq_1) (And.intro (tev_eq @Eb3.eq_1) (And.intro (tev_eq @Dy5.eq_1) (And.intro (tev_eq @Dx1.eq_1) (tev_eq @Bf8.eq_1)))))))))
def Bf7 : T := (.w (.call none true Cc5 [.proj 14 (.v 0), .clo Bm4 [.v 1]] 1) (.ret [.v 2]))
theorem Kq1 : type_of% (tev_eq @Bf7.eq_1) := (tev_eq @Bf7.eq_1)
def Bf6 : T := (.w (.chk (.fit 16 (.v 0))) (.w (.chk (.ite (.ite (.bin .eql (.proj 0 (.v 0)) (.proj 2 (.v 1))) (.un .not (.bin .eql (.proj 1 (.v 0)) (.proj 1 (.v 1)))) (.c (.b false))) (.bin .eql (.proj 1 (.v 1)) (.c (.i .i64 255))) (.c .u))) (.ret [.ite (.bin .eql (.proj 0 (.v 0)) (.proj 2 (.v 1))) (.ite (.bin .eql (.proj 1 (.v 0)) (.proj 1 (.v 1))) (.c (.b true)) (.bin .eql (.proj 1 (.v 1)) (.c (.i .i64 255)))) (.c (.b false))])))
theorem Kq0 : type_of% (tev_eq @Bf6.eq_1) := (tev_eq @Bf6.eq_1)
def Bf5 : T := (.w (.chk (.fit 16 (.v 0))) (.ret [.bin .eql (.proj 0 (.v 0)) (.proj 2 (.v 1))]))
theorem Kk9 : type_of% (tev_eq @Bf5.eq_1) := (tev_eq @Bf5.eq_1)
def Bf4 : T := (.w (.chk (.fit 16 (.v 0))) (.w (.call none true Ap0 [.proj 0 (.v 0), .proj 0 (.v 1)] 1) (.ret [.v 2])))
theorem Kk8 : type_of% (tev_eq @Bf4.eq_1) := (tev_eq @Bf4.eq_1)
def Ew4 : T := (.w (.chk (.fit 16 (.sub 0 16 (.sub 0 16 (.idx 16 (.v 0) (.v 3)))))) (.yld 1 [.app 16 (.v 2) (.lit 16 [.sub 0 16 (.sub 0 16 (.idx 16 (.v 0) (.v 3)))]), .bin .add (.v 3) (.c (.i .i64 1))]))
def Dm3 : T := (.yld 1 [.v 2, .bin .add (.v 3) (.c (.i .i64 1))])
def Df2 : T := (.ite (.v 4) Ew4 Dm3)
def Db5 : T := (.w (.chk (.fit 16 (.sub 0 16 (.idx 16 (.v 0) (.v 3))))) (.w (.clo none true (.v 1) [.sub 0 16 (.sub 0 16 (.idx 16 (.v 0) (.v 3)))] 1) Df2))
def Eb2 : T := (.ite (.bin .lss (.v 3) (.len (.v 0))) Db5 (.yld 0 [.v 2]))
def Gc9 : T := .loop 1 [.c (.l 16 []), .c (.i .i64 0)] Eb2
def Bf3 : T := (.w (.chk (.len (.v 0))) (.blk 0 Gc9 (.ret [.v 2])))
theorem Ed3 : type_of% (And.intro (tev_eq @Ew4.eq_1) (And.intro (tev_eq @Dm3.eq_1) (And.intro (tev_eq @Df2.eq_1) (And.intro (tev_eq @Db5.eq_1) (And.intro (tev_eq @Eb2.eq_1) (tev_eq @Bf3.eq_1)))))) := (And.intro (tev_eq @Ew4.eq_1) (And.intro (tev_eq @Dm3.eq_1) (And.intro (tev_eq @Df2.eq_1) (And.intro (tev_eq @Db5.eq_1) (And.intro (tev_eq @Eb2.eq_1) (tev_eq @Bf3.eq_1))))))
def Ew3 : T := (.w (.chk (.ite (.v 3) (.slen (.proj 0 (.v 0))) (.c .u))) (.w (.chk (.ite (.ite (.ite (.v 3) (.mget (.proj 0 (.v 2)) (.proj 0 (.v 0)) (.c (.b false))) (.c (.b false))) (.un .not (.bin .eql (.proj 1 (.v 0)) (.c (.i .i64 1)))) (.c (.b false))) (.bin .eql (.proj 1 (.v 0)) (.c (.i .i64 28))) (.c .u))) (.ret [.ite (.ite (.v 3) (.mget (.proj 0 (.v 2)) (.proj 0 (.v 0)) (.c (.b false))) (.c (.b false))) (.ite (.bin .eql (.proj 1 (.v 0)) (.c (.i .i64 1))) (.c (.b true)) (.bin .eql (.proj 1 (.v 0)) (.c (.i .i64 28)))) (.c (.b false))])))
def Bf2 : T := (.w (.chk (.fit 16 (.v 0))) (.w (.clo none true (.proj 0 (.v 1)) [.sub 0 16 (.v 0)] 1) Ew3))
theorem Kk7 : type_of% (And.intro (tev_eq @Ew3.eq_1) (tev_eq @Bf2.eq_1)) := (And.intro (tev_eq @Ew3.eq_1) (tev_eq @Bf2.eq_1))
def Ed7 : T := (.w (.chk (.scal (.c (.i .i64 1)))) (.w (.chk (.scal (.c (.s [65])))) (.w (.chk (.scal (.c (.s [52])))) (.w (.chk (.scal (.c (.i .i64 2)))) (.w (.chk (.scal (.c (.s [78, 83])))) (.w (.chk (.scal (.c (.i .i64 5)))) (.w (.chk (.scal (.c (.s [67, 78, 65, 77, 69])))) (.w (.chk (.scal (.c (.i .i64 6)))) (.w (.chk (.scal (.c (.s [83, 79, 65])))) (.w (.chk (.scal (.c (.s [104, 109, 118, 119, 120, 121, 122])))) (.w (.chk (.scal (.c (.i .i64 12)))) (.w (.chk (.scal (.c (.s [80, 84, 82])))) (.w (.chk (.scal (.c (.i .i64 15)))) (.w (.chk (.scal (.c (.s [77, 88])))) (.w (.chk (.scal (.c (.s [65, 104])))) (.w (.chk (.scal (.c (.i .i64 16)))) (.w (.chk (.scal (.c (.s [84, 88, 84])))) (.w (.chk (.scal (.c (.s [116])))) (.w (.chk (.scal (.c (.i .i64 28)))) (.w (.chk (.scal (.c (.s [65, 65, 65, 65])))) (.w (.chk (.scal (.c (.s [54])))) (.w (.chk (.scal (.c (.i .i64 33)))) (.w (.chk (.scal (.c (.s [83, 82, 86])))) (.w (.chk (.scal (.c (.s [65, 66, 67, 104])))) (.w (.chk (.scal (.c (.i .i64 39)))) (.w (.chk (.scal (.c (.s [68, 78, 65, 77, 69])))) (.w (.chk (.scal (.c (.s [104])))) (.w (.chk (.scal (.c (.i .i64 43)))) (.w (.chk (.scal (.c (.s [68, 83])))) (.w (.chk (.scal (.c (.i .i64 46)))) (.w (.chk (.scal (.c (.s [82, 82, 83, 73, 71])))) (.w (.chk (.scal (.c (.s [65, 115, 98, 120, 121, 122, 70, 104, 114])))) (.w (.chk (.scal (.c (.i .i64 47)))) (.w (.chk (.scal (.c (.s [78, 83, 69, 67])))) (.w (.chk (.scal (.c (.s [104, 110])))) (.w (.chk (.scal (.c (.i .i64 48)))) (.w (.chk (.scal (.c (.s [68, 78, 83, 75, 69, 89])))) (.w (.chk (.scal (.c (.s [65, 98, 99, 114])))) (.ret [.lit 3 [.agg [.c (.i .i64 1), .c (.s [65]), .c (.s [52])], .agg [.c (.i .i64 2), .c (.s [78, 83]), .c (.s [104])], .agg [.c (.i .i64 5), .c (.s [67, 78, 65, 77, 69]), .c (.s [104])], .agg [.c (.i .i64 6), .c (.s [83, 79, 65]), .c (.s [104, 109, 118, 119, 120, 121, 122])], .agg [.c (.i .i64 12), .c (.s [80, 84, 82]), .c (.s [104])], .agg [.c (.i .i64 15), .c (.s [77, 88]), .c (.s [65, 104])], .agg [.c (.i .i64 16), .c (.s [84, 88, 84]), .c (.s [116])], .agg [.c (.i .i64 28), .c (.s [65, 65, 65, 65]), .c (.s [54])], .agg [.c (.i .i64 33), .c (.s [83, 82, 86]), .c (.s [65, 66, 67, 104])], .agg [.c (.i .i64 39), .c (.s [68, 78, 65, 77, 69]), .c (.s [104])], .agg [.c (.i .i64 43), .c (.s [68, 83]), .c (.s [65, 98, 99, 114])], .agg [.c (.i .i64 46), .c (.s [82, 82, 83, 73, 71]), .c (.s [65, 115, 98, 120, 121, 122, 70, 104, 114])], .agg [.c (.i .i64 47), .c (.s [78, 83, 69, 67]), .c (.s [104, 110])], .agg [.c (.i .i64 48), .c (.s [68, 78, 83, 75, 69, 89]), .c (.s [65, 98, 99, 114])]]])))))))))))))))))))))))))))))))))))))))
def Ew2 : T := (.yld 1 [.bin .add (.v 2) (.c (.i .i64 1))])
def Dm2 : T := (.ite (.v 3) (.ret [.v 2]) Ew2)
def Df1 : T := (.w (.clo none true (.v 1) [.sub 0 3 (.idx 3 (.v 0) (.v 2))] 1) Dm2)
def Eb1 : T := (.ite (.bin .lss (.v 2) (.len (.v 0))) Df1 (.yld 0 []))
def Gc8 : T := .loop 1 [.c (.i .i64 0)] Eb1
def Bf1 : T := (.w (.chk (.len (.v 0))) (.blk 0 Gc8 (.ret [.c (.i .i64 (-1))])))
theorem Cx4 : type_of% (And.intro (tev_eq @Ew2.eq_1) (And.intro (tev_eq @Dm2.eq_1) (And.intro (tev_eq @Df1.eq_1) (And.intro (tev_eq @Eb1.eq_1) (tev_eq @Bf1.eq_1))))) := (And.intro (tev_eq @Ew2.eq_1) (And.intro (tev_eq @Dm2.eq_1) (And.intro (tev_eq @Df1.eq_1) (And.intro (tev_eq @Eb1.eq_1) (tev_eq @Bf1.eq_1)))))
def Ew1 : T := (.yld 1 [.bin .add (.v 2) (.c (.i .i64 1))])
def Dm1 : T := (.ite (.v 3) (.ret [.v 2]) Ew1)
def Df0 : T := (.w (.clo none true (.v 1) [.proj 0 (.idx 1 (.v 0) (.v 2))] 1) Dm1)
def Eb0 : T := (.ite (.bin .lss (.v 2) (.len (.v 0))) Df0 (.yld 0 []))
def Gc7 : T := .loop 1 [.c (.i .i64 0)] Eb0
def Bf0 : T := (.w (.chk (.len (.v 0))) (.blk 0 Gc7 (.ret [.c (.i .i64 (-1))])))
theorem Cx3 : type_of% (And.intro (tev_eq @Ew1.eq_1) (And.intro (tev_eq @Dm1.eq_1) (And.intro (tev_eq @Df0.eq_1) (And.intro (tev_eq @Eb0.eq_1) (tev_eq @Bf0.eq_1))))) := (And.intro (tev_eq @Ew1.eq_1) (And.intro (tev_eq @Dm1.eq_1) (And.intro (tev_eq @Df0.eq_1) (And.intro (tev_eq @Eb0.eq_1) (tev_eq @Bf0.eq_1)))))
def Ew0 : T := (.yld 1 [.bin .add (.v 1) (.c (.i .i64 1))])
def Dm0 : T := (.w (.chk (.ite (.ite (.un .not (.ite (.bin .geq (.sidx (.v 0) (.v 1)) (.c (.i .u8 97))) (.bin .leq (.sidx (.v 0) (.v 1)) (.c (.i .u8 122))) (.c (.b false)))) (.bin .geq (.sidx (.v 0) (.v 1)) (.c (.i .u8 48))) (.c (.b false))) (.bin .leq (.sidx (.v 0) (.v 1)) (.c (.i .u8 57))) (.c .u))) (.ite (.un .not (.ite (.ite (.ite (.ite (.bin .geq (.sidx (.v 0) (.v 1)) (.c (.i .u8 97))) (.bin .leq (.sidx (.v 0) (.v 1)) (.c (.i .u8 122))) (.c (.b false))) (.c (.b true)) (.ite (.bin .geq (.sidx (.v 0) (.v 1)) (.c (.i .u8 48))) (.bin .leq (.sidx (.v 0) (.v 1)) (.c (.i .u8 57))) (.c (.b false)))) (.c (.b true)) (.bin .eql (.sidx (.v 0) (.v 1)) (.c (.i .u8 45)))) (.c (.b true)) (.bin .eql (.sidx (.v 0) (.v 1)) (.c (.i .u8 95))))) (.ret [.c (.b false)]) Ew0))
def Ez9 : T := (.ite (.bin .lss (.v 1) (.slen (.v 0))) Dm0 (.yld 0 []))
def Gc6 : T := .loop 1 [.c (.i .i64 0)] Ez9
def Dd9 : T := (.blk 0 Gc6 (.ret [.c (.b true)]))
def Db4 : T := (.ite (.ite (.bin .lss (.slen (.v 0)) (.c (.i .i64 1))) (.c (.b true)) (.bin .gtr (.slen (.v 0)) (.c (.i .i64 63)))) (.ret [.c (.b false)]) Dd9)
def Bd9 : T := (.ite (.bin .eql (.v 0) (.c (.s [42]))) (.ret [.c (.b true)]) Db4)
theorem Fg0 : type_of% (And.intro (tev_eq @Ew0.eq_1) (And.intro (tev_eq @Dm0.eq_1) (And.intro (tev_eq @Ez9.eq_1) (And.intro (tev_eq @Dd9.eq_1) (And.intro (tev_eq @Db4.eq_1) (tev_eq @Bd9.eq_1)))))) := (And.intro (tev_eq @Ew0.eq_1) (And.intro (tev_eq @Dm0.eq_1) (And.intro (tev_eq @Ez9.eq_1) (And.intro (tev_eq @Dd9.eq_1) (And.intro (tev_eq @Db4.eq_1) (tev_eq @Bd9.eq_1))))))
def Ev9 : T := (.yld 1 [.bin .add (.v 2) (.c (.i .i64 1))])
def Dl9 : T := (.ite (.bin .eql (.v 1) (.proj 0 (.idx 1 (.v 0) (.v 2)))) (.ret [.v 2]) Ev9)
def Ez8 : T := (.ite (.bin .lss (.v 2) (.len (.v 0))) Dl9 (.yld 0 []))
def Gc5 : T := .loop 1 [.c (.i .i64 0)] Ez8
def Bd8 : T := (.w (.chk (.len (.v 0))) (.blk 0 Gc5 (.ret [.c (.i .i64 (-1))])))
theorem Cx2 : type_of% (And.intro (tev_eq @Ev9.eq_1) (And.intro (tev_eq @Dl9.eq_1) (And.intro (tev_eq @Ez8.eq_1) (tev_eq @Bd8.eq_1)))) := (And.intro (tev_eq @Ev9.eq_1) (And.intro (tev_eq @Dl9.eq_1) (And.intro (tev_eq @Ez8.eq_1) (tev_eq @Bd8.eq_1))))
def Bd7 : T := (.w (.call none false Cc4 [.v 0] 2) (.ret [.v 1]))
theorem Kk6 : type_of% (tev_eq @Bd7.eq_1) := (tev_eq @Bd7.eq_1)
def Ev8 : T := (.yld 1 [.v 5, .bin .add (.v 3) (.c (.i .i64 1))])
def Dl8 : T := (.w (.call none true Cd7 [.v 2] 2) Ev8)
def Dd8 : T := (.ite (.ite (.bin .lss (.v 3) (.c (.i .i64 128))) (.bin .gtr (.len (.v 4)) (.v 1)) (.c (.b false))) Dl8 (.yld 0 [.v 2]))
def Ez7 : T := (.w (.call (some (.bin .lss (.v 3) (.c (.i .i64 128)))) false Bw3 [.v 2] 1) Dd8)
def Gc4 : T := .loop 1 [.v 0, .c (.i .i64 0)] Ez7
def Bd6 : T := (.blk 0 Gc4 (.ret [.v 2]))
theorem Ff9 : type_of% (And.intro (tev_eq @Ev8.eq_1) (And.intro (tev_eq @Dl8.eq_1) (And.intro (tev_eq @Dd8.eq_1) (And.intro (tev_eq @Ez7.eq_1) (tev_eq @Bd6.eq_1))))) := (And.intro (tev_eq @Ev8.eq_1) (And.intro (tev_eq @Dl8.eq_1) (And.intro (tev_eq @Dd8.eq_1) (And.intro (tev_eq @Ez7.eq_1) (tev_eq @Bd6.eq_1)))))
def Ev7 : T := (.ite (.ite (.v 8) (.bin .eql (.proj 2 (.v 0)) (.c (.i .i64 0))) (.c (.b false))) (.ret [.c (.i .i64 3)]) (.ret [.c (.i .i64 0)]))
def Dl7 : T := (.w (.call none true Bl3 [.sub 0 17 (.v 0), .v 1] 2) Ev7)
def Dd7 : T := (.ite (.v 6) (.ret [.c (.i .i64 4)]) Dl7)
def Db3 : T := (.w (.chk (.fit 16 (.v 5))) (.ite (.ite (.v 6) (.bin .eql (.proj 2 (.v 0)) (.c (.i .i64 3))) (.c (.b false))) (.ret [.c (.i .i64 5)]) Dd7))
def Dy4 : T := (.w (.call none true Cd5 [.sub 0 17 (.v 0)] 2) Db3)
def Dx0 : T := (.ite (.bin .gtr (.len (.v 2)) (.c (.i .i64 0))) (.ret [.c (.i .i64 2)]) Dy4)
def Dv8 : T := (.ite (.v 4) (.ret [.c (.i .i64 1)]) Dx0)
def Dq9 : T := (.w (.call none true Bl4 [.proj 14 (.v 0), .v 3, .proj 13 (.v 0)] 1) Dv8)
def Dq3 : T := (.w (.call none false Cd6 [.proj 14 (.v 0), .agg [.proj 12 (.v 0), .proj 13 (.v 0)]] 2) Dq9)
def Bd5 : T := (.w (.chk (.fit 17 (.v 0))) (.w (.chk (.ite (.ite (.un .not (.ite (.un .not (.proj 3 (.v 0))) (.c (.b true)) (.bin .neq (.proj 1 (.v 0)) (.c (.i .i64 0))))) (.bin .neq (.proj 2 (.v 0)) (.c (.i .i64 0))) (.c (.b false))) (.bin .neq (.proj 2 (.v 0)) (.c (.i .i64 3))) (.c .u))) (.ite (.ite (.ite (.ite (.un .not (.proj 3 (.v 0))) (.c (.b true)) (.bin .neq (.proj 1 (.v 0)) (.c (.i .i64 0)))) (.c (.b true)) (.ite (.bin .neq (.proj 2 (.v 0)) (.c (.i .i64 0))) (.bin .neq (.proj 2 (.v 0)) (.c (.i .i64 3))) (.c (.b false)))) (.c (.b true)) (.proj 5 (.v 0))) (.ret [.c (.i .i64 0)]) Dq3)))
theorem At1 : type_of% (And.intro (tev_eq @Ev7.eq_1) (And.intro (tev_eq @Dl7.eq_1) (And.intro (tev_eq @Dd7.eq_1) (And.intro (tev_eq @Db3.eq_1) (And.intro (tev_eq @Dy4.eq_1) (And.intro (tev_eq @Dx0.eq_1) (And.intro (tev_eq @Dv8.eq_1) (And.intro (tev_eq @Dq9.eq_1) (And.intro (tev_eq @Dq3.eq_1) (tev_eq @Bd5.eq_1)))))))))) := (And.intro (tev_eq @Ev7.eq_1) (And.intro (tev_eq @Dl7.eq_1) (And.intro (tev_eq @Dd7.eq_1) (And.intro (tev_eq @Db3.eq_1) (And.intro (tev_eq @Dy4.eq_1) (And.intro (tev_eq @Dx0.eq_1) (And.intro (tev_eq @Dv8.eq_1) (And.intro (tev_eq @Dq9.eq_1) (And.intro (tev_eq @Dq3.eq_1) (tev_eq @Bd5.eq_1))))))))))
def Ev6 : T := (.ret [.c (.s []), .c (.l 1 []), .c (.b false)])
def Dl6 : T := (.ret [.proj 0 (.v 4), .v 6, .c (.b true)])
def Dd6 : T := (.w (.chk (.fit 16 (.v 4))) (.w (.call none false Cd4 [.proj 15 (.v 2), .proj 0 (.v 4)] 1) Dl6))
def Db2 : T := (.w (.call none true Bl3 [.sub 0 17 (.v 2), .v 1] 2) Dd6)
def Dy3 : T := (.ite (.bin .neq (.v 3) (.c (.i .i64 3))) Ev6 Db2)
def Dw9 : T := (.w (.chk (.fit 17 (.v 2))) (.w (.call none true Bm0 [.sub 0 17 (.v 2), .v 1] 1) Dy3))
def Bd4 : T := (.w (.chk (.fit 17 (.v 0))) (.w (.call none false Cj4 [.sub 0 17 (.v 0), .v 1] 1) Dw9))
theorem Ip8 : type_of% (And.intro (tev_eq @Ev6.eq_1) (And.intro (tev_eq @Dl6.eq_1) (And.intro (tev_eq @Dd6.eq_1) (And.intro (tev_eq @Db2.eq_1) (And.intro (tev_eq @Dy3.eq_1) (And.intro (tev_eq @Dw9.eq_1) (tev_eq @Bd4.eq_1))))))) := (And.intro (tev_eq @Ev6.eq_1) (And.intro (tev_eq @Dl6.eq_1) (And.intro (tev_eq @Dd6.eq_1) (And.intro (tev_eq @Db2.eq_1) (And.intro (tev_eq @Dy3.eq_1) (And.intro (tev_eq @Dw9.eq_1) (tev_eq @Bd4.eq_1)))))))
def Ev5 : T := (.yld 1 [.ite (.v 2) (.c (.b true)) (.ite (.ite (.ite (.bin .eql (.proj 1 (.sub 0 16 (.idx 16 (.proj 15 (.v 0)) (.v 3)))) (.c (.i .i64 2))) (.bin .eql (.proj 6 (.sub 0 16 (.idx 16 (.proj 15 (.v 0)) (.v 3)))) (.v 1)) (.c (.b false))) (.v 4) (.c (.b false))) (.v 5) (.c (.b false))), .bin .add (.v 3) (.c (.i .i64 1))])
def Dl5 : T := (.w (.chk (.ite (.ite (.un .not (.v 2)) (.ite (.ite (.bin .eql (.proj 1 (.sub 0 16 (.idx 16 (.proj 15 (.v 0)) (.v 3)))) (.c (.i .i64 2))) (.bin .eql (.proj 6 (.sub 0 16 (.idx 16 (.proj 15 (.v 0)) (.v 3)))) (.v 1)) (.c (.b false))) (.v 4) (.c (.b false))) (.c (.b false))) (.c .u) (.c .u))) (.w (.call (some (.ite (.un .not (.v 2)) (.ite (.ite (.bin .eql (.proj 1 (.sub 0 16 (.idx 16 (.proj 15 (.v 0)) (.v 3)))) (.c (.i .i64 2))) (.bin .eql (.proj 6 (.sub 0 16 (.idx 16 (.proj 15 (.v 0)) (.v 3)))) (.v 1)) (.c (.b false))) (.v 4) (.c (.b false))) (.c (.b false)))) true Am8 [.v 1, .proj 0 (.sub 0 16 (.idx 16 (.proj 15 (.v 0)) (.v 3)))] 1) Ev5))
def Dd5 : T := (.w (.chk (.fit 16 (.sub 0 16 (.idx 16 (.proj 15 (.v 0)) (.v 3))))) (.w (.chk (.ite (.ite (.un .not (.v 2)) (.bin .eql (.proj 1 (.sub 0 16 (.idx 16 (.proj 15 (.v 0)) (.v 3)))) (.c (.i .i64 2))) (.c (.b false))) (.bin .eql (.proj 6 (.sub 0 16 (.idx 16 (.proj 15 (.v 0)) (.v 3)))) (.v 1)) (.c .u))) (.w (.call (some (.ite (.un .not (.v 2)) (.ite (.bin .eql (.proj 1 (.sub 0 16 (.idx 16 (.proj 15 (.v 0)) (.v 3)))) (.c (.i .i64 2))) (.bin .eql (.proj 6 (.sub 0 16 (.idx 16 (.proj 15 (.v 0)) (.v 3)))) (.v 1)) (.c (.b false))) (.c (.b false)))) true Am8 [.proj 12 (.v 0), .proj 0 (.sub 0 16 (.idx 16 (.proj 15 (.v 0)) (.v 3)))] 1) Dl5)))
def Ez6 : T := (.ite (.bin .lss (.v 3) (.len (.proj 15 (.v 0)))) Dd5 (.yld 0 [.v 2]))
def Gc3 : T := .loop 1 [.c (.b false), .c (.i .i64 0)] Ez6
def Db1 : T := (.yld 2 [.c (.i .i64 28)])
def Dy2 : T := (.yld 2 [.c (.i .i64 1)])
def Dw8 : T := (.ite (.bin .eql (.v 4) (.c (.i .i64 1))) Db1 Dy2)
def Dv7 : T := (.w (.chk (.fit 3 (.sub 3 3 (.idx 16 (.v 6) (.v 8))))) (.yld 3 [.app 3 (.v 7) (.lit 3 [.sub 3 3 (.idx 16 (.v 6) (.v 8))]), .bin .add (.v 8) (.c (.i .i64 1))]))
def Ex8 : T := (.ite (.bin .lss (.v 8) (.len (.v 6))) Dv7 (.yld 2 [.v 7]))
def Gz6 : T := .loop 3 [.v 3, .c (.i .i64 0)] Ex8
def Dq8 : T := (.yld 1 [.v 7, .bin .add (.v 4) (.c (.i .i64 1))])
def Dq2 : T := (.blk 2 Gz6 Dq8)
def Dk8 : T := (.w (.call none false Bw1 [.proj 16 (.v 0), .v 1, .v 5] 1) Dq2)
def Cv0 : T := (.blk 2 Dw8 Dk8)
def Ey1 : T := (.ite (.bin .lss (.v 4) (.c (.i .i64 2))) Cv0 (.yld 0 [.v 3]))
def Gz9 : T := .loop 1 [.c (.l 3 []), .c (.i .i64 0)] Ey1
def Cq7 : T := (.blk 0 Gz9 (.ret [.v 3]))
def Cq5 : T := (.ite (.un .not (.v 2)) (.ret [.c (.l 3 [])]) Cq7)
def Bd3 : T := (.w (.chk (.fit 17 (.v 0))) (.blk 0 Gc3 Cq5))
theorem Ab2 : type_of% (And.intro (tev_eq @Ev5.eq_1) (And.intro (tev_eq @Dl5.eq_1) (And.intro (tev_eq @Dd5.eq_1) (And.intro (tev_eq @Ez6.eq_1) (And.intro (tev_eq @Db1.eq_1) (And.intro (tev_eq @Dy2.eq_1) (And.intro (tev_eq @Dw8.eq_1) (And.intro (tev_eq @Dv7.eq_1) (And.intro (tev_eq @Ex8.eq_1) (And.intro (tev_eq @Dq8.eq_1) (And.intro (tev_eq @Dq2.eq_1) (And.intro (tev_eq @Dk8.eq_1) (And.intro (tev_eq @Cv0.eq_1) (And.intro (tev_eq @Ey1.eq_1) (And.intro (tev_eq @Cq7.eq_1) (And.intro (tev_eq @Cq5.eq_1) (tev_eq @Bd3.eq_1))))))))))))))))) := (And.intro (tev_eq @Ev5.eq_1) (And.intro (tev_eq @Dl5.eq_1) (And.intro (tev_eq @Dd5.eq_1) (And.intro (tev_eq @Ez6.eq_1) (And.intro (tev_eq @Db1.eq_1) (And.intro (tev_eq @Dy2.eq_1) (And.intro (tev_eq @Dw8.eq_1) (And.intro (tev_eq @Dv7.eq_1) (And.intro (tev_eq @Ex8.eq_1) (And.intro (tev_eq @Dq8.eq_1) (And.intro (tev_eq @Dq2.eq_1) (And.intro (tev_eq @Dk8.eq_1) (And.intro (tev_eq @Cv0.eq_1) (And.intro (tev_eq @Ey1.eq_1) (And.intro (tev_eq @Cq7.eq_1) (And.intro (tev_eq @Cq5.eq_1) (tev_eq @Bd3.eq_1)))))))))))))))))
def Ev4 : T := (.yld 3 [.bin .add (.v 6) (.c (.i .i64 1))])
def Dl4 : T := (.w (.chk (.ite (.ite (.bin .eql (.proj 0 (.idx 16 (.v 0) (.v 6))) (.v 3)) (.un .not (.bin .eql (.proj 1 (.idx 16 (.v 0) (.v 6))) (.proj 1 (.v 1)))) (.c (.b false))) (.bin .eql (.proj 1 (.v 1)) (.c (.i .i64 255))) (.c .u))) (.ite (.ite (.bin .eql (.proj 0 (.idx 16 (.v 0) (.v 6))) (.v 3)) (.ite (.bin .eql (.proj 1 (.idx 16 (.v 0) (.v 6))) (.proj 1 (.v 1))) (.c (.b true)) (.bin .eql (.proj 1 (.v 1)) (.c (.i .i64 255)))) (.c (.b false))) (.ret [.v 2]) Ev4))
def Ey0 : T := (.ite (.bin .lss (.v 6) (.len (.v 0))) Dl4 (.yld 2 []))
def Gz8 : T := .loop 3 [.c (.i .i64 0)] Ey0
def Dd4 : T := (.w (.chk (.fit 16 (.sub 0 16 (.idx 16 (.v 5) (.c (.i .i64 0)))))) (.yld 1 [.app 16 (.v 2) (.lit 16 [.sub 0 16 (.idx 16 (.v 5) (.c (.i .i64 0)))]), .proj 6 (.idx 16 (.v 5) (.c (.i .i64 0))), .bin .add (.v 4) (.c (.i .i64 1))]))
def Db0 : T := (.ite (.bin .eql (.len (.v 5)) (.c (.i .i64 0))) (.ret [.v 2]) Dd4)
def Dy1 : T := (.blk 2 Gz8 Db0)
def Dw7 : T := (.w (.call none false Bw1 [.v 0, .v 3, .c (.i .i64 5)] 1) Dy1)
def Ez5 : T := (.ite (.bin .lss (.v 4) (.c (.i .i64 8))) Dw7 (.yld 0 [.v 2]))
def Gc2 : T := .loop 1 [.c (.l 16 []), .proj 0 (.v 1), .c (.i .i64 0)] Ez5
def Bd2 : T := (.w (.chk (.fit 2 (.v 1))) (.blk 0 Gc2 (.ret [.v 2])))
theorem Af4 : type_of% (And.intro (tev_eq @Ev4.eq_1) (And.intro (tev_eq @Dl4.eq_1) (And.intro (tev_eq @Ey0.eq_1) (And.intro (tev_eq @Dd4.eq_1) (And.intro (tev_eq @Db0.eq_1) (And.intro (tev_eq @Dy1.eq_1) (And.intro (tev_eq @Dw7.eq_1) (And.intro (tev_eq @Ez5.eq_1) (tev_eq @Bd2.eq_1))))))))) := (And.intro (tev_eq @Ev4.eq_1) (And.intro (tev_eq @Dl4.eq_1) (And.intro (tev_eq @Ey0.eq_1) (And.intro (tev_eq @Dd4.eq_1) (And.intro (tev_eq @Db0.eq_1) (And.intro (tev_eq @Dy1.eq_1) (And.intro (tev_eq @Dw7.eq_1) (And.intro (tev_eq @Ez5.eq_1) (tev_eq @Bd2.eq_1)))))))))
def Ev3 : T := (.w (.chk (.fit 16 (.sub 0 16 (.idx 16 (.v 0) (.v 3))))) (.yld 1 [.app 16 (.v 2) (.lit 16 [.sub 0 16 (.idx 16 (.v 0) (.v 3))]), .bin .add (.v 3) (.c (.i .i64 1))]))
def Dl3 : T := (.yld 1 [.v 2, .bin .add (.v 3) (.c (.i .i64 1))])
def Dd3 : T := (.ite (.v 4) Ev3 Dl3)
def Dz9 : T := (.w (.call none true Am8 [.proj 0 (.idx 16 (.v 0) (.v 3)), .v 1] 1) Dd3)
def Ez4 : T := (.ite (.bin .lss (.v 3) (.len (.v 0))) Dz9 (.yld 0 [.v 2]))
def Gc1 : T := .loop 1 [.c (.l 16 []), .c (.i .i64 0)] Ez4
def Bd1 : T := (.blk 0 Gc1 (.ret [.v 2]))
theorem Ed2 : type_of% (And.intro (tev_eq @Ev3.eq_1) (And.intro (tev_eq @Dl3.eq_1) (And.intro (tev_eq @Dd3.eq_1) (And.intro (tev_eq @Dz9.eq_1) (And.intro (tev_eq @Ez4.eq_1) (tev_eq @Bd1.eq_1)))))) := (And.intro (tev_eq @Ev3.eq_1) (And.intro (tev_eq @Dl3.eq_1) (And.intro (tev_eq @Dd3.eq_1) (And.intro (tev_eq @Dz9.eq_1) (And.intro (tev_eq @Ez4.eq_1) (tev_eq @Bd1.eq_1))))))
def Ev2 : T := (.yld 1 [.bin .add (.v 2) (.c (.i .i64 1))])
def Dl2 : T := (.ite (.ite (.ite (.ite (.bin .eql (.proj 1 (.idx 16 (.v 0) (.v 2))) (.c (.i .i64 2))) (.c (.b true)) (.bin .eql (.proj 1 (.idx 16 (.v 0) (.v 2))) (.c (.i .i64 15)))) (.c (.b true)) (.bin .eql (.proj 1 (.idx 16 (.v 0) (.v 2))) (.c (.i .i64 33)))) (.bin .eql (.proj 6 (.idx 16 (.v 0) (.v 2))) (.v 1)) (.c (.b false))) (.ret [.c (.b true)]) Ev2)
def Ez3 : T := (.ite (.bin .lss (.v 2) (.len (.v 0))) Dl2 (.yld 0 []))
def Gc0 : T := .loop 1 [.c (.i .i64 0)] Ez3
def Bd0 : T := (.blk 0 Gc0 (.ret [.c (.b false)]))
theorem Ed1 : type_of% (And.intro (tev_eq @Ev2.eq_1) (And.intro (tev_eq @Dl2.eq_1) (And.intro (tev_eq @Ez3.eq_1) (tev_eq @Bd0.eq_1)))) := (And.intro (tev_eq @Ev2.eq_1) (And.intro (tev_eq @Dl2.eq_1) (And.intro (tev_eq @Ez3.eq_1) (tev_eq @Bd0.eq_1))))
def Bc9 : T := (.ret [.ite (.bin .geq (.slen (.v 0)) (.slen (.v 1))) (.bin .eql (.ssl (.v 0) (.bin .sub (.slen (.v 0)) (.slen (.v 1))) (.slen (.v 0))) (.v 1)) (.c (.b false))])
theorem Ip7 : type_of% (tev_eq @Bc9.eq_1) := (tev_eq @Bc9.eq_1)
def Ev1 : T := (.w (.call none false Gy2 [.v 0, .v 3] 1) (.ret [.v 4]))
def Dl1 : T := (.yld 0 [.bin .add (.v 4) (.c (.i .i64 1))])
def Dd2 : T := (.w (.call none true Cd3 [.v 0, .v 1] 1) Dl1)
def Dz8 : T := (.ite (.bin .lss (.v 3) (.c (.i .i64 0))) Dd2 (.yld 0 [.v 3]))
def Dy0 : T := (.yld 0 [.v 5, .v 6, .v 7])
def Dw6 : T := (.w (.chk (.idx 1 (.v 6) (.v 7))) (.w (.chk (.scal (.ssl (.v 5) (.c (.i .i64 0)) (.bin .add (.v 8) (.v 2))))) (.yld 1 [.ssl (.v 5) (.bin .add (.v 8) (.slen (.v 1))) (.slen (.v 5)), .set 1 (.v 6) (.v 7) 0 [.ssl (.v 5) (.c (.i .i64 0)) (.bin .add (.v 8) (.v 2))], .bin .add (.v 7) (.c (.i .i64 1))])))
def Dv6 : T := (.ite (.bin .lss (.v 8) (.c (.i .i64 0))) Dy0 Dw6)
def Dq7 : T := (.w (.call none true Bl2 [.v 5, .v 1] 1) Dv6)
def Dq1 : T := (.yld 0 [.v 5, .v 6, .v 7])
def Cv4 : T := (.ite (.bin .lss (.v 7) (.bin .sub (.mn (.v 4) (.bin .add (.slen (.v 0)) (.c (.i .i64 1)))) (.c (.i .i64 1)))) Dq7 Dq1)
def Ct6 : T := .loop 1 [.v 0, .rep 1 (.mn (.v 4) (.bin .add (.slen (.v 0)) (.c (.i .i64 1)))) (.c (.s [])), .c (.i .i64 0)] Cv4
def Dk7 : T := (.w (.chk (.idx 1 (.v 6) (.v 7))) (.w (.chk (.scal (.v 5))) (.ret [.lsl 1 (.set 1 (.v 6) (.v 7) 0 [.v 5]) (.c (.i .i64 0)) (.bin .add (.v 7) (.c (.i .i64 1)))])))
def Cq9 : T := (.w (.chk (.bin .sub (.mn (.v 4) (.bin .add (.slen (.v 0)) (.c (.i .i64 1)))) (.c (.i .i64 1)))) (.blk 0 Ct6 Dk7))
def Cq6 : T := (.blk 0 Dz8 Cq9)
def Cq4 : T := (.ite (.bin .eql (.v 1) (.c (.s []))) Ev1 Cq6)
def Bc8 : T := (.ite (.bin .eql (.v 3) (.c (.i .i64 0))) (.ret [.c (.l 1 [])]) Cq4)
theorem Ff8 : type_of% (And.intro (tev_eq @Ev1.eq_1) (And.intro (tev_eq @Dl1.eq_1) (And.intro (tev_eq @Dd2.eq_1) (And.intro (tev_eq @Dz8.eq_1) (And.intro (tev_eq @Dy0.eq_1) (And.intro (tev_eq @Dw6.eq_1) (And.intro (tev_eq @Dv6.eq_1) (And.intro (tev_eq @Dq7.eq_1) (And.intro (tev_eq @Dq1.eq_1) (And.intro (tev_eq @Cv4.eq_1) (And.intro (tev_eq @Dk7.eq_1) (And.intro (tev_eq @Cq9.eq_1) (And.intro (tev_eq @Cq6.eq_1) (And.intro (tev_eq @Cq4.eq_1) (tev_eq @Bc8.eq_1))))))))))))))) := (And.intro (tev_eq @Ev1.eq_1) (And.intro (tev_eq @Dl1.eq_1) (And.intro (tev_eq @Dd2.eq_1) (And.intro (tev_eq @Dz8.eq_1) (And.intro (tev_eq @Dy0.eq_1) (And.intro (tev_eq @Dw6.eq_1) (And.intro (tev_eq @Dv6.eq_1) (And.intro (tev_eq @Dq7.eq_1) (And.intro (tev_eq @Dq1.eq_1) (And.intro (tev_eq @Cv4.eq_1) (And.intro (tev_eq @Dk7.eq_1) (And.intro (tev_eq @Cq9.eq_1) (And.intro (tev_eq @Cq6.eq_1) (And.intro (tev_eq @Cq4.eq_1) (tev_eq @Bc8.eq_1)))))))))))))))
def Ev0 : T := (.w (.chk (.scal (.v 2))) (.w (.chk (.scal (.proj 6 (.idx 16 (.v 4) (.c (.i .i64 0)))))) (.yld 1 [.app 1 (.v 1) (.lit 1 [.v 2]), .proj 6 (.idx 16 (.v 4) (.c (.i .i64 0)))])))
def Dl0 : T := (.ite (.bin .eql (.len (.v 4)) (.c (.i .i64 0))) (.yld 0 [.v 1, .v 2]) Ev0)
def Dd1 : T := (.w (.call none false At7 [.proj 14 (.v 0), .v 2, .c (.i .i64 5)] 1) Dl0)
def Dz7 : T := (.ite (.ite (.bin .lss (.len (.v 1)) (.c (.i .i64 8))) (.un .not (.v 3)) (.c (.b false))) Dd1 (.yld 0 [.v 1, .v 2]))
def Ez2 : T := (.w (.call (some (.bin .lss (.len (.v 1)) (.c (.i .i64 8)))) true Bl6 [.proj 14 (.v 0), .agg [.v 2, .proj 13 (.v 0)]] 1) Dz7)
def Gb9 : T := .loop 1 [.c (.l 1 []), .proj 12 (.v 0)] Ez2
def Bc7 : T := (.w (.chk (.fit 17 (.v 0))) (.blk 0 Gb9 (.ret [.v 1, .v 2])))
theorem Cx1 : type_of% (And.intro (tev_eq @Ev0.eq_1) (And.intro (tev_eq @Dl0.eq_1) (And.intro (tev_eq @Dd1.eq_1) (And.intro (tev_eq @Dz7.eq_1) (And.intro (tev_eq @Ez2.eq_1) (tev_eq @Bc7.eq_1)))))) := (And.intro (tev_eq @Ev0.eq_1) (And.intro (tev_eq @Dl0.eq_1) (And.intro (tev_eq @Dd1.eq_1) (And.intro (tev_eq @Dz7.eq_1) (And.intro (tev_eq @Ez2.eq_1) (tev_eq @Bc7.eq_1))))))
def Eq9 : T := (.w (.chk (.fit 16 (.sub 0 16 (.sub 0 16 (.idx 16 (.proj 15 (.v 0)) (.v 3)))))) (.ret [.sub 0 16 (.sub 0 16 (.sub 0 16 (.idx 16 (.proj 15 (.v 0)) (.v 3)))), .c (.b true)]))
def Dh9 : T := (.yld 1 [.bin .add (.v 3) (.c (.i .i64 1)), .v 4, .v 5, .v 6, .v 7, .v 8, .v 9, .v 10, .v 11, .v 12, .v 13, .v 14, .v 15, .v 16, .v 17, .v 18, .v 19])
def Dd0 : T := (.w (.chk (.ite (.ite (.ite (.bin .eql (.proj 1 (.sub 0 16 (.idx 16 (.proj 15 (.v 0)) (.v 3)))) (.v 1)) (.v 20) (.c (.b false))) (.un .not (.bin .eql (.v 2) (.c (.s [])))) (.c (.b false))) (.ite (.bin .neq (.proj 0 (.sub 0 16 (.idx 16 (.proj 15 (.v 0)) (.v 3)))) (.v 2)) (.v 21) (.c (.b false))) (.c .u))) (.ite (.ite (.ite (.bin .eql (.proj 1 (.sub 0 16 (.idx 16 (.proj 15 (.v 0)) (.v 3)))) (.v 1)) (.v 20) (.c (.b false))) (.ite (.bin .eql (.v 2) (.c (.s []))) (.c (.b true)) (.ite (.bin .neq (.proj 0 (.sub 0 16 (.idx 16 (.proj 15 (.v 0)) (.v 3)))) (.v 2)) (.v 21) (.c (.b false)))) (.c (.b false))) Eq9 Dh9))
def Dz6 : T := (.w (.call (some (.ite (.ite (.ite (.bin .eql (.proj 1 (.sub 0 16 (.idx 16 (.proj 15 (.v 0)) (.v 3)))) (.v 1)) (.v 20) (.c (.b false))) (.un .not (.bin .eql (.v 2) (.c (.s [])))) (.c (.b false))) (.bin .neq (.proj 0 (.sub 0 16 (.idx 16 (.proj 15 (.v 0)) (.v 3)))) (.v 2)) (.c (.b false)))) true Ap0 [.proj 0 (.sub 0 16 (.idx 16 (.proj 15 (.v 0)) (.v 3))), .v 2] 1) Dd0)
def Dx9 : T := (.w (.chk (.fit 16 (.sub 0 16 (.idx 16 (.proj 15 (.v 0)) (.v 3))))) (.w (.call (some (.bin .eql (.proj 1 (.sub 0 16 (.idx 16 (.proj 15 (.v 0)) (.v 3)))) (.v 1))) true Ap0 [.proj 12 (.v 0), .proj 0 (.sub 0 16 (.idx 16 (.proj 15 (.v 0)) (.v 3)))] 1) Dz6))
def Dw5 : T := (.yld 0 [.v 4, .v 5, .v 6, .v 7, .v 8, .v 9, .v 10, .v 11, .v 12, .v 13, .v 14, .v 15, .v 16, .v 17, .v 18, .v 19])
def Ez1 : T := (.ite (.bin .lss (.v 3) (.len (.proj 15 (.v 0)))) Dx9 Dw5)
def Gb8 : T := .loop 1 [.c (.i .i64 0), .c (.s []), .c (.i .i64 0), .c (.i .i64 0), .c (.b false), .c (.i .u64 0), .c (.i .u64 0), .c (.s []), .c (.s []), .c (.s []), .c (.i .i64 0), .c (.i .i64 0), .c (.i .i64 0), .c (.i .i64 0), .c (.i .i64 0), .c (.i .i64 0), .c (.i .u64 0)] Ez1
def Dv5 : T := (.ret [.agg [.c (.s []), .c (.i .i64 0), .c (.i .i64 0), .c (.b false), .c (.i .u64 0), .c (.i .u64 0), .c (.s []), .c (.s []), .c (.s []), .c (.i .i64 0), .c (.i .i64 0), .c (.i .i64 0), .c (.i .i64 0), .c (.i .i64 0), .c (.i .i64 0), .c (.i .u64 0)], .c (.b false)])
def Bc6 : T := (.w (.chk (.fit 17 (.v 0))) (.w (.chk (.len (.proj 15 (.v 0)))) (.blk 0 Gb8 Dv5)))
theorem An1 : type_of% (And.intro (tev_eq @Eq9.eq_1) (And.intro (tev_eq @Dh9.eq_1) (And.intro (tev_eq @Dd0.eq_1) (And.intro (tev_eq @Dz6.eq_1) (And.intro (tev_eq @Dx9.eq_1) (And.intro (tev_eq @Dw5.eq_1) (And.intro (tev_eq @Ez1.eq_1) (And.intro (tev_eq @Dv5.eq_1) (tev_eq @Bc6.eq_1))))))))) := (And.intro (tev_eq @Eq9.eq_1) (And.intro (tev_eq @Dh9.eq_1) (And.intro (tev_eq @Dd0.eq_1) (And.intro (tev_eq @Dz6.eq_1) (And.intro (tev_eq @Dx9.eq_1) (And.intro (tev_eq @Dw5.eq_1) (And.intro (tev_eq @Ez1.eq_1) (And.intro (tev_eq @Dv5.eq_1) (tev_eq @Bc6.eq_1)))))))))
def Eq8 : T := (.ret [.c (.s []), .c (.b false)])
def Dh8 : T := (.w (.chk (.fit 16 (.v 2))) (.ret [.proj 0 (.v 2), .v 3]))
def Dc9 : T := (.w (.call none true Bl8 [.sub 0 17 (.v 0), .c (.i .i64 2), .v 1] 2) Dh8)
def Bc5 : T := (.w (.chk (.fit 17 (.v 0))) (.ite (.bin .eql (.v 1) (.c (.s []))) Eq8 Dc9))
theorem Ff7 : type_of% (And.intro (tev_eq @Eq8.eq_1) (And.intro (tev_eq @Dh8.eq_1) (And.intro (tev_eq @Dc9.eq_1) (tev_eq @Bc5.eq_1)))) := (And.intro (tev_eq @Eq8.eq_1) (And.intro (tev_eq @Dh8.eq_1) (And.intro (tev_eq @Dc9.eq_1) (tev_eq @Bc5.eq_1))))
def Bc4 : T := (.w (.chk (.fit 2 (.v 1))) (.w (.call none true Cc5 [.v 0, .clo Bl1 [.agg [.proj 0 (.v 1), .proj 1 (.v 1)]]] 1) (.ret [.v 2])))
theorem Kk5 : type_of% (tev_eq @Bc4.eq_1) := (tev_eq @Bc4.eq_1)
def Eq7 : T := (.ret [.ite (.ite (.ite (.bin .eql (.proj 1 (.v 0)) (.c (.i .i64 2))) (.bin .eql (.proj 6 (.v 0)) (.proj 0 (.v 1))) (.c (.b false))) (.v 3) (.c (.b false))) (.v 4) (.c (.b false))])
def Dh7 : T := (.w (.chk (.ite (.ite (.ite (.bin .eql (.proj 1 (.v 0)) (.c (.i .i64 2))) (.bin .eql (.proj 6 (.v 0)) (.proj 0 (.v 1))) (.c (.b false))) (.v 3) (.c (.b false))) (.proj 0 (.v 1)) (.c .u))) (.w (.chk (.ite (.ite (.ite (.bin .eql (.proj 1 (.v 0)) (.c (.i .i64 2))) (.bin .eql (.proj 6 (.v 0)) (.proj 0 (.v 1))) (.c (.b false))) (.v 3) (.c (.b false))) (.c .u) (.c .u))) (.w (.call (some (.ite (.ite (.bin .eql (.proj 1 (.v 0)) (.c (.i .i64 2))) (.bin .eql (.proj 6 (.v 0)) (.proj 0 (.v 1))) (.c (.b false))) (.v 3) (.c (.b false)))) true Ap0 [.proj 0 (.v 1), .proj 0 (.v 0)] 1) Eq7)))
def Bc3 : T := (.w (.chk (.fit 16 (.v 0))) (.w (.chk (.ite (.ite (.bin .eql (.proj 1 (.v 0)) (.c (.i .i64 2))) (.bin .eql (.proj 6 (.v 0)) (.proj 0 (.v 1))) (.c (.b false))) (.proj 12 (.v 2)) (.c .u))) (.w (.call (some (.ite (.bin .eql (.proj 1 (.v 0)) (.c (.i .i64 2))) (.bin .eql (.proj 6 (.v 0)) (.proj 0 (.v 1))) (.c (.b false)))) true Ap0 [.proj 12 (.v 2), .proj 0 (.v 0)] 1) Dh7)))
theorem Ed0 : type_of% (And.intro (tev_eq @Eq7.eq_1) (And.intro (tev_eq @Dh7.eq_1) (tev_eq @Bc3.eq_1))) := (And.intro (tev_eq @Eq7.eq_1) (And.intro (tev_eq @Dh7.eq_1) (tev_eq @Bc3.eq_1)))
def Eq6 : T := (.ret [.c (.s []), .c (.b false)])
def Dh6 : T := (.ret [.v 3, .c (.b true)])
def Dc8 : T := (.w (.call none true Cd1 [.lsl 1 (.v 1) (.c (.i .i64 1)) (.len (.v 1))] 1) Dh6)
def Dz5 : T := (.ite (.bin .eql (.len (.v 1)) (.c (.i .i64 0))) Eq6 Dc8)
def Bc2 : T := (.w (.call none false Cc4 [.v 0] 2) Dz5)
theorem Ip6 : type_of% (And.intro (tev_eq @Eq6.eq_1) (And.intro (tev_eq @Dh6.eq_1) (And.intro (tev_eq @Dc8.eq_1) (And.intro (tev_eq @Dz5.eq_1) (tev_eq @Bc2.eq_1))))) := (And.intro (tev_eq @Eq6.eq_1) (And.intro (tev_eq @Dh6.eq_1) (And.intro (tev_eq @Dc8.eq_1) (And.intro (tev_eq @Dz5.eq_1) (tev_eq @Bc2.eq_1)))))
def Eq5 : T := (.w (.chk (.scal (.v 3))) (.yld 1 [.app 1 (.v 2) (.lit 1 [.v 3]), .proj 6 (.idx 16 (.v 5) (.c (.i .i64 0))), .bin .add (.v 4) (.c (.i .i64 1))]))
def Dh5 : T := (.ite (.ite (.v 6) (.c (.b true)) (.bin .eql (.len (.v 5)) (.c (.i .i64 0)))) (.ret [.v 2, .v 3]) Eq5)
def Dc7 : T := (.w (.call none true Bl4 [.v 0, .v 3, .proj 1 (.v 1)] 1) Dh5)
def Dz4 : T := (.w (.call none false Bw1 [.v 0, .v 3, .c (.i .i64 5)] 1) Dc7)
def Ez0 : T := (.ite (.bin .lss (.v 4) (.c (.i .i64 8))) Dz4 (.yld 0 [.v 2, .v 3]))
def Gb7 : T := .loop 1 [.c (.l 1 []), .proj 0 (.v 1), .c (.i .i64 0)] Ez0
def Bc1 : T := (.w (.chk (.fit 2 (.v 1))) (.blk 0 Gb7 (.ret [.v 2, .v 3])))
theorem Cx0 : type_of% (And.intro (tev_eq @Eq5.eq_1) (And.intro (tev_eq @Dh5.eq_1) (And.intro (tev_eq @Dc7.eq_1) (And.intro (tev_eq @Dz4.eq_1) (And.intro (tev_eq @Ez0.eq_1) (tev_eq @Bc1.eq_1)))))) := (And.intro (tev_eq @Eq5.eq_1) (And.intro (tev_eq @Dh5.eq_1) (And.intro (tev_eq @Dc7.eq_1) (And.intro (tev_eq @Dz4.eq_1) (And.intro (tev_eq @Ez0.eq_1) (tev_eq @Bc1.eq_1))))))
def Eq4 : T := (.yld 1 [.bin .add (.v 3) (.c (.i .i64 1))])
def Dh4 : T := (.w (.chk (.ite (.ite (.bin .eql (.proj 0 (.idx 16 (.v 0) (.v 3))) (.v 1)) (.un .not (.bin .eql (.proj 1 (.idx 16 (.v 0) (.v 3))) (.v 2))) (.c (.b false))) (.bin .eql (.v 2) (.c (.i .i64 255))) (.c .u))) (.ite (.ite (.bin .eql (.proj 0 (.idx 16 (.v 0) (.v 3))) (.v 1)) (.ite (.bin .eql (.proj 1 (.idx 16 (.v 0) (.v 3))) (.v 2)) (.c (.b true)) (.bin .eql (.v 2) (.c (.i .i64 255)))) (.c (.b false))) (.ret [.c (.b true)]) Eq4))
def Ey9 : T := (.ite (.bin .lss (.v 3) (.len (.v 0))) Dh4 (.yld 0 []))
def Gb6 : T := .loop 1 [.c (.i .i64 0)] Ey9
def Bc0 : T := (.blk 0 Gb6 (.ret [.c (.b false)]))
theorem Ec9 : type_of% (And.intro (tev_eq @Eq4.eq_1) (And.intro (tev_eq @Dh4.eq_1) (And.intro (tev_eq @Ey9.eq_1) (tev_eq @Bc0.eq_1)))) := (And.intro (tev_eq @Eq4.eq_1) (And.intro (tev_eq @Dh4.eq_1) (And.intro (tev_eq @Ey9.eq_1) (tev_eq @Bc0.eq_1))))
def Eq3 : T := (.w (.chk (.fit 16 (.sub 0 16 (.idx 16 (.proj 15 (.v 0)) (.v 1))))) (.ret [.sub 0 16 (.sub 0 16 (.idx 16 (.proj 15 (.v 0)) (.v 1))), .c (.b true)]))
def Dh3 : T := (.yld 1 [.bin .add (.v 1) (.c (.i .i64 1)), .v 2, .v 3, .v 4, .v 5, .v 6, .v 7, .v 8, .v 9, .v 10, .v 11, .v 12, .v 13, .v 14, .v 15, .v 16, .v 17])
def Dc6 : T := (.ite (.ite (.bin .eql (.proj 1 (.idx 16 (.proj 15 (.v 0)) (.v 1))) (.c (.i .i64 6))) (.v 18) (.c (.b false))) Eq3 Dh3)
def Dz3 : T := (.w (.chk (.ite (.bin .eql (.proj 1 (.idx 16 (.proj 15 (.v 0)) (.v 1))) (.c (.i .i64 6))) (.proj 0 (.idx 16 (.proj 15 (.v 0)) (.v 1))) (.c .u))) (.w (.call (some (.bin .eql (.proj 1 (.idx 16 (.proj 15 (.v 0)) (.v 1))) (.c (.i .i64 6)))) true Am8 [.proj 12 (.v 0), .proj 0 (.idx 16 (.proj 15 (.v 0)) (.v 1))] 1) Dc6))
def Dx8 : T := (.yld 0 [.v 2, .v 3, .v 4, .v 5, .v 6, .v 7, .v 8, .v 9, .v 10, .v 11, .v 12, .v 13, .v 14, .v 15, .v 16, .v 17])
def Ey8 : T := (.ite (.bin .lss (.v 1) (.len (.proj 15 (.v 0)))) Dz3 Dx8)
def Gb5 : T := .loop 1 [.c (.i .i64 0), .c (.s []), .c (.i .i64 0), .c (.i .i64 0), .c (.b false), .c (.i .u64 0), .c (.i .u64 0), .c (.s []), .c (.s []), .c (.s []), .c (.i .i64 0), .c (.i .i64 0), .c (.i .i64 0), .c (.i .i64 0), .c (.i .i64 0), .c (.i .i64 0), .c (.i .u64 0)] Ey8
def Dw4 : T := (.ret [.agg [.c (.s []), .c (.i .i64 0), .c (.i .i64 0), .c (.b false), .c (.i .u64 0), .c (.i .u64 0), .c (.s []), .c (.s []), .c (.s []), .c (.i .i64 0), .c (.i .i64 0), .c (.i .i64 0), .c (.i .i64 0), .c (.i .i64 0), .c (.i .i64 0), .c (.i .u64 0)], .c (.b false)])
def Bb9 : T := (.w (.chk (.fit 17 (.v 0))) (.blk 0 Gb5 Dw4))
theorem Bz2 : type_of% (And.intro (tev_eq @Eq3.eq_1) (And.intro (tev_eq @Dh3.eq_1) (And.intro (tev_eq @Dc6.eq_1) (And.intro (tev_eq @Dz3.eq_1) (And.intro (tev_eq @Dx8.eq_1) (And.intro (tev_eq @Ey8.eq_1) (And.intro (tev_eq @Dw4.eq_1) (tev_eq @Bb9.eq_1)))))))) := (And.intro (tev_eq @Eq3.eq_1) (And.intro (tev_eq @Dh3.eq_1) (And.intro (tev_eq @Dc6.eq_1) (And.intro (tev_eq @Dz3.eq_1) (And.intro (tev_eq @Dx8.eq_1) (And.intro (tev_eq @Ey8.eq_1) (And.intro (tev_eq @Dw4.eq_1) (tev_eq @Bb9.eq_1))))))))
def Eq2 : T := (.w (.chk (.fit 16 (.sub 0 16 (.sub 0 16 (.idx 16 (.proj 15 (.v 0)) (.v 2)))))) (.ret [.sub 0 16 (.sub 0 16 (.sub 0 16 (.idx 16 (.proj 15 (.v 0)) (.v 2)))), .c (.b true)]))
def Dh2 : T := (.yld 1 [.bin .add (.v 2) (.c (.i .i64 1)), .v 3, .v 4, .v 5, .v 6, .v 7, .v 8, .v 9, .v 10, .v 11, .v 12, .v 13, .v 14, .v 15, .v 16, .v 17, .v 18])
def Dc5 : T := (.ite (.ite (.ite (.ite (.bin .eql (.proj 1 (.sub 0 16 (.idx 16 (.proj 15 (.v 0)) (.v 2)))) (.c (.i .i64 2))) (.bin .neq (.proj 0 (.sub 0 16 (.idx 16 (.proj 15 (.v 0)) (.v 2)))) (.v 1)) (.c (.b false))) (.v 19) (.c (.b false))) (.v 20) (.c (.b false))) Eq2 Dh2)
def Dz2 : T := (.w (.chk (.ite (.ite (.ite (.bin .eql (.proj 1 (.sub 0 16 (.idx 16 (.proj 15 (.v 0)) (.v 2)))) (.c (.i .i64 2))) (.bin .neq (.proj 0 (.sub 0 16 (.idx 16 (.proj 15 (.v 0)) (.v 2)))) (.v 1)) (.c (.b false))) (.v 19) (.c (.b false))) (.c .u) (.c .u))) (.w (.call (some (.ite (.ite (.bin .eql (.proj 1 (.sub 0 16 (.idx 16 (.proj 15 (.v 0)) (.v 2)))) (.c (.i .i64 2))) (.bin .neq (.proj 0 (.sub 0 16 (.idx 16 (.proj 15 (.v 0)) (.v 2)))) (.v 1)) (.c (.b false))) (.v 19) (.c (.b false)))) true Am8 [.proj 12 (.v 0), .proj 0 (.sub 0 16 (.idx 16 (.proj 15 (.v 0)) (.v 2)))] 1) Dc5))
def Dx7 : T := (.w (.chk (.fit 16 (.sub 0 16 (.idx 16 (.proj 15 (.v 0)) (.v 2))))) (.w (.call (some (.ite (.bin .eql (.proj 1 (.sub 0 16 (.idx 16 (.proj 15 (.v 0)) (.v 2)))) (.c (.i .i64 2))) (.bin .neq (.proj 0 (.sub 0 16 (.idx 16 (.proj 15 (.v 0)) (.v 2)))) (.v 1)) (.c (.b false)))) true Am8 [.proj 0 (.sub 0 16 (.idx 16 (.proj 15 (.v 0)) (.v 2))), .v 1] 1) Dz2))
def Dw3 : T := (.yld 0 [.v 3, .v 4, .v 5, .v 6, .v 7, .v 8, .v 9, .v 10, .v 11, .v 12, .v 13, .v 14, .v 15, .v 16, .v 17, .v 18])
def Ey7 : T := (.ite (.bin .lss (.v 2) (.len (.proj 15 (.v 0)))) Dx7 Dw3)
def Gb4 : T := .loop 1 [.c (.i .i64 0), .c (.s []), .c (.i .i64 0), .c (.i .i64 0), .c (.b false), .c (.i .u64 0), .c (.i .u64 0), .c (.s []), .c (.s []), .c (.s []), .c (.i .i64 0), .c (.i .i64 0), .c (.i .i64 0), .c (.i .i64 0), .c (.i .i64 0), .c (.i .i64 0), .c (.i .u64 0)] Ey7
def Dv4 : T := (.ret [.agg [.c (.s []), .c (.i .i64 0), .c (.i .i64 0), .c (.b false), .c (.i .u64 0), .c (.i .u64 0), .c (.s []), .c (.s []), .c (.s []), .c (.i .i64 0), .c (.i .i64 0), .c (.i .i64 0), .c (.i .i64 0), .c (.i .i64 0), .c (.i .i64 0), .c (.i .u64 0)], .c (.b false)])
def Bb8 : T := (.w (.chk (.fit 17 (.v 0))) (.blk 0 Gb4 Dv4))
theorem At0 : type_of% (And.intro (tev_eq @Eq2.eq_1) (And.intro (tev_eq @Dh2.eq_1) (And.intro (tev_eq @Dc5.eq_1) (And.intro (tev_eq @Dz2.eq_1) (And.intro (tev_eq @Dx7.eq_1) (And.intro (tev_eq @Dw3.eq_1) (And.intro (tev_eq @Ey7.eq_1) (And.intro (tev_eq @Dv4.eq_1) (tev_eq @Bb8.eq_1))))))))) := (And.intro (tev_eq @Eq2.eq_1) (And.intro (tev_eq @Dh2.eq_1) (And.intro (tev_eq @Dc5.eq_1) (And.intro (tev_eq @Dz2.eq_1) (And.intro (tev_eq @Dx7.eq_1) (And.intro (tev_eq @Dw3.eq_1) (And.intro (tev_eq @Ey7.eq_1) (And.intro (tev_eq @Dv4.eq_1) (tev_eq @Bb8.eq_1)))))))))
def Eq1 : T := (.yld 3 [.ite (.v 4) (.c (.b true)) (.bin .eql (.proj 0 (.idx 1 (.v 2) (.v 5))) (.proj 6 (.idx 16 (.v 0) (.v 3)))), .bin .add (.v 5) (.c (.i .i64 1))])
def Ex9 : T := (.ite (.bin .lss (.v 5) (.len (.v 2))) Eq1 (.yld 2 [.v 4]))
def Gz7 : T := .loop 3 [.ite (.bin .neq (.proj 1 (.idx 16 (.v 0) (.v 3))) (.c (.i .i64 2))) (.c (.b true)) (.bin .neq (.proj 0 (.idx 16 (.v 0) (.v 3))) (.v 1)), .c (.i .i64 0)] Ex9
def Dh1 : T := (.w (.chk (.scal (.proj 6 (.idx 16 (.v 0) (.v 3))))) (.yld 1 [.app 1 (.v 2) (.lit 1 [.proj 6 (.idx 16 (.v 0) (.v 3))]), .bin .add (.v 3) (.c (.i .i64 1))]))
def Dc4 : T := (.yld 1 [.v 2, .bin .add (.v 3) (.c (.i .i64 1))])
def Dz1 : T := (.ite (.un .not (.v 4)) Dh1 Dc4)
def Dx6 : T := (.blk 2 Gz7 Dz1)
def Ey6 : T := (.ite (.bin .lss (.v 3) (.len (.v 0))) Dx6 (.yld 0 [.v 2]))
def Gb3 : T := .loop 1 [.c (.l 1 []), .c (.i .i64 0)] Ey6
def Bb7 : T := (.blk 0 Gb3 (.ret [.v 2]))
theorem Bq0 : type_of% (And.intro (tev_eq @Eq1.eq_1) (And.intro (tev_eq @Ex9.eq_1) (And.intro (tev_eq @Dh1.eq_1) (And.intro (tev_eq @Dc4.eq_1) (And.intro (tev_eq @Dz1.eq_1) (And.intro (tev_eq @Dx6.eq_1) (And.intro (tev_eq @Ey6.eq_1) (tev_eq @Bb7.eq_1)))))))) := (And.intro (tev_eq @Eq1.eq_1) (And.intro (tev_eq @Ex9.eq_1) (And.intro (tev_eq @Dh1.eq_1) (And.intro (tev_eq @Dc4.eq_1) (And.intro (tev_eq @Dz1.eq_1) (And.intro (tev_eq @Dx6.eq_1) (And.intro (tev_eq @Ey6.eq_1) (tev_eq @Bb7.eq_1))))))))
def Eq0 : T := (.w (.chk (.fit 16 (.sub 0 16 (.idx 16 (.v 0) (.v 4))))) (.yld 1 [.app 16 (.v 3) (.lit 16 [.sub 0 16 (.idx 16 (.v 0) (.v 4))]), .bin .add (.v 4) (.c (.i .i64 1))]))
def Dh0 : T := (.yld 1 [.v 3, .bin .add (.v 4) (.c (.i .i64 1))])
def Dc3 : T := (.ite (.ite (.bin .eql (.proj 0 (.idx 16 (.v 0) (.v 4))) (.v 1)) (.bin .eql (.proj 1 (.idx 16 (.v 0) (.v 4))) (.v 2)) (.c (.b false))) Eq0 Dh0)
def Ey5 : T := (.ite (.bin .lss (.v 4) (.len (.v 0))) Dc3 (.yld 0 [.v 3]))
def Gb2 : T := .loop 1 [.c (.l 16 []), .c (.i .i64 0)] Ey5
def Bb6 : T := (.blk 0 Gb2 (.ret [.v 3]))
theorem Cw9 : type_of% (And.intro (tev_eq @Eq0.eq_1) (And.intro (tev_eq @Dh0.eq_1) (And.intro (tev_eq @Dc3.eq_1) (And.intro (tev_eq @Ey5.eq_1) (tev_eq @Bb6.eq_1))))) := (And.intro (tev_eq @Eq0.eq_1) (And.intro (tev_eq @Dh0.eq_1) (And.intro (tev_eq @Dc3.eq_1) (And.intro (tev_eq @Ey5.eq_1) (tev_eq @Bb6.eq_1)))))
def Jp8 : T := (.ite (.ite (.bin .lss (.v 1) (.c (.i .i64 0))) (.c (.b true)) (.bin .gtr (.v 1) (.v 2))) (.yld 0 [.v 2]) (.yld 0 [.v 1]))
def Jn9 : T := (.w (.chk (.idx 1 (.v 5) (.v 6))) (.w (.chk (.scal (.ssl (.v 4) (.c (.i .i64 0)) (.v 8)))) (.yld 1 [.ssl (.v 4) (.v 8) (.slen (.v 4)), .set 1 (.v 5) (.v 6) 0 [.ssl (.v 4) (.c (.i .i64 0)) (.v 8)], .bin .add (.v 6) (.c (.i .i64 1))])))
def Jn0 : T := (.w (.call none true Gy0 [.v 4] 2) Jn9)
def Js9 : T := (.ite (.bin .lss (.v 6) (.bin .sub (.v 3) (.c (.i .i64 1)))) Jn0 (.yld 0 [.v 4, .v 5]))
def Jb3 : T := .loop 1 [.v 0, .rep 1 (.v 3) (.c (.s [])), .c (.i .i64 0)] Js9
def Jm4 : T := (.w (.chk (.idx 1 (.v 5) (.bin .sub (.v 3) (.c (.i .i64 1))))) (.w (.chk (.scal (.v 4))) (.ret [.set 1 (.v 5) (.bin .sub (.v 3) (.c (.i .i64 1))) 0 [.v 4]])))
def Jl8 : T := (.ite (.bin .gtr (.v 3) (.c (.i .i64 0))) Jm4 (.ret [.v 5]))
def Jl2 : T := (.blk 0 Jb3 Jl8)
def Jh6 : T := (.blk 0 Jp8 Jl2)
def Ir4 : T := (.w (.call none true Eg1 [.v 0] 1) Jh6)
def Ek9 : T := (.ret [.bin .add (.v 2) (.c (.i .i64 1))])
def Dg9 : T := (.w (.call none true Eg1 [.v 0] 1) Ek9)
def Dc2 : T := (.w (.call none true Eg0 [.v 0, .sidx (.v 1) (.c (.i .i64 0))] 1) (.ret [.v 2]))
def Dz0 : T := (.yld 1 [.ssl (.v 2) (.bin .add (.v 4) (.slen (.v 1))) (.slen (.v 2)), .bin .add (.v 3) (.c (.i .i64 1))])
def Dx5 : T := (.ite (.bin .eql (.v 4) (.c (.i .i64 (-1)))) (.ret [.v 3]) Dz0)
def Ey4 : T := (.w (.call none true Bl2 [.v 2, .v 1] 1) Dx5)
def Jb2 : T := .loop 1 [.v 0, .c (.i .i64 0)] Ey4
def Dw2 : T := (.blk 0 Jb2 (.ret [.c .u]))
def Dv3 : T := (.ite (.bin .eql (.slen (.v 1)) (.c (.i .i64 1))) Dc2 Dw2)
def Bb5 : T := (.ite (.bin .eql (.slen (.v 1)) (.c (.i .i64 0))) Dg9 Dv3)
theorem Kk4 : type_of% (And.intro (tev_eq @Ek9.eq_1) (And.intro (tev_eq @Dg9.eq_1) (And.intro (tev_eq @Dc2.eq_1) (And.intro (tev_eq @Dz0.eq_1) (And.intro (tev_eq @Dx5.eq_1) (And.intro (tev_eq @Ey4.eq_1) (And.intro (tev_eq @Dw2.eq_1) (And.intro (tev_eq @Dv3.eq_1) (tev_eq @Bb5.eq_1))))))))) := (And.intro (tev_eq @Ek9.eq_1) (And.intro (tev_eq @Dg9.eq_1) (And.intro (tev_eq @Dc2.eq_1) (And.intro (tev_eq @Dz0.eq_1) (And.intro (tev_eq @Dx5.eq_1) (And.intro (tev_eq @Ey4.eq_1) (And.intro (tev_eq @Dw2.eq_1) (And.intro (tev_eq @Dv3.eq_1) (tev_eq @Bb5.eq_1)))))))))
def Bb4 : T := (.w (.call none true Cc9 [.v 0, .v 1] 1) (.ret [.v 2]))
theorem Kk3 : type_of% (tev_eq @Bb4.eq_1) := (tev_eq @Bb4.eq_1)
def Bb3 : T := (.w (.call none true Ef9 [.v 0, .v 1] 1) (.ret [.v 2]))
theorem Kk2 : type_of% (tev_eq @Bb3.eq_1) := (tev_eq @Bb3.eq_1)
def Bb2 : T := (.w (.chk (.fit 16 (.v 0))) (.w (.chk (.ite (.ite (.bin .eql (.proj 0 (.v 0)) (.proj 0 (.v 1))) (.un .not (.bin .eql (.proj 1 (.v 0)) (.proj 1 (.v 1)))) (.c (.b false))) (.bin .eql (.proj 1 (.v 1)) (.c (.i .i64 255))) (.c .u))) (.ret [.ite (.bin .eql (.proj 0 (.v 0)) (.proj 0 (.v 1))) (.ite (.bin .eql (.proj 1 (.v 0)) (.proj 1 (.v 1))) (.c (.b true)) (.bin .eql (.proj 1 (.v 1)) (.c (.i .i64 255)))) (.c (.b false))])))
theorem Kk1 : type_of% (tev_eq @Bb2.eq_1) := (tev_eq @Bb2.eq_1)
def Ek8 : T := (.yld 1 [.bin .add (.bin .add (.v 1) (.proj 0 (.idx 1 (.v 0) (.v 2)))) (.c (.s [46])), .bin .add (.v 2) (.c (.i .i64 1))])
def Ey3 : T := (.ite (.bin .lss (.v 2) (.len (.v 0))) Ek8 (.yld 0 [.v 1]))
def Ct5 : T := .loop 1 [.c (.s []), .c (.i .i64 0)] Ey3
def Dg8 : T := (.blk 0 Ct5 (.ret [.v 1]))
def Bb1 : T := (.ite (.bin .eql (.len (.v 0)) (.c (.i .i64 0))) (.ret [.c (.s [46])]) Dg8)
theorem Ec8 : type_of% (And.intro (tev_eq @Ek8.eq_1) (And.intro (tev_eq @Ey3.eq_1) (And.intro (tev_eq @Dg8.eq_1) (tev_eq @Bb1.eq_1)))) := (And.intro (tev_eq @Ek8.eq_1) (And.intro (tev_eq @Ey3.eq_1) (And.intro (tev_eq @Dg8.eq_1) (tev_eq @Bb1.eq_1))))
def Ir3 : T := (.ret [.scal (.c .u)])
def Jp7 : T := (.ret [.conv .i32 (.sidx (.v 0) (.c (.i .i64 0))), .c (.i .i64 1)])
def Jn8 : T := (.w (.call none true Gx8 [.v 0] 2) (.ret [.v 1, .v 2]))
def Ir2 : T := (.ite (.ite (.bin .neq (.v 0) (.c (.s []))) (.bin .lss (.sidx (.v 0) (.c (.i .i64 0))) (.c (.i .u8 128))) (.c (.b false))) Jp7 Jn8)
def Ek7 : T := (.w (.call none true Cd2 [.v 0, .sidx (.v 1) (.c (.i .i64 0))] 1) (.ret [.v 2]))
def Dg7 : T := (.ite (.bin .geq (.slen (.v 1)) (.slen (.v 0))) (.ret [.c (.i .i64 (-1))]) (.ret [.scal (.c .u)]))
def Dc1 : T := (.ite (.bin .eql (.slen (.v 1)) (.c (.i .i64 1))) Ek7 Dg7)
def Bb0 : T := (.ite (.ite (.bin .eql (.slen (.v 1)) (.c (.i .i64 0))) (.c (.b true)) (.bin .eql (.v 1) (.v 0))) (.ret [.c (.i .i64 0)]) Dc1)
theorem Ip5 : type_of% (And.intro (tev_eq @Ek7.eq_1) (And.intro (tev_eq @Dg7.eq_1) (And.intro (tev_eq @Dc1.eq_1) (tev_eq @Bb0.eq_1)))) := (And.intro (tev_eq @Ek7.eq_1) (And.intro (tev_eq @Dg7.eq_1) (And.intro (tev_eq @Dc1.eq_1) (tev_eq @Bb0.eq_1))))
def Jp6 : T := (.ret [.c (.i .i32 65533), .c (.i .i64 0)])
def Jn7 : T := (.w (.chk (.sidx (.v 0) (.c (.i .i64 0)))) (.ret [.scal (.c .u)]))
def Ir1 : T := (.ite (.bin .lss (.slen (.v 0)) (.c (.i .i64 1))) Jp6 Jn7)
abbrev sg : Nat → Option Nat := (Gz2 [(28, 33), (36, 65), (60, 65), (71, 824633737216), (79, 9), (80, 33), (89, 274877907009), (91, 1099511627795), (104, 1099511628058), (108, 1099511627906), (110, 1099511627907), (160, 1099511627906), (172, 1099511627794), (173, 1099511627795), (174, 1099511627907), (176, 4398046511677), (177, 4398046511678), (178, 4398046511679), (194, 1099511628058), (205, 1099511627906), (206, 1099511627906), (227, 1099511627906), (235, 1099511627794), (249, 1099511627906)])
theorem k_u3 : FOK Go.Proofs.Tryz.prog sg n_u3 ⟨2, 0, t_u3⟩ :=
 ⟨Go.Proofs.Tryz.f3, { loops := [(0, ⟨rg [(4, 1), (10, 8), (59, 84)], [.t 9, .c 20492 0, .c 20492 1, .c 20492 2, .c 20492 3, .c 20492 4, .c 20492 5, .c 20492 6, .c 20492 7, .c 20492 8, .c 20492 9, .c 20492 10, .c 20492 11, .c 20492 12, .c 20492 13, .c 20492 14, .c 20492 15, .c 20492 16, .c 20492 17, .c 20492 18, .c 20492 19, .c 20492 20, .c 20492 21, .c 20492 22, .c 20492 23, .c 20492 24, .c 20492 25, .c 20492 26, .c 20492 27, .c 20492 28, .c 20492 29, .c 20492 30, .c 20492 31, .c 20492 32, .c 20492 33, .c 24588 0, .c 24588 1, .c 24588 2, .c 24588 3, .c 24588 4, .c 24588 5, .c 24588 6, .c 24588 7, .c 24588 8, .c 24588 9, .c 24588 10, .c 24588 11, .c 24588 12, .c 24588 13, .c 24588 14, .c 24588 15, .c 24588 16, .c 24588 17, .c 24588 18, .c 24588 19, .c 24588 20, .c 24588 21, .c 24588 22, .c 24588 23, .c 24588 24, .c 24588 25, .c 24588 26, .c 24588 27, .c 24588 28, .c 24588 29, .c 24588 30, .c 24588 31, .c 24588 32, .c 24588 33]⟩)], blks := [(0, ⟨rg [(4, 1), (9, 9), (59, 84)], [.c 20492 0, .c 20492 1, .c 20492 2, .c 20492 3, .c 20492 4, .c 20492 5, .c 20492 6, .c 20492 7, .c 20492 8, .c 20492 9, .c 20492 10, .c 20492 11, .c 20492 12, .c 20492 13, .c 20492 14, .c 20492 15, .c 20492 16, .c 20492 17, .c 20492 18, .c 20492 19, .c 20492 20, .c 20492 21, .c 20492 22, .c 20492 23, .c 20492 24, .c 20492 25, .c 20492 26, .c 20492 27, .c 20492 28, .c 20492 29, .c 20492 30, .c 20492 31, .c 20492 32, .c 20492 33, .c 24588 0, .c 24588 1, .c 24588 2, .c 24588 3, .c 24588 4, .c 24588 5, .c 24588 6, .c 24588 7, .c 24588 8, .c 24588 9, .c 24588 10, .c 24588 11, .c 24588 12, .c 24588 13, .c 24588 14, .c 24588 15, .c 24588 16, .c 24588 17, .c 24588 18, .c 24588 19, .c 24588 20, .c 24588 21, .c 24588 22, .c 24588 23, .c 24588 24, .c 24588 25, .c 24588 26, .c 24588 27, .c 24588 28, .c 24588 29, .c 24588 30, .c 24588 31, .c 24588 32, .c 24588 33]⟩)] }, by kernel_rfl, by kernel_rfl, by kernel_rfl, Nat.le_of_ble_eq_true (by kernel_rfl), by kernel_rfl, Aj3 (by kernel_rfl)⟩
theorem k_u5 : FOK Go.Proofs.Tryz.prog sg n_u5 ⟨0, 0, t_u5⟩ :=
 ⟨Go.Proofs.Tryz.f5, {  }, by kernel_rfl, by kernel_rfl, by kernel_rfl, Nat.le_of_ble_eq_true (by kernel_rfl), by kernel_rfl, Aj3 (by kernel_rfl)⟩
theorem k_u6 : FOK Go.Proofs.Tryz.prog sg n_u6 ⟨2, 0, t_u6⟩ :=
 ⟨Go.Proofs.Tryz.f6, { loops := [(0, ⟨rg [(4, 1), (35, 14)], [.t 5]⟩), (2, ⟨rg [(4, 1), (49, 43)], [.t 6]⟩)], blks := [(0, ⟨rg [(4, 2), (35, 14)], []⟩), (2, ⟨rg [(4, 1), (6, 1), (49, 43)], []⟩)] }, by kernel_rfl, by kernel_rfl, by kernel_rfl, Nat.le_of_ble_eq_true (by kernel_rfl), by kernel_rfl, Aj3 (by kernel_rfl)⟩
theorem k_u7 : FOK Go.Proofs.Tryz.prog sg n_u7 ⟨4, 0, t_u7⟩ :=
 ⟨Go.Proofs.Tryz.f7, {  }, by kernel_rfl, by kernel_rfl, by kernel_rfl, Nat.le_of_ble_eq_true (by kernel_rfl), by kernel_rfl, Aj3 (by kernel_rfl)⟩
theorem k_u8 : FOK Go.Proofs.Tryz.prog sg n_u8 ⟨4, 0, t_u8⟩ :=
 ⟨Go.Proofs.Tryz.f8, { own := [20486], loops := [(0, ⟨rg [(4, 1), (9, 1), (12, 44)], [.t 11, .ca 20487 5 33311173 33 3]⟩)], blks := [(0, ⟨rg [(4, 1), (9, 1), (11, 45)], [.ca 20487 5 33311173 33 3]⟩)] }, by kernel_rfl, by kernel_rfl, by kernel_rfl, Nat.le_of_ble_eq_true (by kernel_rfl), by kernel_rfl, Aj3 (by kernel_rfl)⟩
theorem k_u9 : FOK Go.Proofs.Tryz.prog sg n_u9 ⟨2, 0, t_u9⟩ :=
 ⟨Go.Proofs.Tryz.f9, { loops := [(0, ⟨rg [(4, 1), (76, 18)], [.t 5]⟩)], blks := [(0, ⟨rg [(4, 2), (76, 18)], []⟩)] }, by kernel_rfl, by kernel_rfl, by kernel_rfl, Nat.le_of_ble_eq_true (by kernel_rfl), by kernel_rfl, Aj3 (by kernel_rfl)⟩
theorem Ls1 : FOK Go.Proofs.Tryz.prog sg Gy8 ⟨1, 0, Fk4⟩ :=
 ⟨Go.Proofs.Tryz.f10, { loops := [(0, ⟨rg [(2, 2), (5, 1), (13, 10)], [.t 12]⟩)], blks := [(0, ⟨rg [(2, 2), (5, 1), (12, 11)], []⟩)] }, by kernel_rfl, by kernel_rfl, by kernel_rfl, Nat.le_of_ble_eq_true (by kernel_rfl), by kernel_rfl, Aj3 (by kernel_rfl)⟩
theorem Ls0 : FOK Go.Proofs.Tryz.prog sg Gy7 ⟨1, 0, Fk3⟩ :=
 ⟨Go.Proofs.Tryz.f11, { loops := [(0, ⟨rg [(2, 2), (8, 21)], [.t 4]⟩)], blks := [(0, ⟨rg [(2, 3), (8, 21)], []⟩)] }, by kernel_rfl, by kernel_rfl, by kernel_rfl, Nat.le_of_ble_eq_true (by kernel_rfl), by kernel_rfl, Aj3 (by kernel_rfl)⟩
theorem Lr9 : FOK Go.Proofs.Tryz.prog sg Gy6 ⟨1, 0, Fk2⟩ :=
 ⟨Go.Proofs.Tryz.f12, {  }, by kernel_rfl, by kernel_rfl, by kernel_rfl, Nat.le_of_ble_eq_true (by kernel_rfl), by kernel_rfl, Aj3 (by kernel_rfl)⟩
theorem Lr8 : FOK Go.Proofs.Tryz.prog sg Gy5 ⟨1, 0, Fk1⟩ :=
 ⟨Go.Proofs.Tryz.f13, {  }, by kernel_rfl, by kernel_rfl, by kernel_rfl, Nat.le_of_ble_eq_true (by kernel_rfl), by kernel_rfl, Aj3 (by kernel_rfl)⟩
theorem Lr7 : FOK Go.Proofs.Tryz.prog sg Ct2 ⟨2, 0, Fk0⟩ :=
 ⟨Go.Proofs.Tryz.f14, {  }, by kernel_rfl, by kernel_rfl, by kernel_rfl, Nat.le_of_ble_eq_true (by kernel_rfl), by kernel_rfl, Aj3 (by kernel_rfl)⟩
theorem Lr6 : FOK Go.Proofs.Tryz.prog sg Gy4 ⟨2, 0, Fj9⟩ :=
 ⟨Go.Proofs.Tryz.f15, { conds := [(32, ⟨rg [(33, 8)], [.c 20482 12, .c 20482 13, .c 24578 0, .c 24578 1, .c 24578 2]⟩), (39, ⟨[40], [.c 24578 0, .c 24578 1, .c 24578 2]⟩)] }, by kernel_rfl, by kernel_rfl, by kernel_rfl, Nat.le_of_ble_eq_true (by kernel_rfl), by kernel_rfl, Aj3 (by kernel_rfl)⟩
theorem Lr5 : FOK Go.Proofs.Tryz.prog sg Gy3 ⟨2, 0, Fj8⟩ :=
 ⟨Go.Proofs.Tryz.f16, { conds := [(32, ⟨rg [(33, 8)], [.c 20482 12, .c 20482 13, .c 24578 0, .c 24578 1, .c 24578 2]⟩), (39, ⟨[40], [.c 24578 0, .c 24578 1, .c 24578 2]⟩)] }, by kernel_rfl, by kernel_rfl, by kernel_rfl, Nat.le_of_ble_eq_true (by kernel_rfl), by kernel_rfl, Aj3 (by kernel_rfl)⟩
theorem Lr4 : FOK Go.Proofs.Tryz.prog sg Fb2 ⟨2, 0, Fj7⟩ :=
 ⟨Go.Proofs.Tryz.f19, {  }, by kernel_rfl, by kernel_rfl, by kernel_rfl, Nat.le_of_ble_eq_true (by kernel_rfl), by kernel_rfl, Aj3 (by kernel_rfl)⟩
theorem Lr3 : FOK Go.Proofs.Tryz.prog sg Gy1 ⟨3, 0, Fj6⟩ :=
 ⟨Go.Proofs.Tryz.f20, {  }, by kernel_rfl, by kernel_rfl, by kernel_rfl, Nat.le_of_ble_eq_true (by kernel_rfl), by kernel_rfl, Aj3 (by kernel_rfl)⟩
theorem Lr2 : FOK Go.Proofs.Tryz.prog sg Cd0 ⟨2, 0, Fj5⟩ :=
 ⟨Go.Proofs.Tryz.f22, { loops := [(0, ⟨rg [(4, 1), (11, 15)], [.t 5]⟩)], blks := [(0, ⟨rg [(4, 2), (11, 15)], []⟩)] }, by kernel_rfl, by kernel_rfl, by kernel_rfl, Nat.le_of_ble_eq_true (by kernel_rfl), by kernel_rfl, Aj3 (by kernel_rfl)⟩
theorem Lr1 : FOK Go.Proofs.Tryz.prog sg Gx9 ⟨0, 0, Fj4⟩ :=
 ⟨Go.Proofs.Tryz.f23, {  }, by kernel_rfl, by kernel_rfl, by kernel_rfl, Nat.le_of_ble_eq_true (by kernel_rfl), by kernel_rfl, Aj3 (by kernel_rfl)⟩
theorem Lr0 : FOK Go.Proofs.Tryz.prog sg Am0 ⟨1, 0, Fj3⟩ :=
 ⟨Go.Proofs.Tryz.f24, { loops := [(0, ⟨rg [(2, 1), (7, 43)], [.t 3]⟩)], blks := [(0, ⟨rg [(2, 2), (7, 43)], []⟩)] }, by kernel_rfl, by kernel_rfl, by kernel_rfl, Nat.le_of_ble_eq_true (by kernel_rfl), by kernel_rfl, Aj3 (by kernel_rfl)⟩
theorem Lp9 : FOK Go.Proofs.Tryz.prog sg Ap0 ⟨2, 0, Fj2⟩ :=
 ⟨Go.Proofs.Tryz.f25, {  }, by kernel_rfl, by kernel_rfl, by kernel_rfl, Nat.le_of_ble_eq_true (by kernel_rfl), by kernel_rfl, Aj3 (by kernel_rfl)⟩
theorem Lp8 : FOK Go.Proofs.Tryz.prog sg Gx7 ⟨1, 0, Fj1⟩ :=
 ⟨Go.Proofs.Tryz.f26, {  }, by kernel_rfl, by kernel_rfl, by kernel_rfl, Nat.le_of_ble_eq_true (by kernel_rfl), by kernel_rfl, Aj3 (by kernel_rfl)⟩
theorem Lp7 : FOK Go.Proofs.Tryz.prog sg Fb1 ⟨1, 0, Fj0⟩ :=
 ⟨Go.Proofs.Tryz.f27, {  }, by kernel_rfl, by kernel_rfl, by kernel_rfl, Nat.le_of_ble_eq_true (by kernel_rfl), by kernel_rfl, Aj3 (by kernel_rfl)⟩
theorem Lp6 : FOK Go.Proofs.Tryz.prog sg Ct1 ⟨1, 0, Et9⟩ :=
 ⟨Go.Proofs.Tryz.f28, { own := [4101] }, by kernel_rfl, by kernel_rfl, by kernel_rfl, Nat.le_of_ble_eq_true (by kernel_rfl), by kernel_rfl, Aj3 (by kernel_rfl)⟩
theorem Lp5 : FOK Go.Proofs.Tryz.prog sg Cc8 ⟨1, 0, Et8⟩ :=
 ⟨Go.Proofs.Tryz.f29, {  }, by kernel_rfl, by kernel_rfl, by kernel_rfl, Nat.le_of_ble_eq_true (by kernel_rfl), by kernel_rfl, Aj3 (by kernel_rfl)⟩
theorem Lp4 : FOK Go.Proofs.Tryz.prog sg Am8 ⟨2, 0, Et7⟩ :=
 ⟨Go.Proofs.Tryz.f30, {  }, by kernel_rfl, by kernel_rfl, by kernel_rfl, Nat.le_of_ble_eq_true (by kernel_rfl), by kernel_rfl, Aj3 (by kernel_rfl)⟩
theorem Lp3 : FOK Go.Proofs.Tryz.prog sg Gx6 ⟨1, 0, Et6⟩ :=
 ⟨Go.Proofs.Tryz.f31, {  }, by kernel_rfl, by kernel_rfl, by kernel_rfl, Nat.le_of_ble_eq_true (by kernel_rfl), by kernel_rfl, Aj3 (by kernel_rfl)⟩
theorem Lp2 : FOK Go.Proofs.Tryz.prog sg Fb0 ⟨1, 0, Et5⟩ :=
 ⟨Go.Proofs.Tryz.f32, { loops := [(0, ⟨rg [(2, 1), (5, 18)], [.ta 3 16000003 9 1, .t 4]⟩)], blks := [(0, ⟨rg [(2, 1), (4, 19)], [.ta 3 16000003 9 1]⟩)] }, by kernel_rfl, by kernel_rfl, by kernel_rfl, Nat.le_of_ble_eq_true (by kernel_rfl), by kernel_rfl, Aj3 (by kernel_rfl)⟩
theorem Lp1 : FOK Go.Proofs.Tryz.prog sg Cc7 ⟨1, 0, Et4⟩ :=
 ⟨Go.Proofs.Tryz.f33, { loops := [(0, ⟨rg [(5, 18)], [.t 3, .c 0 7, .c 1 0, .c 1 1, .c 1 2, .c 1 3, .c 1 4, .c 1 5, .c 1 6, .c 1 7, .c 1 8, .c 1 9, .c 1 10, .c 1 11, .c 1 12, .c 1 13, .c 1 14, .c 1 15, .c 1 16, .c 1 17, .c 1 18, .c 1 19, .c 1 20, .c 1 21, .c 1 22, .c 1 23, .c 1 24, .c 1 25, .c 1 26, .c 1 27, .c 1 28, .c 1 29, .c 1 30, .c 1 31, .c 1 32, .c 1 33]⟩), (2, ⟨rg [(23, 18)], [.t 4, .c 0 7, .c 1 0, .c 1 1, .c 1 2, .c 1 3, .c 1 4, .c 1 5, .c 1 6, .c 1 7, .c 1 8, .c 1 9, .c 1 10, .c 1 11, .c 1 12, .c 1 13, .c 1 14, .c 1 15, .c 1 16, .c 1 17, .c 1 18, .c 1 19, .c 1 20, .c 1 21, .c 1 22, .c 1 23, .c 1 24, .c 1 25, .c 1 26, .c 1 27, .c 1 28, .c 1 29, .c 1 30, .c 1 31, .c 1 32, .c 1 33]⟩)], blks := [(0, ⟨rg [(3, 1), (5, 18)], [.c 0 7, .c 1 0, .c 1 1, .c 1 2, .c 1 3, .c 1 4, .c 1 5, .c 1 6, .c 1 7, .c 1 8, .c 1 9, .c 1 10, .c 1 11, .c 1 12, .c 1 13, .c 1 14, .c 1 15, .c 1 16, .c 1 17, .c 1 18, .c 1 19, .c 1 20, .c 1 21, .c 1 22, .c 1 23, .c 1 24, .c 1 25, .c 1 26, .c 1 27, .c 1 28, .c 1 29, .c 1 30, .c 1 31, .c 1 32, .c 1 33]⟩), (2, ⟨rg [(4, 1), (23, 18)], [.c 0 7, .c 1 0, .c 1 1, .c 1 2, .c 1 3, .c 1 4, .c 1 5, .c 1 6, .c 1 7, .c 1 8, .c 1 9, .c 1 10, .c 1 11, .c 1 12, .c 1 13, .c 1 14, .c 1 15, .c 1 16, .c 1 17, .c 1 18, .c 1 19, .c 1 20, .c 1 21, .c 1 22, .c 1 23, .c 1 24, .c 1 25, .c 1 26, .c 1 27, .c 1 28, .c 1 29, .c 1 30, .c 1 31, .c 1 32, .c 1 33]⟩)] }, by kernel_rfl, by kernel_rfl, by kernel_rfl, Nat.le_of_ble_eq_true (by kernel_rfl), by kernel_rfl, Aj3 (by kernel_rfl)⟩
theorem Lp0 : FOK Go.Proofs.Tryz.prog sg Fz9 ⟨2, 0, Et3⟩ :=
 ⟨Go.Proofs.Tryz.f34, { loops := [(0, ⟨rg [(4, 1), (11, 15)], [.t 5]⟩)], blks := [(0, ⟨rg [(4, 2), (11, 15)], []⟩)] }, by kernel_rfl, by kernel_rfl, by kernel_rfl, Nat.le_of_ble_eq_true (by kernel_rfl), by kernel_rfl, Aj3 (by kernel_rfl)⟩
theorem Ln9 : FOK Go.Proofs.Tryz.prog sg Gx5 ⟨1, 0, Et2⟩ :=
 ⟨Go.Proofs.Tryz.f35, { own := [36865], loops := [(0, ⟨rg [(5, 1), (12, 11)], [.t 3, .t 11]⟩), (2, ⟨rg [(2, 2), (5, 1), (8, 17), (28, 8)], [.ta 6 16000006 65 16, .t 27]⟩)], blks := [(0, ⟨rg [(5, 1), (11, 12)], [.t 3]⟩), (2, ⟨rg [(2, 2), (5, 1), (8, 28)], [.ta 6 16000006 65 16]⟩)], bots := [7] }, by kernel_rfl, by kernel_rfl, by kernel_rfl, Nat.le_of_ble_eq_true (by kernel_rfl), by kernel_rfl, Aj3 (by kernel_rfl)⟩
theorem Ln8 : FOK Go.Proofs.Tryz.prog sg Ct0 ⟨1, 0, Et1⟩ :=
 ⟨Go.Proofs.Tryz.f36, {  }, by kernel_rfl, by kernel_rfl, by kernel_rfl, Nat.le_of_ble_eq_true (by kernel_rfl), by kernel_rfl, Aj3 (by kernel_rfl)⟩
theorem Ln7 : FOK Go.Proofs.Tryz.prog sg Fz8 ⟨2, 0, Et0⟩ :=
 ⟨Go.Proofs.Tryz.f37, {  }, by kernel_rfl, by kernel_rfl, by kernel_rfl, Nat.le_of_ble_eq_true (by kernel_rfl), by kernel_rfl, Aj3 (by kernel_rfl)⟩
theorem Ln6 : FOK Go.Proofs.Tryz.prog sg Gx4 ⟨1, 0, Es9⟩ :=
 ⟨Go.Proofs.Tryz.f38, {  }, by kernel_rfl, by kernel_rfl, by kernel_rfl, Nat.le_of_ble_eq_true (by kernel_rfl), by kernel_rfl, Aj3 (by kernel_rfl)⟩
theorem Ln5 : FOK Go.Proofs.Tryz.prog sg Gx3 ⟨3, 0, Es8⟩ :=
 ⟨Go.Proofs.Tryz.f39, { own := [12290, 45058], loops := [(0, ⟨rg [(4, 1), (8, 19), (30, 28)], [.t 29, .ca 0 5 32000005 33 3]⟩)], blks := [(0, ⟨rg [(4, 1), (8, 50)], [.ca 0 5 32000005 33 3]⟩)] }, by kernel_rfl, by kernel_rfl, by kernel_rfl, Nat.le_of_ble_eq_true (by kernel_rfl), by kernel_rfl, Aj3 (by kernel_rfl)⟩
theorem Ln4 : FOK Go.Proofs.Tryz.prog sg Fz7 ⟨2, 0, Es7⟩ :=
 ⟨Go.Proofs.Tryz.f40, {  }, by kernel_rfl, by kernel_rfl, by kernel_rfl, Nat.le_of_ble_eq_true (by kernel_rfl), by kernel_rfl, Aj3 (by kernel_rfl)⟩
theorem Ln3 : FOK Go.Proofs.Tryz.prog sg Gx2 ⟨2, 0, Es6⟩ :=
 ⟨Go.Proofs.Tryz.f41, {  }, by kernel_rfl, by kernel_rfl, by kernel_rfl, Nat.le_of_ble_eq_true (by kernel_rfl), by kernel_rfl, Aj3 (by kernel_rfl)⟩
theorem Ln2 : FOK Go.Proofs.Tryz.prog sg Gx1 ⟨3, 0, Es5⟩ :=
 ⟨Go.Proofs.Tryz.f42, { conds := [(48, ⟨[49], [.c 0 8]⟩)] }, by kernel_rfl, by kernel_rfl, by kernel_rfl, Nat.le_of_ble_eq_true (by kernel_rfl), by kernel_rfl, Aj3 (by kernel_rfl)⟩
theorem Ln1 : FOK Go.Proofs.Tryz.prog sg Gx0 ⟨1, 0, Es4⟩ :=
 ⟨Go.Proofs.Tryz.f43, {  }, by kernel_rfl, by kernel_rfl, by kernel_rfl, Nat.le_of_ble_eq_true (by kernel_rfl), by kernel_rfl, Aj3 (by kernel_rfl)⟩
theorem Ln0 : FOK Go.Proofs.Tryz.prog sg Gw9 ⟨3, 0, Es3⟩ :=
 ⟨Go.Proofs.Tryz.f44, { loops := [(0, ⟨rg [(10, 39)], [.t 7, .ta 8 16000008 9 1, .t 9]⟩)], blks := [(0, ⟨rg [(9, 40)], [.t 7, .ta 8 16000008 9 1]⟩)] }, by kernel_rfl, by kernel_rfl, by kernel_rfl, Nat.le_of_ble_eq_true (by kernel_rfl), by kernel_rfl, Aj3 (by kernel_rfl)⟩
theorem Lm9 : FOK Go.Proofs.Tryz.prog sg Cc6 ⟨1, 0, Es2⟩ :=
 ⟨Go.Proofs.Tryz.f45, { loops := [(0, ⟨rg [(2, 3), (23, 16)], [.t 22]⟩)], blks := [(0, ⟨rg [(2, 3), (22, 17)], []⟩)] }, by kernel_rfl, by kernel_rfl, by kernel_rfl, Nat.le_of_ble_eq_true (by kernel_rfl), by kernel_rfl, Aj3 (by kernel_rfl)⟩
theorem Lm8 : FOK Go.Proofs.Tryz.prog sg Cc5 ⟨2, 0, Es1⟩ :=
 ⟨Go.Proofs.Tryz.f47, {  }, by kernel_rfl, by kernel_rfl, by kernel_rfl, Nat.le_of_ble_eq_true (by kernel_rfl), by kernel_rfl, Aj3 (by kernel_rfl)⟩
theorem Lm7 : FOK Go.Proofs.Tryz.prog sg Bz1 ⟨2, 0, Es0⟩ :=
 ⟨Go.Proofs.Tryz.f62, {  }, by kernel_rfl, by kernel_rfl, by kernel_rfl, Nat.le_of_ble_eq_true (by kernel_rfl), by kernel_rfl, Aj3 (by kernel_rfl)⟩
theorem Lm6 : FOK Go.Proofs.Tryz.prog sg Gw8 ⟨3, 0, Er9⟩ :=
 ⟨Go.Proofs.Tryz.f63, {  }, by kernel_rfl, by kernel_rfl, by kernel_rfl, Nat.le_of_ble_eq_true (by kernel_rfl), by kernel_rfl, Aj3 (by kernel_rfl)⟩
theorem Lm5 : FOK Go.Proofs.Tryz.prog sg Fz6 ⟨1, 0, Er8⟩ :=
 ⟨Go.Proofs.Tryz.f64, {  }, by kernel_rfl, by kernel_rfl, by kernel_rfl, Nat.le_of_ble_eq_true (by kernel_rfl), by kernel_rfl, Aj3 (by kernel_rfl)⟩
theorem Lm4 : FOK Go.Proofs.Tryz.prog sg Gw7 ⟨2, 0, Er7⟩ :=
 ⟨Go.Proofs.Tryz.f65, {  }, by kernel_rfl, by kernel_rfl, by kernel_rfl, Nat.le_of_ble_eq_true (by kernel_rfl), by kernel_rfl, Aj3 (by kernel_rfl)⟩
theorem Lm3 : FOK Go.Proofs.Tryz.prog sg Gw6 ⟨2, 0, Er6⟩ :=
 ⟨Go.Proofs.Tryz.f66, { own := [57346], loops := [(0, ⟨rg [(3, 1), (6, 3), (10, 1), (12, 22), (37, 30)], [.t 36, .ca 0 5 32000005 33 3]⟩), (2, ⟨rg [(3, 1), (6, 3), (10, 1), (12, 22), (37, 5), (45, 22)], [.t 44, .ca 0 5 32000005 33 3]⟩)], blks := [(0, ⟨rg [(3, 1), (5, 4), (10, 1), (12, 55)], [.ca 0 5 32000005 33 3]⟩), (2, ⟨rg [(3, 1), (6, 3), (10, 1), (12, 22), (37, 30)], [.ca 0 5 32000005 33 3]⟩)] }, by kernel_rfl, by kernel_rfl, by kernel_rfl, Nat.le_of_ble_eq_true (by kernel_rfl), by kernel_rfl, Aj3 (by kernel_rfl)⟩
theorem Lm2 : FOK Go.Proofs.Tryz.prog sg Fz5 ⟨1, 0, Er5⟩ :=
 ⟨Go.Proofs.Tryz.f67, { own := [4098] }, by kernel_rfl, by kernel_rfl, by kernel_rfl, Nat.le_of_ble_eq_true (by kernel_rfl), by kernel_rfl, Aj3 (by kernel_rfl)⟩
theorem Lm1 : FOK Go.Proofs.Tryz.prog sg Cs9 ⟨2, 0, Er4⟩ :=
 ⟨Go.Proofs.Tryz.f68, {  }, by kernel_rfl, by kernel_rfl, by kernel_rfl, Nat.le_of_ble_eq_true (by kernel_rfl), by kernel_rfl, Aj3 (by kernel_rfl)⟩
theorem Lm0 : FOK Go.Proofs.Tryz.prog sg Gw5 ⟨2, 0, Er3⟩ :=
 ⟨Go.Proofs.Tryz.f69, { own := [8194], loops := [(0, ⟨rg [(3, 1), (8, 74)], [.t 7, .c 0 2, .ca 0 15 32000015 65 16]⟩)], blks := [(0, ⟨rg [(3, 1), (5, 77)], [.c 0 2, .ca 0 15 32000015 65 16]⟩)] }, by kernel_rfl, by kernel_rfl, by kernel_rfl, Nat.le_of_ble_eq_true (by kernel_rfl), by kernel_rfl, Aj3 (by kernel_rfl)⟩
theorem Ll9 : FOK Go.Proofs.Tryz.prog sg Cj6 ⟨2, 0, Er2⟩ :=
 ⟨Go.Proofs.Tryz.f70, { loops := [(0, ⟨rg [(8, 1), (10, 1), (30, 28)], [.t 29, .mp 12288]⟩), (2, ⟨rg [(10, 1), (36, 21)], [.t 35, .mp 12288]⟩)], blks := [(0, ⟨rg [(8, 1), (10, 1), (29, 29)], [.mp 12288]⟩), (2, ⟨rg [(10, 1), (35, 22)], [.mp 12288]⟩)] }, by kernel_rfl, by kernel_rfl, by kernel_rfl, Nat.le_of_ble_eq_true (by kernel_rfl), by kernel_rfl, Aj3 (by kernel_rfl)⟩
theorem Ll8 : FOK Go.Proofs.Tryz.prog sg Gw4 ⟨2, 0, Er1⟩ :=
 ⟨Go.Proofs.Tryz.f77, {  }, by kernel_rfl, by kernel_rfl, by kernel_rfl, Nat.le_of_ble_eq_true (by kernel_rfl), by kernel_rfl, Aj3 (by kernel_rfl)⟩
theorem Ll7 : FOK Go.Proofs.Tryz.prog sg Gw3 ⟨1, 0, Er0⟩ :=
 ⟨Go.Proofs.Tryz.f78, { loops := [(0, ⟨rg [(3, 1), (5, 1), (9, 9)], [.t 8, .c 0 0, .c 0 1, .c 0 2]⟩)], blks := [(0, ⟨rg [(3, 1), (5, 1), (8, 10)], [.c 0 0, .c 0 1, .c 0 2]⟩)] }, by kernel_rfl, by kernel_rfl, by kernel_rfl, Nat.le_of_ble_eq_true (by kernel_rfl), by kernel_rfl, Aj3 (by kernel_rfl)⟩
theorem Ll6 : FOK Go.Proofs.Tryz.prog sg Fz4 ⟨1, 0, Ep9⟩ :=
 ⟨Go.Proofs.Tryz.f79, {  }, by kernel_rfl, by kernel_rfl, by kernel_rfl, Nat.le_of_ble_eq_true (by kernel_rfl), by kernel_rfl, Aj3 (by kernel_rfl)⟩
theorem Ll5 : FOK Go.Proofs.Tryz.prog sg Fz3 ⟨1, 0, Ep8⟩ :=
 ⟨Go.Proofs.Tryz.f80, {  }, by kernel_rfl, by kernel_rfl, by kernel_rfl, Nat.le_of_ble_eq_true (by kernel_rfl), by kernel_rfl, Aj3 (by kernel_rfl)⟩
theorem Ll4 : FOK Go.Proofs.Tryz.prog sg Gw2 ⟨2, 0, Ep7⟩ :=
 ⟨Go.Proofs.Tryz.f81, {  }, by kernel_rfl, by kernel_rfl, by kernel_rfl, Nat.le_of_ble_eq_true (by kernel_rfl), by kernel_rfl, Aj3 (by kernel_rfl)⟩
theorem Ll3 : FOK Go.Proofs.Tryz.prog sg Fz2 ⟨1, 1, Ep6⟩ :=
 ⟨Go.Proofs.Tryz.f82, {  }, by kernel_rfl, by kernel_rfl, by kernel_rfl, Nat.le_of_ble_eq_true (by kernel_rfl), by kernel_rfl, Aj3 (by kernel_rfl)⟩
theorem Ll2 : FOK Go.Proofs.Tryz.prog sg Gw1 ⟨2, 0, Ep5⟩ :=
 ⟨Go.Proofs.Tryz.f83, {  }, by kernel_rfl, by kernel_rfl, by kernel_rfl, Nat.le_of_ble_eq_true (by kernel_rfl), by kernel_rfl, Aj3 (by kernel_rfl)⟩
theorem Ll1 : FOK Go.Proofs.Tryz.prog sg Fz1 ⟨1, 1, Ep4⟩ :=
 ⟨Go.Proofs.Tryz.f84, {  }, by kernel_rfl, by kernel_rfl, by kernel_rfl, Nat.le_of_ble_eq_true (by kernel_rfl), by kernel_rfl, Aj3 (by kernel_rfl)⟩
theorem Ll0 : FOK Go.Proofs.Tryz.prog sg Cc4 ⟨1, 0, Ep3⟩ :=
 ⟨Go.Proofs.Tryz.f85, { loops := [(0, ⟨rg [(2, 2), (7, 51)], [.ta 4 16000004 9 1, .t 5, .t 6]⟩)], blks := [(0, ⟨rg [(2, 2), (5, 53)], [.ta 4 16000004 9 1]⟩)] }, by kernel_rfl, by kernel_rfl, by kernel_rfl, Nat.le_of_ble_eq_true (by kernel_rfl), by kernel_rfl, Aj3 (by kernel_rfl)⟩
theorem Lh9 : FOK Go.Proofs.Tryz.prog sg Gw0 ⟨2, 0, Ep2⟩ :=
 ⟨Go.Proofs.Tryz.f86, { loops := [(0, ⟨rg [(6, 31)], [.t 5]⟩)], blks := [(0, ⟨rg [(6, 31)], [.t 5]⟩)] }, by kernel_rfl, by kernel_rfl, by kernel_rfl, Nat.le_of_ble_eq_true (by kernel_rfl), by kernel_rfl, Aj3 (by kernel_rfl)⟩
theorem Lh8 : FOK Go.Proofs.Tryz.prog sg Gv9 ⟨1, 0, Ep1⟩ :=
 ⟨Go.Proofs.Tryz.f87, {  }, by kernel_rfl, by kernel_rfl, by kernel_rfl, Nat.le_of_ble_eq_true (by kernel_rfl), by kernel_rfl, Aj3 (by kernel_rfl)⟩
theorem Lh7 : FOK Go.Proofs.Tryz.prog sg Cj5 ⟨2, 0, Ep0⟩ :=
 ⟨Go.Proofs.Tryz.f88, { loops := [(0, ⟨rg [(4, 1), (6, 12)], [.t 5]⟩)], blks := [(0, ⟨rg [(4, 14)], []⟩)] }, by kernel_rfl, by kernel_rfl, by kernel_rfl, Nat.le_of_ble_eq_true (by kernel_rfl), by kernel_rfl, Aj3 (by kernel_rfl)⟩
theorem Lh6 : FOK Go.Proofs.Tryz.prog sg Gv8 ⟨1048578, 0, En9⟩ :=
 ⟨Go.Proofs.Tryz.f89, { own := [20483, 20488], conds := [(6, ⟨[7], []⟩)], bots := [2, 2, 2, 2, 2, 2, 2, 2, 2, 2, 2] }, by kernel_rfl, by kernel_rfl, by kernel_rfl, Nat.le_of_ble_eq_true (by kernel_rfl), by kernel_rfl, Aj3 (by kernel_rfl)⟩
theorem Lh5 : FOK Go.Proofs.Tryz.prog sg Fz0 ⟨2, 0, En8⟩ :=
 ⟨Go.Proofs.Tryz.f90, {  }, by kernel_rfl, by kernel_rfl, by kernel_rfl, Nat.le_of_ble_eq_true (by kernel_rfl), by kernel_rfl, Aj3 (by kernel_rfl)⟩
theorem Lh4 : FOK Go.Proofs.Tryz.prog sg Gv7 ⟨1048578, 0, En7⟩ :=
 ⟨Go.Proofs.Tryz.f91, { own := [45058, 49154], loops := [(0, ⟨rg [(7, 1), (16, 20)], [.t 5, .t 6, .ac 987654321 9 1]⟩)], blks := [(0, ⟨rg [(6, 2), (16, 20)], [.t 5, .ac 987654321 9 1]⟩)] }, by kernel_rfl, by kernel_rfl, by kernel_rfl, Nat.le_of_ble_eq_true (by kernel_rfl), by kernel_rfl, Aj3 (by kernel_rfl)⟩
theorem Lh3 : FOK Go.Proofs.Tryz.prog sg Fy9 ⟨1, 1, En6⟩ :=
 ⟨Go.Proofs.Tryz.f92, {  }, by kernel_rfl, by kernel_rfl, by kernel_rfl, Nat.le_of_ble_eq_true (by kernel_rfl), by kernel_rfl, Aj3 (by kernel_rfl)⟩
theorem Lh2 : FOK Go.Proofs.Tryz.prog sg Gv6 ⟨3, 0, En5⟩ :=
 ⟨Go.Proofs.Tryz.f93, {  }, by kernel_rfl, by kernel_rfl, by kernel_rfl, Nat.le_of_ble_eq_true (by kernel_rfl), by kernel_rfl, Aj3 (by kernel_rfl)⟩
theorem Lh1 : FOK Go.Proofs.Tryz.prog sg Cs8 ⟨1, 0, En4⟩ :=
 ⟨Go.Proofs.Tryz.f94, {  }, by kernel_rfl, by kernel_rfl, by kernel_rfl, Nat.le_of_ble_eq_true (by kernel_rfl), by kernel_rfl, Aj3 (by kernel_rfl)⟩
theorem Lh0 : FOK Go.Proofs.Tryz.prog sg Gv5 ⟨2, 0, En3⟩ :=
 ⟨Go.Proofs.Tryz.f95, {  }, by kernel_rfl, by kernel_rfl, by kernel_rfl, Nat.le_of_ble_eq_true (by kernel_rfl), by kernel_rfl, Aj3 (by kernel_rfl)⟩
theorem Lg9 : FOK Go.Proofs.Tryz.prog sg Gv4 ⟨2, 0, En2⟩ :=
 ⟨Go.Proofs.Tryz.f96, { loops := [(0, ⟨rg [(28, 18)], [.t 9, .c 0 5]⟩)], blks := [(0, ⟨rg [(9, 1), (28, 18)], [.c 0 5]⟩)] }, by kernel_rfl, by kernel_rfl, by kernel_rfl, Nat.le_of_ble_eq_true (by kernel_rfl), by kernel_rfl, Aj3 (by kernel_rfl)⟩
theorem Lg8 : FOK Go.Proofs.Tryz.prog sg Fy8 ⟨1, 0, En1⟩ :=
 ⟨Go.Proofs.Tryz.f97, {  }, by kernel_rfl, by kernel_rfl, by kernel_rfl, Nat.le_of_ble_eq_true (by kernel_rfl), by kernel_rfl, Aj3 (by kernel_rfl)⟩
theorem Lg7 : FOK Go.Proofs.Tryz.prog sg Fy7 ⟨2, 0, En0⟩ :=
 ⟨Go.Proofs.Tryz.f98, { loops := [(0, ⟨rg [(46, 17)], [.t 7, .t 8]⟩)], blks := [(0, ⟨rg [(8, 1), (46, 17)], [.t 7]⟩)] }, by kernel_rfl, by kernel_rfl, by kernel_rfl, Nat.le_of_ble_eq_true (by kernel_rfl), by kernel_rfl, Aj3 (by kernel_rfl)⟩
theorem Lg6 : FOK Go.Proofs.Tryz.prog sg Cj4 ⟨2, 0, Em9⟩ :=
 ⟨Go.Proofs.Tryz.f99, { loops := [(0, ⟨rg [(7, 55)], [.t 6, .ca 0 16 32000016 65 16]⟩)], blks := [(0, ⟨rg [(5, 57)], [.ca 0 16 32000016 65 16]⟩)] }, by kernel_rfl, by kernel_rfl, by kernel_rfl, Nat.le_of_ble_eq_true (by kernel_rfl), by kernel_rfl, Aj3 (by kernel_rfl)⟩
theorem Kr8 : FOK Go.Proofs.Tryz.prog sg Bn0 ⟨3, 0, Bh0⟩ :=
 ⟨Go.Proofs.Tryz.f100, { loops := [(0, ⟨rg [(6, 1), (9, 38)], [.ta 7 16000007 33 3, .t 8]⟩)], blks := [(0, ⟨rg [(6, 1), (8, 39)], [.ta 7 16000007 33 3]⟩)] }, by kernel_rfl, by kernel_rfl, by kernel_rfl, Nat.le_of_ble_eq_true (by kernel_rfl), by kernel_rfl, Aj3 (by kernel_rfl)⟩
theorem Kr7 : FOK Go.Proofs.Tryz.prog sg Bm9 ⟨2, 0, Bg9⟩ :=
 ⟨Go.Proofs.Tryz.f101, {  }, by kernel_rfl, by kernel_rfl, by kernel_rfl, Nat.le_of_ble_eq_true (by kernel_rfl), by kernel_rfl, Aj3 (by kernel_rfl)⟩
theorem Kr6 : FOK Go.Proofs.Tryz.prog sg Bm8 ⟨2, 0, Bg8⟩ :=
 ⟨Go.Proofs.Tryz.f102, {  }, by kernel_rfl, by kernel_rfl, by kernel_rfl, Nat.le_of_ble_eq_true (by kernel_rfl), by kernel_rfl, Aj3 (by kernel_rfl)⟩
theorem Kr5 : FOK Go.Proofs.Tryz.prog sg Bm7 ⟨1, 0, Bg7⟩ :=
 ⟨Go.Proofs.Tryz.f103, { loops := [(0, ⟨rg [(2, 3), (15, 28)], [.t 14]⟩)], blks := [(0, ⟨rg [(2, 3), (14, 29)], []⟩)] }, by kernel_rfl, by kernel_rfl, by kernel_rfl, Nat.le_of_ble_eq_true (by kernel_rfl), by kernel_rfl, Aj3 (by kernel_rfl)⟩
theorem Kr4 : FOK Go.Proofs.Tryz.prog sg Cg5 ⟨2, 0, Bg6⟩ :=
 ⟨Go.Proofs.Tryz.f106, { loops := [(0, ⟨rg [(4, 2), (9, 10)], [.t 8]⟩)], blks := [(0, ⟨rg [(4, 2), (8, 11)], []⟩)] }, by kernel_rfl, by kernel_rfl, by kernel_rfl, Nat.le_of_ble_eq_true (by kernel_rfl), by kernel_rfl, Aj3 (by kernel_rfl)⟩
theorem Kr3 : FOK Go.Proofs.Tryz.prog sg At7 ⟨3, 0, Bg5⟩ :=
 ⟨Go.Proofs.Tryz.f116, { loops := [(0, ⟨rg [(6, 1), (9, 1), (13, 19)], [.ta 7 16000007 65 16, .t 12]⟩)], blks := [(0, ⟨rg [(6, 1), (9, 23)], [.ta 7 16000007 65 16]⟩)] }, by kernel_rfl, by kernel_rfl, by kernel_rfl, Nat.le_of_ble_eq_true (by kernel_rfl), by kernel_rfl, Aj3 (by kernel_rfl)⟩
theorem Kr2 : FOK Go.Proofs.Tryz.prog sg Cg4 ⟨2, 0, Bg4⟩ :=
 ⟨Go.Proofs.Tryz.f124, { loops := [(0, ⟨rg [(4, 2), (9, 10)], [.t 8]⟩)], blks := [(0, ⟨rg [(4, 2), (8, 11)], []⟩)] }, by kernel_rfl, by kernel_rfl, by kernel_rfl, Nat.le_of_ble_eq_true (by kernel_rfl), by kernel_rfl, Aj3 (by kernel_rfl)⟩
theorem Kr1 : FOK Go.Proofs.Tryz.prog sg Cg3 ⟨2, 0, Bg3⟩ :=
 ⟨Go.Proofs.Tryz.f125, {  }, by kernel_rfl, by kernel_rfl, by kernel_rfl, Nat.le_of_ble_eq_true (by kernel_rfl), by kernel_rfl, Aj3 (by kernel_rfl)⟩
theorem Kr0 : FOK Go.Proofs.Tryz.prog sg Bm6 ⟨1, 0, Bg2⟩ :=
 ⟨Go.Proofs.Tryz.f126, {  }, by kernel_rfl, by kernel_rfl, by kernel_rfl, Nat.le_of_ble_eq_true (by kernel_rfl), by kernel_rfl, Aj3 (by kernel_rfl)⟩
theorem Kp9 : FOK Go.Proofs.Tryz.prog sg Cg2 ⟨1, 0, Bg1⟩ :=
 ⟨Go.Proofs.Tryz.f127, { loops := [(0, ⟨rg [(2, 2), (6, 8), (17, 18)], [.t 16, .ca 20480 1 33310721 5 1]⟩)], blks := [(0, ⟨rg [(2, 2), (6, 29)], [.ca 20480 1 33310721 5 1]⟩)] }, by kernel_rfl, by kernel_rfl, by kernel_rfl, Nat.le_of_ble_eq_true (by kernel_rfl), by kernel_rfl, Aj3 (by kernel_rfl)⟩
theorem Kp8 : FOK Go.Proofs.Tryz.prog sg Bm5 ⟨2, 0, Bg0⟩ :=
 ⟨Go.Proofs.Tryz.f128, {  }, by kernel_rfl, by kernel_rfl, by kernel_rfl, Nat.le_of_ble_eq_true (by kernel_rfl), by kernel_rfl, Aj3 (by kernel_rfl)⟩
theorem Kp7 : FOK Go.Proofs.Tryz.prog sg Cg1 ⟨2, 0, Bf9⟩ :=
 ⟨Go.Proofs.Tryz.f129, { loops := [(0, ⟨rg [(2, 1), (4, 3), (8, 1), (11, 17), (31, 18)], [.ta 9 16000009 9 1, .t 30]⟩)], blks := [(0, ⟨rg [(2, 1), (4, 3), (8, 1), (11, 38)], [.ta 9 16000009 9 1]⟩)] }, by kernel_rfl, by kernel_rfl, by kernel_rfl, Nat.le_of_ble_eq_true (by kernel_rfl), by kernel_rfl, Aj3 (by kernel_rfl)⟩
theorem Kp6 : FOK Go.Proofs.Tryz.prog sg Cg0 ⟨2, 0, Bf8⟩ :=
 ⟨Go.Proofs.Tryz.f130, { loops := [(0, ⟨rg [(4, 2), (8, 1), (10, 7), (20, 22)], [.ta 6 16000006 33 3, .t 19]⟩), (2, ⟨rg [(4, 2), (8, 1), (10, 7), (20, 7), (30, 12)], [.ta 6 16000006 33 3, .t 29]⟩)], blks := [(0, ⟨rg [(2, 4), (8, 1), (10, 32)], [.ta 6 16000006 33 3]⟩), (2, ⟨rg [(4, 2), (8, 1), (10, 7), (20, 22)], [.ta 6 16000006 33 3]⟩)] }, by kernel_rfl, by kernel_rfl, by kernel_rfl, Nat.le_of_ble_eq_true (by kernel_rfl), by kernel_rfl, Aj3 (by kernel_rfl)⟩
theorem Kp5 : FOK Go.Proofs.Tryz.prog sg Cf9 ⟨0, 2, Bf7⟩ :=
 ⟨Go.Proofs.Tryz.f131, {  }, by kernel_rfl, by kernel_rfl, by kernel_rfl, Nat.le_of_ble_eq_true (by kernel_rfl), by kernel_rfl, Aj3 (by kernel_rfl)⟩
theorem Kp4 : FOK Go.Proofs.Tryz.prog sg Bm4 ⟨1, 1, Bf6⟩ :=
 ⟨Go.Proofs.Tryz.f132, {  }, by kernel_rfl, by kernel_rfl, by kernel_rfl, Nat.le_of_ble_eq_true (by kernel_rfl), by kernel_rfl, Aj3 (by kernel_rfl)⟩
theorem Kp3 : FOK Go.Proofs.Tryz.prog sg Bm3 ⟨1, 1, Bf5⟩ :=
 ⟨Go.Proofs.Tryz.f133, {  }, by kernel_rfl, by kernel_rfl, by kernel_rfl, Nat.le_of_ble_eq_true (by kernel_rfl), by kernel_rfl, Aj3 (by kernel_rfl)⟩
theorem Kp2 : FOK Go.Proofs.Tryz.prog sg Ag1 ⟨1, 1, Bf4⟩ :=
 ⟨Go.Proofs.Tryz.f134, {  }, by kernel_rfl, by kernel_rfl, by kernel_rfl, Nat.le_of_ble_eq_true (by kernel_rfl), by kernel_rfl, Aj3 (by kernel_rfl)⟩
theorem Kp1 : FOK Go.Proofs.Tryz.prog sg Bw4 ⟨2, 0, Bf3⟩ :=
 ⟨Go.Proofs.Tryz.f135, { loops := [(0, ⟨rg [(4, 1), (7, 1), (11, 12)], [.ta 5 16000005 65 16, .t 10]⟩)], blks := [(0, ⟨rg [(4, 1), (7, 16)], [.ta 5 16000005 65 16]⟩)] }, by kernel_rfl, by kernel_rfl, by kernel_rfl, Nat.le_of_ble_eq_true (by kernel_rfl), by kernel_rfl, Aj3 (by kernel_rfl)⟩
theorem Kp0 : FOK Go.Proofs.Tryz.prog sg Bm2 ⟨1, 2, Bf2⟩ :=
 ⟨Go.Proofs.Tryz.f136, {  }, by kernel_rfl, by kernel_rfl, by kernel_rfl, Nat.le_of_ble_eq_true (by kernel_rfl), by kernel_rfl, Aj3 (by kernel_rfl)⟩
theorem Kn9 : FOK Go.Proofs.Tryz.prog sg Cf8 ⟨0, 0, Ed7⟩ :=
 ⟨Go.Proofs.Tryz.f137, {  }, by kernel_rfl, by kernel_rfl, by kernel_rfl, Nat.le_of_ble_eq_true (by kernel_rfl), by kernel_rfl, Aj3 (by kernel_rfl)⟩
theorem Kn8 : FOK Go.Proofs.Tryz.prog sg Cf7 ⟨2, 0, Bf1⟩ :=
 ⟨Go.Proofs.Tryz.f138, { loops := [(0, ⟨rg [(4, 2), (9, 10)], [.t 8]⟩)], blks := [(0, ⟨rg [(4, 2), (8, 11)], []⟩)] }, by kernel_rfl, by kernel_rfl, by kernel_rfl, Nat.le_of_ble_eq_true (by kernel_rfl), by kernel_rfl, Aj3 (by kernel_rfl)⟩
theorem Kn7 : FOK Go.Proofs.Tryz.prog sg Bm1 ⟨2, 0, Bf0⟩ :=
 ⟨Go.Proofs.Tryz.f139, { loops := [(0, ⟨rg [(4, 2), (9, 10)], [.t 8]⟩)], blks := [(0, ⟨rg [(4, 2), (8, 11)], []⟩)] }, by kernel_rfl, by kernel_rfl, by kernel_rfl, Nat.le_of_ble_eq_true (by kernel_rfl), by kernel_rfl, Aj3 (by kernel_rfl)⟩
theorem Kn6 : FOK Go.Proofs.Tryz.prog sg Cf6 ⟨1, 0, Bd9⟩ :=
 ⟨Go.Proofs.Tryz.f140, { loops := [(0, ⟨rg [(2, 1), (4, 1), (15, 32)], [.t 3]⟩)], blks := [(0, ⟨rg [(2, 3), (15, 32)], []⟩)] }, by kernel_rfl, by kernel_rfl, by kernel_rfl, Nat.le_of_ble_eq_true (by kernel_rfl), by kernel_rfl, Aj3 (by kernel_rfl)⟩
theorem Kn5 : FOK Go.Proofs.Tryz.prog sg Cf5 ⟨2, 0, Bd8⟩ :=
 ⟨Go.Proofs.Tryz.f141, { loops := [(0, ⟨rg [(4, 2), (9, 10)], [.t 8]⟩)], blks := [(0, ⟨rg [(4, 2), (8, 11)], []⟩)] }, by kernel_rfl, by kernel_rfl, by kernel_rfl, Nat.le_of_ble_eq_true (by kernel_rfl), by kernel_rfl, Aj3 (by kernel_rfl)⟩
theorem Kn4 : FOK Go.Proofs.Tryz.prog sg Bw3 ⟨1, 0, Bd7⟩ :=
 ⟨Go.Proofs.Tryz.f142, {  }, by kernel_rfl, by kernel_rfl, by kernel_rfl, Nat.le_of_ble_eq_true (by kernel_rfl), by kernel_rfl, Aj3 (by kernel_rfl)⟩
theorem Kn3 : FOK Go.Proofs.Tryz.prog sg Cf4 ⟨2, 0, Bd6⟩ :=
 ⟨Go.Proofs.Tryz.f143, { loops := [(0, ⟨rg [(7, 2), (10, 17)], [.t 5, .t 6]⟩)], blks := [(0, ⟨rg [(6, 3), (10, 17)], [.t 5]⟩)] }, by kernel_rfl, by kernel_rfl, by kernel_rfl, Nat.le_of_ble_eq_true (by kernel_rfl), by kernel_rfl, Aj3 (by kernel_rfl)⟩
theorem Kn2 : FOK Go.Proofs.Tryz.prog sg Bm0 ⟨2, 0, Bd5⟩ :=
 ⟨Go.Proofs.Tryz.f144, {  }, by kernel_rfl, by kernel_rfl, by kernel_rfl, Nat.le_of_ble_eq_true (by kernel_rfl), by kernel_rfl, Aj3 (by kernel_rfl)⟩
theorem Kn1 : FOK Go.Proofs.Tryz.prog sg Cf3 ⟨2, 0, Bd4⟩ :=
 ⟨Go.Proofs.Tryz.f145, {  }, by kernel_rfl, by kernel_rfl, by kernel_rfl, Nat.le_of_ble_eq_true (by kernel_rfl), by kernel_rfl, Aj3 (by kernel_rfl)⟩
theorem Kn0 : FOK Go.Proofs.Tryz.prog sg Cf2 ⟨2, 0, Bd3⟩ :=
 ⟨Go.Proofs.Tryz.f146, { loops := [(0, ⟨rg [(7, 1), (13, 39)], [.t 5, .t 6]⟩), (2, ⟨rg [(4, 4), (10, 71)], [.ta 8 16000008 33 3, .t 9]⟩), (4, ⟨rg [(4, 4), (10, 1), (13, 68)], [.ta 8 16000008 33 3, .t 12]⟩)], blks := [(0, ⟨rg [(6, 2), (13, 39)], [.t 5]⟩), (2, ⟨rg [(2, 1), (4, 4), (9, 72)], [.ta 8 16000008 33 3]⟩), (4, ⟨rg [(4, 4), (10, 71)], [.ta 8 16000008 33 3]⟩)], conds := [(59, ⟨[], [.t 10]⟩)] }, by kernel_rfl, by kernel_rfl, by kernel_rfl, Nat.le_of_ble_eq_true (by kernel_rfl), by kernel_rfl, Aj3 (by kernel_rfl)⟩
theorem Km9 : FOK Go.Proofs.Tryz.prog sg Cf1 ⟨2, 0, Bd2⟩ :=
 ⟨Go.Proofs.Tryz.f147, { loops := [(0, ⟨rg [(4, 1), (8, 56)], [.ta 5 16000005 65 16, .t 6, .t 7]⟩), (2, ⟨rg [(4, 1), (19, 29)], [.t 9]⟩)], blks := [(0, ⟨rg [(3, 2), (6, 58)], [.ta 5 16000005 65 16]⟩), (2, ⟨rg [(4, 1), (9, 1), (19, 29)], []⟩)] }, by kernel_rfl, by kernel_rfl, by kernel_rfl, Nat.le_of_ble_eq_true (by kernel_rfl), by kernel_rfl, Aj3 (by kernel_rfl)⟩
theorem Km8 : FOK Go.Proofs.Tryz.prog sg Bw2 ⟨2, 0, Bd1⟩ :=
 ⟨Go.Proofs.Tryz.f148, { loops := [(0, ⟨rg [(4, 1), (7, 21)], [.ta 5 16000005 65 16, .t 6]⟩)], blks := [(0, ⟨rg [(4, 1), (6, 22)], [.ta 5 16000005 65 16]⟩)] }, by kernel_rfl, by kernel_rfl, by kernel_rfl, Nat.le_of_ble_eq_true (by kernel_rfl), by kernel_rfl, Aj3 (by kernel_rfl)⟩
theorem Km7 : FOK Go.Proofs.Tryz.prog sg Bl9 ⟨2, 0, Bd0⟩ :=
 ⟨Go.Proofs.Tryz.f149, { loops := [(0, ⟨rg [(4, 1), (6, 32)], [.t 5]⟩)], blks := [(0, ⟨rg [(4, 34)], []⟩)] }, by kernel_rfl, by kernel_rfl, by kernel_rfl, Nat.le_of_ble_eq_true (by kernel_rfl), by kernel_rfl, Aj3 (by kernel_rfl)⟩
theorem Km6 : FOK Go.Proofs.Tryz.prog sg Cf0 ⟨2, 0, Bc9⟩ :=
 ⟨Go.Proofs.Tryz.f150, {  }, by kernel_rfl, by kernel_rfl, by kernel_rfl, Nat.le_of_ble_eq_true (by kernel_rfl), by kernel_rfl, Aj3 (by kernel_rfl)⟩
theorem Km5 : FOK Go.Proofs.Tryz.prog sg Cd9 ⟨4, 0, Bc8⟩ :=
 ⟨Go.Proofs.Tryz.f151, { loops := [(0, ⟨rg [(8, 1), (11, 55)], [.t 0, .ta 9 16000009 9 1, .t 10]⟩)], blks := [(0, ⟨rg [(3, 1), (8, 1), (11, 55)], [.t 0, .ta 9 16000009 9 1, .t 10]⟩)], conds := [(20, ⟨rg [(21, 4)], [.t 3]⟩)] }, by kernel_rfl, by kernel_rfl, by kernel_rfl, Nat.le_of_ble_eq_true (by kernel_rfl), by kernel_rfl, Aj3 (by kernel_rfl)⟩
theorem Km4 : FOK Go.Proofs.Tryz.prog sg Cd8 ⟨1, 0, Bc7⟩ :=
 ⟨Go.Proofs.Tryz.f179, { loops := [(0, ⟨rg [(2, 2), (6, 35)], [.ta 4 16000004 9 1, .c 8194 0]⟩)], blks := [(0, ⟨rg [(1, 3), (6, 35)], [.ta 4 16000004 9 1, .c 8194 0]⟩)] }, by kernel_rfl, by kernel_rfl, by kernel_rfl, Nat.le_of_ble_eq_true (by kernel_rfl), by kernel_rfl, Aj3 (by kernel_rfl)⟩
theorem Km3 : FOK Go.Proofs.Tryz.prog sg Bl8 ⟨3, 0, Bc6⟩ :=
 ⟨Go.Proofs.Tryz.f180, { loops := [(0, ⟨rg [(7, 1), (9, 1), (14, 33)], [.t 13, .c 1 0, .c 1 1, .c 1 2, .c 1 3, .c 1 4, .c 1 5, .c 1 6, .c 1 7, .c 1 8, .c 1 9, .c 1 10, .c 1 11, .c 1 12, .c 1 13, .c 1 14, .c 1 15]⟩)], blks := [(0, ⟨rg [(7, 1), (9, 1), (13, 34)], [.c 1 0, .c 1 1, .c 1 2, .c 1 3, .c 1 4, .c 1 5, .c 1 6, .c 1 7, .c 1 8, .c 1 9, .c 1 10, .c 1 11, .c 1 12, .c 1 13, .c 1 14, .c 1 15]⟩)] }, by kernel_rfl, by kernel_rfl, by kernel_rfl, Nat.le_of_ble_eq_true (by kernel_rfl), by kernel_rfl, Aj3 (by kernel_rfl)⟩
theorem Km2 : FOK Go.Proofs.Tryz.prog sg Bl7 ⟨2, 0, Bc5⟩ :=
 ⟨Go.Proofs.Tryz.f181, {  }, by kernel_rfl, by kernel_rfl, by kernel_rfl, Nat.le_of_ble_eq_true (by kernel_rfl), by kernel_rfl, Aj3 (by kernel_rfl)⟩
theorem Km1 : FOK Go.Proofs.Tryz.prog sg Bl6 ⟨2, 0, Bc4⟩ :=
 ⟨Go.Proofs.Tryz.f182, {  }, by kernel_rfl, by kernel_rfl, by kernel_rfl, Nat.le_of_ble_eq_true (by kernel_rfl), by kernel_rfl, Aj3 (by kernel_rfl)⟩
theorem Km0 : FOK Go.Proofs.Tryz.prog sg Bl5 ⟨1, 2, Bc3⟩ :=
 ⟨Go.Proofs.Tryz.f183, {  }, by kernel_rfl, by kernel_rfl, by kernel_rfl, Nat.le_of_ble_eq_true (by kernel_rfl), by kernel_rfl, Aj3 (by kernel_rfl)⟩
theorem Kl9 : FOK Go.Proofs.Tryz.prog sg Cd7 ⟨1, 0, Bc2⟩ :=
 ⟨Go.Proofs.Tryz.f184, {  }, by kernel_rfl, by kernel_rfl, by kernel_rfl, Nat.le_of_ble_eq_true (by kernel_rfl), by kernel_rfl, Aj3 (by kernel_rfl)⟩
theorem Kl8 : FOK Go.Proofs.Tryz.prog sg Cd6 ⟨2, 0, Bc1⟩ :=
 ⟨Go.Proofs.Tryz.f185, { loops := [(0, ⟨rg [(4, 2), (9, 33)], [.ta 6 16000006 9 1, .t 7, .t 8]⟩)], blks := [(0, ⟨rg [(3, 3), (8, 34)], [.ta 6 16000006 9 1, .t 7]⟩)] }, by kernel_rfl, by kernel_rfl, by kernel_rfl, Nat.le_of_ble_eq_true (by kernel_rfl), by kernel_rfl, Aj3 (by kernel_rfl)⟩
theorem Kl7 : FOK Go.Proofs.Tryz.prog sg Bl4 ⟨3, 0, Bc0⟩ :=
 ⟨Go.Proofs.Tryz.f186, { loops := [(0, ⟨rg [(6, 1), (8, 26)], [.t 7]⟩)], blks := [(0, ⟨rg [(6, 28)], []⟩)] }, by kernel_rfl, by kernel_rfl, by kernel_rfl, Nat.le_of_ble_eq_true (by kernel_rfl), by kernel_rfl, Aj3 (by kernel_rfl)⟩
theorem Kl6 : FOK Go.Proofs.Tryz.prog sg Cd5 ⟨1, 0, Bb9⟩ :=
 ⟨Go.Proofs.Tryz.f187, { loops := [(0, ⟨rg [(3, 1), (5, 31)], [.t 4, .c 1 0, .c 1 1, .c 1 2, .c 1 3, .c 1 4, .c 1 5, .c 1 6, .c 1 7, .c 1 8, .c 1 9, .c 1 10, .c 1 11, .c 1 12, .c 1 13, .c 1 14, .c 1 15]⟩)], blks := [(0, ⟨rg [(3, 33)], [.c 1 0, .c 1 1, .c 1 2, .c 1 3, .c 1 4, .c 1 5, .c 1 6, .c 1 7, .c 1 8, .c 1 9, .c 1 10, .c 1 11, .c 1 12, .c 1 13, .c 1 14, .c 1 15]⟩)] }, by kernel_rfl, by kernel_rfl, by kernel_rfl, Nat.le_of_ble_eq_true (by kernel_rfl), by kernel_rfl, Aj3 (by kernel_rfl)⟩
theorem Kl5 : FOK Go.Proofs.Tryz.prog sg Bl3 ⟨2, 0, Bb8⟩ :=
 ⟨Go.Proofs.Tryz.f188, { loops := [(0, ⟨rg [(5, 1), (7, 37)], [.t 6, .c 1 0, .c 1 1, .c 1 2, .c 1 3, .c 1 4, .c 1 5, .c 1 6, .c 1 7, .c 1 8, .c 1 9, .c 1 10, .c 1 11, .c 1 12, .c 1 13, .c 1 14, .c 1 15]⟩)], blks := [(0, ⟨rg [(5, 39)], [.c 1 0, .c 1 1, .c 1 2, .c 1 3, .c 1 4, .c 1 5, .c 1 6, .c 1 7, .c 1 8, .c 1 9, .c 1 10, .c 1 11, .c 1 12, .c 1 13, .c 1 14, .c 1 15]⟩)] }, by kernel_rfl, by kernel_rfl, by kernel_rfl, Nat.le_of_ble_eq_true (by kernel_rfl), by kernel_rfl, Aj3 (by kernel_rfl)⟩
theorem Kl4 : FOK Go.Proofs.Tryz.prog sg Cd4 ⟨2, 0, Bb7⟩ :=
 ⟨Go.Proofs.Tryz.f189, { loops := [(0, ⟨rg [(4, 1), (7, 55)], [.ta 5 16000005 9 1, .t 6]⟩), (2, ⟨rg [(30, 20)], [.t 7, .t 8]⟩)], blks := [(0, ⟨rg [(4, 1), (6, 56)], [.ta 5 16000005 9 1]⟩), (2, ⟨rg [(8, 1), (30, 20)], [.t 7]⟩)] }, by kernel_rfl, by kernel_rfl, by kernel_rfl, Nat.le_of_ble_eq_true (by kernel_rfl), by kernel_rfl, Aj3 (by kernel_rfl)⟩
theorem Kl3 : FOK Go.Proofs.Tryz.prog sg Bw1 ⟨3, 0, Bb6⟩ :=
 ⟨Go.Proofs.Tryz.f190, { loops := [(0, ⟨rg [(6, 1), (9, 30)], [.ta 7 16000007 65 16, .t 8]⟩)], blks := [(0, ⟨rg [(6, 1), (8, 31)], [.ta 7 16000007 65 16]⟩)] }, by kernel_rfl, by kernel_rfl, by kernel_rfl, Nat.le_of_ble_eq_true (by kernel_rfl), by kernel_rfl, Aj3 (by kernel_rfl)⟩
theorem Kl2 : FOK Go.Proofs.Tryz.prog sg Gy2 ⟨2, 0, Ir4⟩ :=
 ⟨Go.Proofs.Tryz.f191, { loops := [(0, ⟨rg [(4, 2), (8, 42)], [.t 0, .ta 6 16000006 9 1, .t 7]⟩)], blks := [(0, ⟨rg [(4, 2), (7, 43)], [.t 0, .ta 6 16000006 9 1]⟩)], conds := [(18, ⟨[19], [.t 1]⟩)] }, by kernel_rfl, by kernel_rfl, by kernel_rfl, Nat.le_of_ble_eq_true (by kernel_rfl), by kernel_rfl, Aj3 (by kernel_rfl)⟩
theorem Kl1 : FOK Go.Proofs.Tryz.prog sg Cd3 ⟨2, 0, Bb5⟩ :=
 ⟨Go.Proofs.Tryz.f192, { loops := [(0, ⟨rg [(4, 1), (6, 1), (20, 14)], [.t 0, .t 5]⟩)], blks := [(0, ⟨rg [(0, 1), (4, 3), (20, 14)], []⟩)] }, by kernel_rfl, by kernel_rfl, by kernel_rfl, Nat.le_of_ble_eq_true (by kernel_rfl), by kernel_rfl, Aj3 (by kernel_rfl)⟩
theorem Kl0 : FOK Go.Proofs.Tryz.prog sg Bl2 ⟨2, 0, Bb4⟩ :=
 ⟨Go.Proofs.Tryz.f193, {  }, by kernel_rfl, by kernel_rfl, by kernel_rfl, Nat.le_of_ble_eq_true (by kernel_rfl), by kernel_rfl, Aj3 (by kernel_rfl)⟩
theorem Kh9 : FOK Go.Proofs.Tryz.prog sg Cd2 ⟨2, 0, Bb3⟩ :=
 ⟨Go.Proofs.Tryz.f211, {  }, by kernel_rfl, by kernel_rfl, by kernel_rfl, Nat.le_of_ble_eq_true (by kernel_rfl), by kernel_rfl, Aj3 (by kernel_rfl)⟩
theorem Kh8 : FOK Go.Proofs.Tryz.prog sg Bl1 ⟨1, 1, Bb2⟩ :=
 ⟨Go.Proofs.Tryz.f215, {  }, by kernel_rfl, by kernel_rfl, by kernel_rfl, Nat.le_of_ble_eq_true (by kernel_rfl), by kernel_rfl, Aj3 (by kernel_rfl)⟩
theorem Kh7 : FOK Go.Proofs.Tryz.prog sg Cd1 ⟨1, 0, Bb1⟩ :=
 ⟨Go.Proofs.Tryz.f216, { loops := [(0, ⟨rg [(8, 13)], [.t 3, .t 4]⟩)], blks := [(0, ⟨rg [(4, 1), (8, 13)], [.t 3]⟩)] }, by kernel_rfl, by kernel_rfl, by kernel_rfl, Nat.le_of_ble_eq_true (by kernel_rfl), by kernel_rfl, Aj3 (by kernel_rfl)⟩
theorem Kh6 : FOK Go.Proofs.Tryz.prog sg Eg1 ⟨1, 0, Ir3⟩ :=
 ⟨Go.Proofs.Tryz.f217, { loops := [(0, ⟨rg [(5, 4)], [.t 2]⟩)], blks := [(0, ⟨rg [(5, 4)], [.t 2]⟩)], bots := [1] }, by kernel_rfl, by kernel_rfl, by kernel_rfl, Nat.le_of_ble_eq_true (by kernel_rfl), by kernel_rfl, Aj3 (by kernel_rfl)⟩
theorem Kh5 : FOK Go.Proofs.Tryz.prog sg Gy0 ⟨1, 0, Ir2⟩ :=
 ⟨Go.Proofs.Tryz.f218, {  }, by kernel_rfl, by kernel_rfl, by kernel_rfl, Nat.le_of_ble_eq_true (by kernel_rfl), by kernel_rfl, Aj3 (by kernel_rfl)⟩
theorem Kh4 : FOK Go.Proofs.Tryz.prog sg Cc9 ⟨2, 0, Bb0⟩ :=
 ⟨Go.Proofs.Tryz.f220, { loops := [(1, ⟨rg [(4, 1), (11, 3), (57, 86)], [.t 8, .t 10]⟩)], blks := [(1, ⟨rg [(4, 1), (8, 1), (10, 4), (57, 86)], []⟩)], conds := [(64, ⟨rg [(4, 1), (11, 1), (65, 13)], [.t 8]⟩)], bots := [8] }, by kernel_rfl, by kernel_rfl, by kernel_rfl, Nat.le_of_ble_eq_true (by kernel_rfl), by kernel_rfl, Aj3 (by kernel_rfl)⟩
theorem Kh3 : FOK Go.Proofs.Tryz.prog sg Gx8 ⟨1, 0, Ir1⟩ :=
 ⟨Go.Proofs.Tryz.f244, { bots := [5] }, by kernel_rfl, by kernel_rfl, by kernel_rfl, Nat.le_of_ble_eq_true (by kernel_rfl), by kernel_rfl, Aj3 (by kernel_rfl)⟩
def tabL : List (Nat × FT) := [(n_u3, ⟨2, 0, t_u3⟩), (n_u5, ⟨0, 0, t_u5⟩), (n_u6, ⟨2, 0, t_u6⟩), (n_u7, ⟨4, 0, t_u7⟩), (n_u8, ⟨4, 0, t_u8⟩), (n_u9, ⟨2, 0, t_u9⟩), (Gy8, ⟨1, 0, Fk4⟩), (Gy7, ⟨1, 0, Fk3⟩), (Gy6, ⟨1, 0, Fk2⟩), (Gy5, ⟨1, 0, Fk1⟩), (Ct2, ⟨2, 0, Fk0⟩), (Gy4, ⟨2, 0, Fj9⟩), (Gy3, ⟨2, 0, Fj8⟩), (Fb2, ⟨2, 0, Fj7⟩), (Gy1, ⟨3, 0, Fj6⟩), (Cd0, ⟨2, 0, Fj5⟩), (Gx9, ⟨0, 0, Fj4⟩), (Am0, ⟨1, 0, Fj3⟩), (Ap0, ⟨2, 0, Fj2⟩), (Gx7, ⟨1, 0, Fj1⟩), (Fb1, ⟨1, 0, Fj0⟩), (Ct1, ⟨1, 0, Et9⟩), (Cc8, ⟨1, 0, Et8⟩), (Am8, ⟨2, 0, Et7⟩), (Gx6, ⟨1, 0, Et6⟩), (Fb0, ⟨1, 0, Et5⟩), (Cc7, ⟨1, 0, Et4⟩), (Fz9, ⟨2, 0, Et3⟩), (Gx5, ⟨1, 0, Et2⟩), (Ct0, ⟨1, 0, Et1⟩), (Fz8, ⟨2, 0, Et0⟩), (Gx4, ⟨1, 0, Es9⟩), (Gx3, ⟨3, 0, Es8⟩), (Fz7, ⟨2, 0, Es7⟩), (Gx2, ⟨2, 0, Es6⟩), (Gx1, ⟨3, 0, Es5⟩), (Gx0, ⟨1, 0, Es4⟩), (Gw9, ⟨3, 0, Es3⟩), (Cc6, ⟨1, 0, Es2⟩), (Cc5, ⟨2, 0, Es1⟩), (Bz1, ⟨2, 0, Es0⟩), (Gw8, ⟨3, 0, Er9⟩), (Fz6, ⟨1, 0, Er8⟩), (Gw7, ⟨2, 0, Er7⟩), (Gw6, ⟨2, 0, Er6⟩), (Fz5, ⟨1, 0, Er5⟩), (Cs9, ⟨2, 0, Er4⟩), (Gw5, ⟨2, 0, Er3⟩), (Cj6, ⟨2, 0, Er2⟩), (Gw4, ⟨2, 0, Er1⟩), (Gw3, ⟨1, 0, Er0⟩), (Fz4, ⟨1, 0, Ep9⟩), (Fz3, ⟨1, 0, Ep8⟩), (Gw2, ⟨2, 0, Ep7⟩), (Fz2, ⟨1, 1, Ep6⟩), (Gw1, ⟨2, 0, Ep5⟩), (Fz1, ⟨1, 1, Ep4⟩), (Cc4, ⟨1, 0, Ep3⟩), (Gw0, ⟨2, 0, Ep2⟩), (Gv9, ⟨1, 0, Ep1⟩), (Cj5, ⟨2, 0, Ep0⟩), (Gv8, ⟨1048578, 0, En9⟩), (Fz0, ⟨2, 0, En8⟩), (Gv7, ⟨1048578, 0, En7⟩), (Fy9, ⟨1, 1, En6⟩), (Gv6, ⟨3, 0, En5⟩), (Cs8, ⟨1, 0, En4⟩), (Gv5, ⟨2, 0, En3⟩), (Gv4, ⟨2, 0, En2⟩), (Fy8, ⟨1, 0, En1⟩), (Fy7, ⟨2, 0, En0⟩), (Cj4, ⟨2, 0, Em9⟩), (Bn0, ⟨3, 0, Bh0⟩), (Bm9, ⟨2, 0, Bg9⟩), (Bm8, ⟨2, 0, Bg8⟩), (Bm7, ⟨1, 0, Bg7⟩), (Cg5, ⟨2, 0, Bg6⟩), (At7, ⟨3, 0, Bg5⟩), (Cg4, ⟨2, 0, Bg4⟩), (Cg3, ⟨2, 0, Bg3⟩), (Bm6, ⟨1, 0, Bg2⟩), (Cg2, ⟨1, 0, Bg1⟩), (Bm5, ⟨2, 0, Bg0⟩), (Cg1, ⟨2, 0, Bf9⟩), (Cg0, ⟨2, 0, Bf8⟩), (Cf9, ⟨0, 2, Bf7⟩), (Bm4, ⟨1, 1, Bf6⟩), (Bm3, ⟨1, 1, Bf5⟩), (Ag1, ⟨1, 1, Bf4⟩), (Bw4, ⟨2, 0, Bf3⟩), (Bm2, ⟨1, 2, Bf2⟩), (Cf8, ⟨0, 0, Ed7⟩), (Cf7, ⟨2, 0, Bf1⟩), (Bm1, ⟨2, 0, Bf0⟩), (Cf6, ⟨1, 0, Bd9⟩), (Cf5, ⟨2, 0, Bd8⟩), (Bw3, ⟨1, 0, Bd7⟩), (Cf4, ⟨2, 0, Bd6⟩), (Bm0, ⟨2, 0, Bd5⟩), (Cf3, ⟨2, 0, Bd4⟩), (Cf2, ⟨2, 0, Bd3⟩), (Cf1, ⟨2, 0, Bd2⟩), (Bw2, ⟨2, 0, Bd1⟩), (Bl9, ⟨2, 0, Bd0⟩), (Cf0, ⟨2, 0, Bc9⟩), (Cd9, ⟨4, 0, Bc8⟩), (Cd8, ⟨1, 0, Bc7⟩), (Bl8, ⟨3, 0, Bc6⟩), (Bl7, ⟨2, 0, Bc5⟩), (Bl6, ⟨2, 0, Bc4⟩), (Bl5, ⟨1, 2, Bc3⟩), (Cd7, ⟨1, 0, Bc2⟩), (Cd6, ⟨2, 0, Bc1⟩), (Bl4, ⟨3, 0, Bc0⟩), (Cd5, ⟨1, 0, Bb9⟩), (Bl3, ⟨2, 0, Bb8⟩), (Cd4, ⟨2, 0, Bb7⟩), (Bw1, ⟨3, 0, Bb6⟩), (Gy2, ⟨2, 0, Ir4⟩), (Cd3, ⟨2, 0, Bb5⟩), (Bl2, ⟨2, 0, Bb4⟩), (Cd2, ⟨2, 0, Bb3⟩), (Bl1, ⟨1, 1, Bb2⟩), (Cd1, ⟨1, 0, Bb1⟩), (Eg1, ⟨1, 0, Ir3⟩), (Gy0, ⟨1, 0, Ir2⟩), (Cc9, ⟨2, 0, Bb0⟩), (Gx8, ⟨1, 0, Ir1⟩)]
def tab : Nat → Option FT := lkF tabL
theorem Kq9 : Tab Go.Proofs.Tryz.prog sg tab := Kv0 tabL ⟨k_u3, k_u5, k_u6, k_u7, k_u8, k_u9, Ls1, Ls0, Lr9, Lr8, Lr7, Lr6, Lr5, Lr4, Lr3, Lr2, Lr1, Lr0, Lp9, Lp8, Lp7, Lp6, Lp5, Lp4, Lp3, Lp2, Lp1, Lp0, Ln9, Ln8, Ln7, Ln6, Ln5, Ln4, Ln3, Ln2, Ln1, Ln0, Lm9, Lm8, Lm7, Lm6, Lm5, Lm4, Lm3, Lm2, Lm1, Lm0, Ll9, Ll8, Ll7, Ll6, Ll5, Ll4, Ll3, Ll2, Ll1, Ll0, Lh9, Lh8, Lh7, Lh6, Lh5, Lh4, Lh3, Lh2, Lh1, Lh0, Lg9, Lg8, Lg7, Lg6, Kr8, Kr7, Kr6, Kr5, Kr4, Kr3, Kr2, Kr1, Kr0, Kp9, Kp8, Kp7, Kp6, Kp5, Kp4, Kp3, Kp2, Kp1, Kp0, Kn9, Kn8, Kn7, Kn6, Kn5, Kn4, Kn3, Kn2, Kn1, Kn0, Km9, Km8, Km7, Km6, Km5, Km4, Km3, Km2, Km1, Km0, Kl9, Kl8, Kl7, Kl6, Kl5, Kl4, Kl3, Kl2, Kl1, Kl0, Kh9, Kh8, Kh7, Kh6, Kh5, Kh4, Kh3, trivial⟩ (Iq0 (Aq9 (by kernel_rfl) (Aq9 (by kernel_rfl) (Aq9 (by kernel_rfl) (Aq9 (by kernel_rfl) (Aq9 (by kernel_rfl) (Aq9 (by kernel_rfl) (Aq9 (by kernel_rfl) (Aq9 (by kernel_rfl) (Aq9 (by kernel_rfl) (Aq9 (by kernel_rfl) (Aq9 (by kernel_rfl) (Aq9 (by kernel_rfl) (Aq9 (by kernel_rfl) (Aq9 (by kernel_rfl) (Aq9 (by kernel_rfl) (Ex6 (by kernel_rfl) Jp9.1 (Ex6 (by kernel_rfl) Jp9.2.1 (Ex6 (by kernel_rfl) Jp9.2.2 (Aq9 (by kernel_rfl) (Aq9 (by kernel_rfl) (Aq9 (by kernel_rfl) (Aq9 (by kernel_rfl) (Aq9 (by kernel_rfl) (Aq9 (by kernel_rfl) In0)))))))))))))))))))))))))
def exts : List (Nat × XK) := [(Eg0, .countS), (Ef9, .indexS)]
theorem Jc8 : XOKs Go.Proofs.Tryz.prog exts := ⟨⟨Go.Proofs.Tryz.f219, by kernel_rfl, by kernel_rfl, by kernel_rfl, by kernel_rfl, by kernel_rfl⟩, ⟨Go.Proofs.Tryz.f234, by kernel_rfl, by kernel_rfl, by kernel_rfl, by kernel_rfl, by kernel_rfl⟩, trivial⟩
theorem Ks9 (fn : Fns) (hC : Contract Go.Proofs.Tryz.prog sg fn) : Contract Go.Proofs.Tryz.prog sg (Cl9 exts fn) := Im2 Jc8 (Eh9 (by kernel_rfl)) fn hC
noncomputable def S : Fns := sem tab (Cl9 exts)
theorem Kw6 {args rs : List PV} (h : XK.run .countS args = some rs) : S Eg0 args.length args = some rs := Fl5 (by kernel_rfl) (by kernel_rfl) h
theorem Kw4 {args rs : List PV} (h : XK.run .indexS args = some rs) : S Ef9 args.length args = some rs := Fl5 (by kernel_rfl) (by kernel_rfl) h
theorem ext_mono : Ac3 (Cl9 exts) := (Bp0 exts)
variable {N : Nat} {args rs : List PV}
theorem s_u3 (hl : args.length = 2) (h : t_u3.ev S N args = some (.ret rs)) : S n_u3 2 args = some rs := Aj4 ext_mono (ft := ⟨2, 0, t_u3⟩) (by kernel_rfl) rfl hl h
theorem s_u5 (hl : args.length = 0) (h : t_u5.ev S N args = some (.ret rs)) : S n_u5 0 args = some rs := Aj4 ext_mono (ft := ⟨0, 0, t_u5⟩) (by kernel_rfl) rfl hl h
theorem s_u6 (hl : args.length = 2) (h : t_u6.ev S N args = some (.ret rs)) : S n_u6 2 args = some rs := Aj4 ext_mono (ft := ⟨2, 0, t_u6⟩) (by kernel_rfl) rfl hl h
theorem s_u7 (hl : args.length = 4) (h : t_u7.ev S N args = some (.ret rs)) : S n_u7 4 args = some rs := Aj4 ext_mono (ft := ⟨4, 0, t_u7⟩) (by kernel_rfl) rfl hl h
theorem s_u8 (hl : args.length = 4) (h : t_u8.ev S N args = some (.ret rs)) : S n_u8 4 args = some rs := Aj4 ext_mono (ft := ⟨4, 0, t_u8⟩) (by kernel_rfl) rfl hl h
theorem s_u9 (hl : args.length = 2) (h : t_u9.ev S N args = some (.ret rs)) : S n_u9 2 args = some rs := Aj4 ext_mono (ft := ⟨2, 0, t_u9⟩) (by kernel_rfl) rfl hl h
theorem Lf6 (hl : args.length = 1) (h : Fk4.ev S N args = some (.ret rs)) : S Gy8 1 args = some rs := Aj4 ext_mono (ft := ⟨1, 0, Fk4⟩) (by kernel_rfl) rfl hl h
theorem Lf5 (hl : args.length = 1) (h : Fk3.ev S N args = some (.ret rs)) : S Gy7 1 args = some rs := Aj4 ext_mono (ft := ⟨1, 0, Fk3⟩) (by kernel_rfl) rfl hl h
theorem Lf4 (hl : args.length = 1) (h : Fk2.ev S N args = some (.ret rs)) : S Gy6 1 args = some rs := Aj4 ext_mono (ft := ⟨1, 0, Fk2⟩) (by kernel_rfl) rfl hl h
theorem Lf3 (hl : args.length = 1) (h : Fk1.ev S N args = some (.ret rs)) : S Gy5 1 args = some rs := Aj4 ext_mono (ft := ⟨1, 0, Fk1⟩) (by kernel_rfl) rfl hl h
theorem Lf2 (hl : args.length = 2) (h : Fk0.ev S N args = some (.ret rs)) : S Ct2 2 args = some rs := Aj4 ext_mono (ft := ⟨2, 0, Fk0⟩) (by kernel_rfl) rfl hl h
theorem Lf1 (hl : args.length = 2) (h : Fj9.ev S N args = some (.ret rs)) : S Gy4 2 args = some rs := Aj4 ext_mono (ft := ⟨2, 0, Fj9⟩) (by kernel_rfl) rfl hl h
theorem Lf0 (hl : args.length = 2) (h : Fj8.ev S N args = some (.ret rs)) : S Gy3 2 args = some rs := Aj4 ext_mono (ft := ⟨2, 0, Fj8⟩) (by kernel_rfl) rfl hl h
theorem Ld9 (hl : args.length = 2) (h : Fj7.ev S N args = some (.ret rs)) : S Fb2 2 args = some rs := Aj4 ext_mono (ft := ⟨2, 0, Fj7⟩) (by kernel_rfl) rfl hl h
theorem Ld8 (hl : args.length = 3) (h : Fj6.ev S N args = some (.ret rs)) : S Gy1 3 args = some rs := Aj4 ext_mono (ft := ⟨3, 0, Fj6⟩) (by kernel_rfl) rfl hl h
theorem Ld7 (hl : args.length = 2) (h : Fj5.ev S N args = some (.ret rs)) : S Cd0 2 args = some rs := Aj4 ext_mono (ft := ⟨2, 0, Fj5⟩) (by kernel_rfl) rfl hl h
theorem Ld6 (hl : args.length = 0) (h : Fj4.ev S N args = some (.ret rs)) : S Gx9 0 args = some rs := Aj4 ext_mono (ft := ⟨0, 0, Fj4⟩) (by kernel_rfl) rfl hl h
theorem Kw3 (hl : args.length = 1) (h : Fj3.ev S N args = some (.ret rs)) : S Am0 1 args = some rs := Aj4 ext_mono (ft := ⟨1, 0, Fj3⟩) (by kernel_rfl) rfl hl h
theorem Ld5 (hl : args.length = 2) (h : Fj2.ev S N args = some (.ret rs)) : S Ap0 2 args = some rs := Aj4 ext_mono (ft := ⟨2, 0, Fj2⟩) (by kernel_rfl) rfl hl h
theorem Ld4 (hl : args.length = 1) (h : Fj1.ev S N args = some (.ret rs)) : S Gx7 1 args = some rs := Aj4 ext_mono (ft := ⟨1, 0, Fj1⟩) (by kernel_rfl) rfl hl h
theorem Ld3 (hl : args.length = 1) (h : Fj0.ev S N args = some (.ret rs)) : S Fb1 1 args = some rs := Aj4 ext_mono (ft := ⟨1, 0, Fj0⟩) (by kernel_rfl) rfl hl h
theorem Ld2 (hl : args.length = 1) (h : Et9.ev S N args = some (.ret rs)) : S Ct1 1 args = some rs := Aj4 ext_mono (ft := ⟨1, 0, Et9⟩) (by kernel_rfl) rfl hl h
theorem Ld1 (hl : args.length = 1) (h : Et8.ev S N args = some (.ret rs)) : S Cc8 1 args = some rs := Aj4 ext_mono (ft := ⟨1, 0, Et8⟩) (by kernel_rfl) rfl hl h
theorem Ld0 (hl : args.length = 2) (h : Et7.ev S N args = some (.ret rs)) : S Am8 2 args = some rs := Aj4 ext_mono (ft := ⟨2, 0, Et7⟩) (by kernel_rfl) rfl hl h
theorem Lc9 (hl : args.length = 1) (h : Et6.ev S N args = some (.ret rs)) : S Gx6 1 args = some rs := Aj4 ext_mono (ft := ⟨1, 0, Et6⟩) (by kernel_rfl) rfl hl h
theorem Lc8 (hl : args.length = 1) (h : Et5.ev S N args = some (.ret rs)) : S Fb0 1 args = some rs := Aj4 ext_mono (ft := ⟨1, 0, Et5⟩) (by kernel_rfl) rfl hl h
theorem Lc7 (hl : args.length = 1) (h : Et4.ev S N args = some (.ret rs)) : S Cc7 1 args = some rs := Aj4 ext_mono (ft := ⟨1, 0, Et4⟩) (by kernel_rfl) rfl hl h
theorem Lc6 (hl : args.length = 2) (h : Et3.ev S N args = some (.ret rs)) : S Fz9 2 args = some rs := Aj4 ext_mono (ft := ⟨2, 0, Et3⟩) (by kernel_rfl) rfl hl h
theorem Lc5 (hl : args.length = 1) (h : Et2.ev S N args = some (.ret rs)) : S Gx5 1 args = some rs := Aj4 ext_mono (ft := ⟨1, 0, Et2⟩) (by kernel_rfl) rfl hl h
theorem Lc4 (hl : args.length = 1) (h : Et1.ev S N args = some (.ret rs)) : S Ct0 1 args = some rs := Aj4 ext_mono (ft := ⟨1, 0, Et1⟩) (by kernel_rfl) rfl hl h
theorem Lc3 (hl : args.length = 2) (h : Et0.ev S N args = some (.ret rs)) : S Fz8 2 args = some rs := Aj4 ext_mono (ft := ⟨2, 0, Et0⟩) (by kernel_rfl) rfl hl h
theorem Lc2 (hl : args.length = 1) (h : Es9.ev S N args = some (.ret rs)) : S Gx4 1 args = some rs := Aj4 ext_mono (ft := ⟨1, 0, Es9⟩) (by kernel_rfl) rfl hl h
theorem Lc1 (hl : args.length = 3) (h : Es8.ev S N args = some (.ret rs)) : S Gx3 3 args = some rs := Aj4 ext_mono (ft := ⟨3, 0, Es8⟩) (by kernel_rfl) rfl hl h
theorem Lc0 (hl : args.length = 2) (h : Es7.ev S N args = some (.ret rs)) : S Fz7 2 args = some rs := Aj4 ext_mono (ft := ⟨2, 0, Es7⟩) (by kernel_rfl) rfl hl h
theorem Lb9 (hl : args.length = 2) (h : Es6.ev S N args = some (.ret rs)) : S Gx2 2 args = some rs := Aj4 ext_mono (ft := ⟨2, 0, Es6⟩) (by kernel_rfl) rfl hl h
theorem Lb8 (hl : args.length = 3) (h : Es5.ev S N args = some (.ret rs)) : S Gx1 3 args = some rs := Aj4 ext_mono (ft := ⟨3, 0, Es5⟩) (by kernel_rfl) rfl hl h
theorem Lb7 (hl : args.length = 1) (h : Es4.ev S N args = some (.ret rs)) : S Gx0 1 args = some rs := Aj4 ext_mono (ft := ⟨1, 0, Es4⟩) (by kernel_rfl) rfl hl h
theorem Lb6 (hl : args.length = 3) (h : Es3.ev S N args = some (.ret rs)) : S Gw9 3 args = some rs := Aj4 ext_mono (ft := ⟨3, 0, Es3⟩) (by kernel_rfl) rfl hl h
theorem Lb5 (hl : args.length = 1) (h : Es2.ev S N args = some (.ret rs)) : S Cc6 1 args = some rs := Aj4 ext_mono (ft := ⟨1, 0, Es2⟩) (by kernel_rfl) rfl hl h
theorem Lb4 (hl : args.length = 2) (h : Es1.ev S N args = some (.ret rs)) : S Cc5 2 args = some rs := Aj4 ext_mono (ft := ⟨2, 0, Es1⟩) (by kernel_rfl) rfl hl h
theorem Lb3 (hl : args.length = 2) (h : Es0.ev S N args = some (.ret rs)) : S Bz1 2 args = some rs := Aj4 ext_mono (ft := ⟨2, 0, Es0⟩) (by kernel_rfl) rfl hl h
theorem Lb2 (hl : args.length = 3) (h : Er9.ev S N args = some (.ret rs)) : S Gw8 3 args = some rs := Aj4 ext_mono (ft := ⟨3, 0, Er9⟩) (by kernel_rfl) rfl hl h
theorem Lb1 (hl : args.length = 1) (h : Er8.ev S N args = some (.ret rs)) : S Fz6 1 args = some rs := Aj4 ext_mono (ft := ⟨1, 0, Er8⟩) (by kernel_rfl) rfl hl h
theorem Lb0 (hl : args.length = 2) (h : Er7.ev S N args = some (.ret rs)) : S Gw7 2 args = some rs := Aj4 ext_mono (ft := ⟨2, 0, Er7⟩) (by kernel_rfl) rfl hl h
theorem Lz9 (hl : args.length = 2) (h : Er6.ev S N args = some (.ret rs)) : S Gw6 2 args = some rs := Aj4 ext_mono (ft := ⟨2, 0, Er6⟩) (by kernel_rfl) rfl hl h
theorem Lz8 (hl : args.length = 1) (h : Er5.ev S N args = some (.ret rs)) : S Fz5 1 args = some rs := Aj4 ext_mono (ft := ⟨1, 0, Er5⟩) (by kernel_rfl) rfl hl h
theorem Lz7 (hl : args.length = 2) (h : Er4.ev S N args = some (.ret rs)) : S Cs9 2 args = some rs := Aj4 ext_mono (ft := ⟨2, 0, Er4⟩) (by kernel_rfl) rfl hl h
theorem Lz6 (hl : args.length = 2) (h : Er3.ev S N args = some (.ret rs)) : S Gw5 2 args = some rs := Aj4 ext_mono (ft := ⟨2, 0, Er3⟩) (by kernel_rfl) rfl hl h
theorem Lz5 (hl : args.length = 2) (h : Er2.ev S N args = some (.ret rs)) : S Cj6 2 args = some rs := Aj4 ext_mono (ft := ⟨2, 0, Er2⟩) (by kernel_rfl) rfl hl h
theorem Lz4 (hl : args.length = 2) (h : Er1.ev S N args = some (.ret rs)) : S Gw4 2 args = some rs := Aj4 ext_mono (ft := ⟨2, 0, Er1⟩) (by kernel_rfl) rfl hl h
theorem Lz3 (hl : args.length = 1) (h : Er0.ev S N args = some (.ret rs)) : S Gw3 1 args = some rs := Aj4 ext_mono (ft := ⟨1, 0, Er0⟩) (by kernel_rfl) rfl hl h
theorem Lz2 (hl : args.length = 1) (h : Ep9.ev S N args = some (.ret rs)) : S Fz4 1 args = some rs := Aj4 ext_mono (ft := ⟨1, 0, Ep9⟩) (by kernel_rfl) rfl hl h
theorem Lz1 (hl : args.length = 1) (h : Ep8.ev S N args = some (.ret rs)) : S Fz3 1 args = some rs := Aj4 ext_mono (ft := ⟨1, 0, Ep8⟩) (by kernel_rfl) rfl hl h
theorem Lz0 (hl : args.length = 2) (h : Ep7.ev S N args = some (.ret rs)) : S Gw2 2 args = some rs := Aj4 ext_mono (ft := ⟨2, 0, Ep7⟩) (by kernel_rfl) rfl hl h
theorem Ly9 (hl : args.length = 2) (h : Ep6.ev S N args = some (.ret rs)) : S Fz2 1 args = some rs := Aj4 ext_mono (ft := ⟨1, 1, Ep6⟩) (by kernel_rfl) rfl hl h
theorem Ly8 (hl : args.length = 2) (h : Ep5.ev S N args = some (.ret rs)) : S Gw1 2 args = some rs := Aj4 ext_mono (ft := ⟨2, 0, Ep5⟩) (by kernel_rfl) rfl hl h
theorem Ly7 (hl : args.length = 2) (h : Ep4.ev S N args = some (.ret rs)) : S Fz1 1 args = some rs := Aj4 ext_mono (ft := ⟨1, 1, Ep4⟩) (by kernel_rfl) rfl hl h
theorem Ly6 (hl : args.length = 1) (h : Ep3.ev S N args = some (.ret rs)) : S Cc4 1 args = some rs := Aj4 ext_mono (ft := ⟨1, 0, Ep3⟩) (by kernel_rfl) rfl hl h
theorem Ly5 (hl : args.length = 2) (h : Ep2.ev S N args = some (.ret rs)) : S Gw0 2 args = some rs := Aj4 ext_mono (ft := ⟨2, 0, Ep2⟩) (by kernel_rfl) rfl hl h
theorem Ly4 (hl : args.length = 1) (h : Ep1.ev S N args = some (.ret rs)) : S Gv9 1 args = some rs := Aj4 ext_mono (ft := ⟨1, 0, Ep1⟩) (by kernel_rfl) rfl hl h
theorem Ly3 (hl : args.length = 2) (h : Ep0.ev S N args = some (.ret rs)) : S Cj5 2 args = some rs := Aj4 ext_mono (ft := ⟨2, 0, Ep0⟩) (by kernel_rfl) rfl hl h
theorem Ly2 (hl : args.length = 2) (h : En9.ev S N args = some (.ret rs)) : S Gv8 1048578 args = some rs := Aj4 ext_mono (ft := ⟨1048578, 0, En9⟩) (by kernel_rfl) rfl hl h
theorem Ly1 (hl : args.length = 2) (h : En8.ev S N args = some (.ret rs)) : S Fz0 2 args = some rs := Aj4 ext_mono (ft := ⟨2, 0, En8⟩) (by kernel_rfl) rfl hl h
theorem Ly0 (hl : args.length = 2) (h : En7.ev S N args = some (.ret rs)) : S Gv7 1048578 args = some rs := Aj4 ext_mono (ft := ⟨1048578, 0, En7⟩) (by kernel_rfl) rfl hl h
theorem Lx9 (hl : args.length = 2) (h : En6.ev S N args = some (.ret rs)) : S Fy9 1 args = some rs := Aj4 ext_mono (ft := ⟨1, 1, En6⟩) (by kernel_rfl) rfl hl h
theorem Lx8 (hl : args.length = 3) (h : En5.ev S N args = some (.ret rs)) : S Gv6 3 args = some rs := Aj4 ext_mono (ft := ⟨3, 0, En5⟩) (by kernel_rfl) rfl hl h
theorem Lx7 (hl : args.length = 1) (h : En4.ev S N args = some (.ret rs)) : S Cs8 1 args = some rs := Aj4 ext_mono (ft := ⟨1, 0, En4⟩) (by kernel_rfl) rfl hl h
theorem Lx6 (hl : args.length = 2) (h : En3.ev S N args = some (.ret rs)) : S Gv5 2 args = some rs := Aj4 ext_mono (ft := ⟨2, 0, En3⟩) (by kernel_rfl) rfl hl h
theorem Lx5 (hl : args.length = 2) (h : En2.ev S N args = some (.ret rs)) : S Gv4 2 args = some rs := Aj4 ext_mono (ft := ⟨2, 0, En2⟩) (by kernel_rfl) rfl hl h
theorem Lx4 (hl : args.length = 1) (h : En1.ev S N args = some (.ret rs)) : S Fy8 1 args = some rs := Aj4 ext_mono (ft := ⟨1, 0, En1⟩) (by kernel_rfl) rfl hl h
theorem Lx3 (hl : args.length = 2) (h : En0.ev S N args = some (.ret rs)) : S Fy7 2 args = some rs := Aj4 ext_mono (ft := ⟨2, 0, En0⟩) (by kernel_rfl) rfl hl h
theorem Lx2 (hl : args.length = 2) (h : Em9.ev S N args = some (.ret rs)) : S Cj4 2 args = some rs := Aj4 ext_mono (ft := ⟨2, 0, Em9⟩) (by kernel_rfl) rfl hl h
theorem Kc7 (hl : args.length = 3) (h : Bh0.ev S N args = some (.ret rs)) : S Bn0 3 args = some rs := Aj4 ext_mono (ft := ⟨3, 0, Bh0⟩) (by kernel_rfl) rfl hl h
theorem Kc6 (hl : args.length = 2) (h : Bg9.ev S N args = some (.ret rs)) : S Bm9 2 args = some rs := Aj4 ext_mono (ft := ⟨2, 0, Bg9⟩) (by kernel_rfl) rfl hl h
theorem Kc5 (hl : args.length = 2) (h : Bg8.ev S N args = some (.ret rs)) : S Bm8 2 args = some rs := Aj4 ext_mono (ft := ⟨2, 0, Bg8⟩) (by kernel_rfl) rfl hl h
theorem Kc4 (hl : args.length = 1) (h : Bg7.ev S N args = some (.ret rs)) : S Bm7 1 args = some rs := Aj4 ext_mono (ft := ⟨1, 0, Bg7⟩) (by kernel_rfl) rfl hl h
theorem Kc3 (hl : args.length = 2) (h : Bg6.ev S N args = some (.ret rs)) : S Cg5 2 args = some rs := Aj4 ext_mono (ft := ⟨2, 0, Bg6⟩) (by kernel_rfl) rfl hl h
theorem Kc2 (hl : args.length = 3) (h : Bg5.ev S N args = some (.ret rs)) : S At7 3 args = some rs := Aj4 ext_mono (ft := ⟨3, 0, Bg5⟩) (by kernel_rfl) rfl hl h
theorem Kc1 (hl : args.length = 2) (h : Bg4.ev S N args = some (.ret rs)) : S Cg4 2 args = some rs := Aj4 ext_mono (ft := ⟨2, 0, Bg4⟩) (by kernel_rfl) rfl hl h
theorem Kc0 (hl : args.length = 2) (h : Bg3.ev S N args = some (.ret rs)) : S Cg3 2 args = some rs := Aj4 ext_mono (ft := ⟨2, 0, Bg3⟩) (by kernel_rfl) rfl hl h
theorem Kb9 (hl : args.length = 1) (h : Bg2.ev S N args = some (.ret rs)) : S Bm6 1 args = some rs := Aj4 ext_mono (ft := ⟨1, 0, Bg2⟩) (by kernel_rfl) rfl hl h
theorem Kb8 (hl : args.length = 1) (h : Bg1.ev S N args = some (.ret rs)) : S Cg2 1 args = some rs := Aj4 ext_mono (ft := ⟨1, 0, Bg1⟩) (by kernel_rfl) rfl hl h
theorem Kb7 (hl : args.length = 2) (h : Bg0.ev S N args = some (.ret rs)) : S Bm5 2 args = some rs := Aj4 ext_mono (ft := ⟨2, 0, Bg0⟩) (by kernel_rfl) rfl hl h
theorem Kb6 (hl : args.length = 2) (h : Bf9.ev S N args = some (.ret rs)) : S Cg1 2 args = some rs := Aj4 ext_mono (ft := ⟨2, 0, Bf9⟩) (by kernel_rfl) rfl hl h
theorem Kb5 (hl : args.length = 2) (h : Bf8.ev S N args = some (.ret rs)) : S Cg0 2 args = some rs := Aj4 ext_mono (ft := ⟨2, 0, Bf8⟩) (by kernel_rfl) rfl hl h
theorem Kb4 (hl : args.length = 2) (h : Bf7.ev S N args = some (.ret rs)) : S Cf9 0 args = some rs := Aj4 ext_mono (ft := ⟨0, 2, Bf7⟩) (by kernel_rfl) rfl hl h
theorem Kb3 (hl : args.length = 2) (h : Bf6.ev S N args = some (.ret rs)) : S Bm4 1 args = some rs := Aj4 ext_mono (ft := ⟨1, 1, Bf6⟩) (by kernel_rfl) rfl hl h
theorem Kb2 (hl : args.length = 2) (h : Bf5.ev S N args = some (.ret rs)) : S Bm3 1 args = some rs := Aj4 ext_mono (ft := ⟨1, 1, Bf5⟩) (by kernel_rfl) rfl hl h
theorem Kb1 (hl : args.length = 2) (h : Bf4.ev S N args = some (.ret rs)) : S Ag1 1 args = some rs := Aj4 ext_mono (ft := ⟨1, 1, Bf4⟩) (by kernel_rfl) rfl hl h
theorem Kb0 (hl : args.length = 2) (h : Bf3.ev S N args = some (.ret rs)) : S Bw4 2 args = some rs := Aj4 ext_mono (ft := ⟨2, 0, Bf3⟩) (by kernel_rfl) rfl hl h
theorem Kz9 (hl : args.length = 3) (h : Bf2.ev S N args = some (.ret rs)) : S Bm2 1 args = some rs := Aj4 ext_mono (ft := ⟨1, 2, Bf2⟩) (by kernel_rfl) rfl hl h
theorem Kz8 (hl : args.length = 0) (h : Ed7.ev S N args = some (.ret rs)) : S Cf8 0 args = some rs := Aj4 ext_mono (ft := ⟨0, 0, Ed7⟩) (by kernel_rfl) rfl hl h
theorem Kz7 (hl : args.length = 2) (h : Bf1.ev S N args = some (.ret rs)) : S Cf7 2 args = some rs := Aj4 ext_mono (ft := ⟨2, 0, Bf1⟩) (by kernel_rfl) rfl hl h
theorem Kz6 (hl : args.length = 2) (h : Bf0.ev S N args = some (.ret rs)) : S Bm1 2 args = some rs := Aj4 ext_mono (ft := ⟨2, 0, Bf0⟩) (by kernel_rfl) rfl hl h
theorem Kz5 (hl : args.length = 1) (h : Bd9.ev S N args = some (.ret rs)) : S Cf6 1 args = some rs := Aj4 ext_mono (ft := ⟨1, 0, Bd9⟩) (by kernel_rfl) rfl hl h
theorem Kz4 (hl : args.length = 2) (h : Bd8.ev S N args = some (.ret rs)) : S Cf5 2 args = some rs := Aj4 ext_mono (ft := ⟨2, 0, Bd8⟩) (by kernel_rfl) rfl hl h
theorem Kz3 (hl : args.length = 1) (h : Bd7.ev S N args = some (.ret rs)) : S Bw3 1 args = some rs := Aj4 ext_mono (ft := ⟨1, 0, Bd7⟩) (by kernel_rfl) rfl hl h
theorem Kz2 (hl : args.length = 2) (h : Bd6.ev S N args = some (.ret rs)) : S Cf4 2 args = some rs := Aj4 ext_mono (ft := ⟨2, 0, Bd6⟩) (by kernel_rfl) rfl hl h
theorem Kz1 (hl : args.length = 2) (h : Bd5.ev S N args = some (.ret rs)) : S Bm0 2 args = some rs := Aj4 ext_mono (ft := ⟨2, 0, Bd5⟩) (by kernel_rfl) rfl hl h
theorem Kz0 (hl : args.length = 2) (h : Bd4.ev S N args = some (.ret rs)) : S Cf3 2 args = some rs := Aj4 ext_mono (ft := ⟨2, 0, Bd4⟩) (by kernel_rfl) rfl hl h
theorem Ky9 (hl : args.length = 2) (h : Bd3.ev S N args = some (.ret rs)) : S Cf2 2 args = some rs := Aj4 ext_mono (ft := ⟨2, 0, Bd3⟩) (by kernel_rfl) rfl hl h
theorem Ky8 (hl : args.length = 2) (h : Bd2.ev S N args = some (.ret rs)) : S Cf1 2 args = some rs := Aj4 ext_mono (ft := ⟨2, 0, Bd2⟩) (by kernel_rfl) rfl hl h
theorem Ky7 (hl : args.length = 2) (h : Bd1.ev S N args = some (.ret rs)) : S Bw2 2 args = some rs := Aj4 ext_mono (ft := ⟨2, 0, Bd1⟩) (by kernel_rfl) rfl hl h
theorem Ky6 (hl : args.length = 2) (h : Bd0.ev S N args = some (.ret rs)) : S Bl9 2 args = some rs := Aj4 ext_mono (ft := ⟨2, 0, Bd0⟩) (by kernel_rfl) rfl hl h
theorem Ky5 (hl : args.length = 2) (h : Bc9.ev S N args = some (.ret rs)) : S Cf0 2 args = some rs := Aj4 ext_mono (ft := ⟨2, 0, Bc9⟩) (by kernel_rfl) rfl hl h
theorem Ky4 (hl : args.length = 4) (h : Bc8.ev S N args = some (.ret rs)) : S Cd9 4 args = some rs := Aj4 ext_mono (ft := ⟨4, 0, Bc8⟩) (by kernel_rfl) rfl hl h
theorem Ky3 (hl : args.length = 1) (h : Bc7.ev S N args = some (.ret rs)) : S Cd8 1 args = some rs := Aj4 ext_mono (ft := ⟨1, 0, Bc7⟩) (by kernel_rfl) rfl hl h
theorem Ky2 (hl : args.length = 3) (h : Bc6.ev S N args = some (.ret rs)) : S Bl8 3 args = some rs := Aj4 ext_mono (ft := ⟨3, 0, Bc6⟩) (by kernel_rfl) rfl hl h
theorem Ky1 (hl : args.length = 2) (h : Bc5.ev S N args = some (.ret rs)) : S Bl7 2 args = some rs := Aj4 ext_mono (ft := ⟨2, 0, Bc5⟩) (by kernel_rfl) rfl hl h
theorem Ky0 (hl : args.length = 2) (h : Bc4.ev S N args = some (.ret rs)) : S Bl6 2 args = some rs := Aj4 ext_mono (ft := ⟨2, 0, Bc4⟩) (by kernel_rfl) rfl hl h
theorem Kx9 (hl : args.length = 3) (h : Bc3.ev S N args = some (.ret rs)) : S Bl5 1 args = some rs := Aj4 ext_mono (ft := ⟨1, 2, Bc3⟩) (by kernel_rfl) rfl hl h
theorem Kx8 (hl : args.length = 1) (h : Bc2.ev S N args = some (.ret rs)) : S Cd7 1 args = some rs := Aj4 ext_mono (ft := ⟨1, 0, Bc2⟩) (by kernel_rfl) rfl hl h
theorem Kx7 (hl : args.length = 2) (h : Bc1.ev S N args = some (.ret rs)) : S Cd6 2 args = some rs := Aj4 ext_mono (ft := ⟨2, 0, Bc1⟩) (by kernel_rfl) rfl hl h
theorem Kx6 (hl : args.length = 3) (h : Bc0.ev S N args = some (.ret rs)) : S Bl4 3 args = some rs := Aj4 ext_mono (ft := ⟨3, 0, Bc0⟩) (by kernel_rfl) rfl hl h
theorem Kx5 (hl : args.length = 1) (h : Bb9.ev S N args = some (.ret rs)) : S Cd5 1 args = some rs := Aj4 ext_mono (ft := ⟨1, 0, Bb9⟩) (by kernel_rfl) rfl hl h
theorem Kx4 (hl : args.length = 2) (h : Bb8.ev S N args = some (.ret rs)) : S Bl3 2 args = some rs := Aj4 ext_mono (ft := ⟨2, 0, Bb8⟩) (by kernel_rfl) rfl hl h
theorem Kx3 (hl : args.length = 2) (h : Bb7.ev S N args = some (.ret rs)) : S Cd4 2 args = some rs := Aj4 ext_mono (ft := ⟨2, 0, Bb7⟩) (by kernel_rfl) rfl hl h
theorem Kx2 (hl : args.length = 3) (h : Bb6.ev S N args = some (.ret rs)) : S Bw1 3 args = some rs := Aj4 ext_mono (ft := ⟨3, 0, Bb6⟩) (by kernel_rfl) rfl hl h
theorem Kx1 (hl : args.length = 2) (h : Bb5.ev S N args = some (.ret rs)) : S Cd3 2 args = some rs := Aj4 ext_mono (ft := ⟨2, 0, Bb5⟩) (by kernel_rfl) rfl hl h
theorem Kx0 (hl : args.length = 2) (h : Bb4.ev S N args = some (.ret rs)) : S Bl2 2 args = some rs := Aj4 ext_mono (ft := ⟨2, 0, Bb4⟩) (by kernel_rfl) rfl hl h
theorem Kw9 (hl : args.length = 2) (h : Bb3.ev S N args = some (.ret rs)) : S Cd2 2 args = some rs := Aj4 ext_mono (ft := ⟨2, 0, Bb3⟩) (by kernel_rfl) rfl hl h
theorem Kw8 (hl : args.length = 2) (h : Bb2.ev S N args = some (.ret rs)) : S Bl1 1 args = some rs := Aj4 ext_mono (ft := ⟨1, 1, Bb2⟩) (by kernel_rfl) rfl hl h
theorem Kw7 (hl : args.length = 1) (h : Bb1.ev S N args = some (.ret rs)) : S Cd1 1 args = some rs := Aj4 ext_mono (ft := ⟨1, 0, Bb1⟩) (by kernel_rfl) rfl hl h
theorem Kw5 (hl : args.length = 2) (h : Bb0.ev S N args = some (.ret rs)) : S Cc9 2 args = some rs := Aj4 ext_mono (ft := ⟨2, 0, Bb0⟩) (by kernel_rfl) rfl hl h
end Go.X.G
