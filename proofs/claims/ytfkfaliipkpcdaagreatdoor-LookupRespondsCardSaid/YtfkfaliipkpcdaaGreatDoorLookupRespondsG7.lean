/- The residual programs of the functions, printed by a program (gen.py) out of the executor's own reckoning; each is checked by the kernel. -/
import Derived.Test.YtfkfaliipkpcdaaGreatDoorLookupRespondsG4
import Derived.Test.YtfkfaliipkpcdaaGreatDoorLookupRespondsG5
import Derived.Test.YtfkfaliipkpcdaaGreatDoorLookupRespondsG6
import Derived.Test.YtfkfaliipkpcdaaGreatDoorProg
import Derived.KernelRfl
set_option maxHeartbeats 1000000
set_option linter.unusedVariables false
set_option linter.unusedSimpArgs false
set_option maxRecDepth 100000
set_option linter.defProp false
namespace Go.X.G
open Go Go.X

def rgs (a : Nat) : Nat → List Nat
 | 0 => []
 | n + 1 => a :: rgs (a + 1) n
def rg : List (Nat × Nat) → List Nat
 | [] => []
 | (a, n) :: r => rgs a n ++ rg r

def n_u5 : Nat := 5
def Hf0 : Nat := 10
def Hd9 : Nat := 12
def Hd8 : Nat := 13
def Hd7 : Nat := 14
def Kv9 : Nat := 15
def Hd5 : Nat := 16
def Gg3 : Nat := 17
def Hd4 : Nat := 18
def Ds9 : Nat := 19
def By3 : Nat := 23
def Gg2 : Nat := 24
def Hd1 : Nat := 25
def Gg1 : Nat := 26
def By2 : Nat := 27
def Hd0 : Nat := 28
def Hc9 : Nat := 29
def Gg0 : Nat := 30
def Gf9 : Nat := 31
def Hc8 : Nat := 32
def By1 : Nat := 33
def Ds8 : Nat := 34
def Bv9 : Nat := 35
def Hc7 : Nat := 36
def Hc6 : Nat := 37
def Hc5 : Nat := 38
def Gf8 : Nat := 39
def Gf7 : Nat := 40
def Hc4 : Nat := 41
def Hc3 : Nat := 42
def Cy6 : Nat := 43
def Hc2 : Nat := 44
def Dc5 : Nat := 45
def Hc1 : Nat := 46
def Gf6 : Nat := 47
def Hc0 : Nat := 48
def Dc4 : Nat := 49
def Hb9 : Nat := 50
def Hb8 : Nat := 51
def Gf5 : Nat := 52
def Hb7 : Nat := 53
def Hb6 : Nat := 54
def As5 : Nat := 55
def Gf4 : Nat := 65
def Bm0 : Nat := 66
def Dc3 : Nat := 67
def Hb5 : Nat := 68
def Hb4 : Nat := 69
def Hb3 : Nat := 70
def Gf3 : Nat := 71
def Hb2 : Nat := 72
def Hb1 : Nat := 73
def Hb0 : Nat := 74
def Ds7 : Nat := 75
def Hz9 : Nat := 76
def Gf2 : Nat := 77
def Gf1 : Nat := 78
def Hz8 : Nat := 79
def Hz7 : Nat := 80
def Hz6 : Nat := 81
def As4 : Nat := 82
def Gf0 : Nat := 83
def Cy5 : Nat := 84
def Bl9 : Nat := 85
def Gd9 : Nat := 86
def Gd8 : Nat := 87
def Gd7 : Nat := 88
def Hz5 : Nat := 89
def Gd6 : Nat := 90
def Gd5 : Nat := 91
def Hz4 : Nat := 92
def Gd4 : Nat := 95
def Hz3 : Nat := 98
def Bj8 : Nat := 107
def Ck7 : Nat := 108
def Ck6 : Nat := 109
def Df8 : Nat := 110
def Df7 : Nat := 111
def Df6 : Nat := 112
def Df5 : Nat := 113
def Df4 : Nat := 114
def Ck5 : Nat := 115
def Df3 : Nat := 116
def Bj7 : Nat := 117
def Al0 : Nat := 118
def Bf5 : Nat := 119
def Df2 : Nat := 120
def Ck4 : Nat := 121
def Df1 : Nat := 122
def Df0 : Nat := 123
def Ck3 : Nat := 124
def Dd9 : Nat := 125
def Dd8 : Nat := 141
def Dd7 : Nat := 142
def Ck2 : Nat := 143
def Ar8 : Nat := 144
def Dd6 : Nat := 145
def Ax3 : Nat := 146
def Bf4 : Nat := 147
def Dd5 : Nat := 148
def Ck1 : Nat := 149
def Dd4 : Nat := 150
def Dd3 : Nat := 151
def Ck0 : Nat := 152
def Dd2 : Nat := 153
def Dd1 : Nat := 154
def Bf3 : Nat := 156
def Cj9 : Nat := 157
def Hd6 : Nat := 158
def Dd0 : Nat := 159
def Cj8 : Nat := 160
def Cj7 : Nat := 178
def Cj6 : Nat := 179
def Fl3 : Nat := 180
def Dc9 : Nat := 189
def Fl2 : Nat := 190
def Hd3 : Nat := 191
def Fl1 : Nat := 192
def Dc8 : Nat := 193
def Dc7 : Nat := 206
def Am2 : Nat := 207
def Aq9 : Nat := 208
def Dc6 : Nat := 209
def Fl0 : Nat := 213
def Hd2 : Nat := 214
def Bf2 : Nat := 222

def Lb5 : T := (.ret [.ite (.ite (.v 7) (.v 8) (.c (.b false))) (.v 9) (.c (.b false))])
def Lb1 : T := (.w (.chk (.ite (.ite (.v 7) (.v 8) (.c (.b false))) (.c .u) (.c .u))) (.w (.call (some (.ite (.v 7) (.v 8) (.c (.b false)))) true Ds9 [.proj 16 (.v 5), .proj 16 (.v 6)] 1) Lb5))
def Lz9 : T := (.w (.chk (.ite (.v 7) (.c .u) (.c .u))) (.w (.call (some (.v 7)) true Ds9 [.proj 15 (.v 5), .proj 15 (.v 6)] 1) Lb1))
def Lz7 : T := (.w (.call none true Ds9 [.proj 14 (.v 5), .proj 14 (.v 6)] 1) Lz9)
def Lz5 : T := (.w (.chk (.fit 17 (.v 6))) (.ite (.ite (.ite (.ite (.ite (.ite (.ite (.ite (.ite (.ite (.ite (.ite (.ite (.bin .neq (.proj 0 (.v 5)) (.proj 0 (.v 6))) (.c (.b true)) (.bin .neq (.proj 1 (.v 5)) (.proj 1 (.v 6)))) (.c (.b true)) (.bin .neq (.proj 2 (.v 5)) (.proj 2 (.v 6)))) (.c (.b true)) (.eqs true false [.b] (.proj 3 (.v 5)) (.proj 3 (.v 6)))) (.c (.b true)) (.eqs true false [.b] (.proj 4 (.v 5)) (.proj 4 (.v 6)))) (.c (.b true)) (.eqs true false [.b] (.proj 5 (.v 5)) (.proj 5 (.v 6)))) (.c (.b true)) (.eqs true false [.b] (.proj 6 (.v 5)) (.proj 6 (.v 6)))) (.c (.b true)) (.eqs true false [.b] (.proj 7 (.v 5)) (.proj 7 (.v 6)))) (.c (.b true)) (.eqs true false [.b] (.proj 8 (.v 5)) (.proj 8 (.v 6)))) (.c (.b true)) (.eqs true false [.b] (.proj 9 (.v 5)) (.proj 9 (.v 6)))) (.c (.b true)) (.eqs true false [.b] (.proj 10 (.v 5)) (.proj 10 (.v 6)))) (.c (.b true)) (.bin .neq (.proj 11 (.v 5)) (.proj 11 (.v 6)))) (.c (.b true)) (.eqs true true [.s, .i .i64] (.agg [.proj 12 (.v 5), .proj 13 (.v 5)]) (.agg [.proj 12 (.v 6), .proj 13 (.v 6)]))) (.ret [.c (.b false)]) Lz7))
def Lz3 : T := (.w (.chk (.fit 17 (.v 5))) (.w (.call none false Hd4 [.sub 0 2 (.v 0), .sub 0 17 (.v 1)] 1) Lz5))
def Lz1 : T := (.w (.call none false Gg3 [.sub 0 2 (.v 0), .sub 0 17 (.v 1)] 1) Lz3)
def Lz0 : T := (.ite (.ite (.un .not (.v 4)) (.c (.b true)) (.bin .gtr (.slen (.proj 12 (.v 1))) (.c (.i .i64 300)))) (.ret [.c (.b true)]) Lz1)
def Ly9 : T := (.w (.call none true Hf0 [.sub 0 2 (.v 0)] 1) Lz0)
def Ly8 : T := (.w (.chk (.fit 17 (.v 3))) (.ite (.ite (.ite (.un .not (.proj 4 (.v 3))) (.c (.b true)) (.bin .neq (.len (.proj 14 (.v 3))) (.c (.i .i64 1)))) (.c (.b true)) (.bin .neq (.proj 0 (.v 3)) (.c (.i .i64 3)))) (.ret [.c (.b false)]) Ly9))
def Jw4 : T := (.w (.chk (.scal (.c (.s [97, 46, 120, 46])))) (.w (.chk (.scal (.c (.i .i64 1)))) (.w (.chk (.scal (.c (.i .i64 3)))) (.w (.call none false Gg3 [.v 2, .agg [.c (.i .i64 3), .c (.i .i64 0), .c (.i .i64 0), .c (.b false), .c (.b false), .c (.b false), .c (.b false), .c (.b false), .c (.b false), .c (.b false), .c (.b false), .c (.i .i64 0), .c (.s [97, 46, 120, 46]), .c (.i .i64 1), .c (.l 16 []), .c (.l 16 []), .c (.l 16 [])]] 1) Ly8))))
def t_u5 : T := (.w (.chk (.fit 2 (.v 0))) (.w (.chk (.fit 17 (.v 1))) (.w (.call none false Kv9 [] 1) Jw4)))
theorem x_u5 : type_of% (And.intro (tev_eq @Lb5.eq_1) (And.intro (tev_eq @Lb1.eq_1) (And.intro (tev_eq @Lz9.eq_1) (And.intro (tev_eq @Lz7.eq_1) (And.intro (tev_eq @Lz5.eq_1) (And.intro (tev_eq @Lz3.eq_1) (And.intro (tev_eq @Lz1.eq_1) (And.intro (tev_eq @Lz0.eq_1) (And.intro (tev_eq @Ly9.eq_1) (And.intro (tev_eq @Ly8.eq_1) (And.intro (tev_eq @Jw4.eq_1) (tev_eq @t_u5.eq_1)))))))))))) := (And.intro (tev_eq @Lb5.eq_1) (And.intro (tev_eq @Lb1.eq_1) (And.intro (tev_eq @Lz9.eq_1) (And.intro (tev_eq @Lz7.eq_1) (And.intro (tev_eq @Lz5.eq_1) (And.intro (tev_eq @Lz3.eq_1) (And.intro (tev_eq @Lz1.eq_1) (And.intro (tev_eq @Lz0.eq_1) (And.intro (tev_eq @Ly9.eq_1) (And.intro (tev_eq @Ly8.eq_1) (And.intro (tev_eq @Jw4.eq_1) (tev_eq @t_u5.eq_1))))))))))))
def Jd7 : T := (.ret [.ite (.bin .leq (.len (.proj 1 (.v 0))) (.c (.i .i64 60))) (.bin .eql (.v 1) (.c (.i .i64 0))) (.c (.b false))])
def Gy2 : T := (.w (.chk (.fit 2 (.v 0))) (.w (.call (some (.bin .leq (.len (.proj 1 (.v 0))) (.c (.i .i64 60)))) true Hd1 [.sub 0 2 (.v 0)] 1) Jd7))
theorem Mh8 : type_of% (And.intro (tev_eq @Jd7.eq_1) (tev_eq @Gy2.eq_1)) := (And.intro (tev_eq @Jd7.eq_1) (tev_eq @Gy2.eq_1))
def Jd6 : T := (.ret [.agg [.c (.i .i64 0), .c (.s []), .c (.b false), .c (.s []), .c (.l 16 [])]])
def Jw3 : T := (.w (.chk (.scal (.c (.i .i64 4)))) (.w (.chk (.scal (.v 3))) (.w (.chk (.scal (.v 5))) (.ret [.agg [.c (.i .i64 4), .v 3, .c (.b false), .c (.s []), .v 5]]))))
def Is7 : T := (.w (.call none false By2 [.sub 0 2 (.v 0), .v 3, .c (.i .i64 2)] 1) Jw3)
def Il7 : T := (.w (.chk (.fit 5 (.sub 0 5 (.v 5)))) (.ret [.sub 0 5 (.sub 0 5 (.v 5))]))
def If2 : T := (.w (.chk (.fit 5 (.v 9))) (.w (.chk (.scal (.proj 0 (.v 1)))) (.ret [.agg [.proj 0 (.v 9), .proj 0 (.v 1), .proj 2 (.v 9), .proj 3 (.v 9), .proj 4 (.v 9)]])))
def Ib0 : T := (.w (.call none false Gg0 [.v 8, .proj 1 (.v 1)] 1) If2)
def Iw8 : T := (.w (.call none false Gf9 [.sub 0 2 (.v 0), .proj 0 (.v 1)] 1) Ib0)
def Iq1 : T := (.w (.chk (.fit 5 (.sub 0 5 (.v 8)))) (.ret [.sub 0 5 (.sub 0 5 (.v 8))]))
def Ht9 : T := (.w (.chk (.scal (.c (.i .i64 6)))) (.w (.chk (.scal (.proj 0 (.v 1)))) (.ret [.agg [.c (.i .i64 6), .proj 0 (.v 1), .c (.b false), .c (.s []), .c (.l 16 [])]])))
def Hs1 : T := (.w (.chk (.fit 5 (.v 8))) (.ite (.v 9) Iq1 Ht9))
def Fy3 : T := (.w (.call none false Hc8 [.sub 0 2 (.v 0), .sub 0 2 (.v 1)] 2) Hs1)
def Fw9 : T := (.ite (.v 7) Iw8 Fy3)
def Fv8 : T := (.w (.call none true Hc9 [.sub 0 2 (.v 0), .proj 0 (.v 1)] 1) Fw9)
def Fq9 : T := (.w (.chk (.fit 5 (.v 5))) (.ite (.v 6) Il7 Fv8))
def Dj3 : T := (.w (.call none false Hd0 [.sub 0 2 (.v 0), .proj 0 (.v 1)] 2) Fq9)
def Fk4 : T := (.w (.chk (.ite (.ite (.v 4) (.un .not (.bin .neq (.v 3) (.proj 0 (.v 1)))) (.c (.b false))) (.bin .neq (.proj 1 (.v 1)) (.c (.i .i64 43))) (.c .u))) (.ite (.ite (.v 4) (.ite (.bin .neq (.v 3) (.proj 0 (.v 1))) (.c (.b true)) (.bin .neq (.proj 1 (.v 1)) (.c (.i .i64 43)))) (.c (.b false))) Is7 Dj3))
def Fj7 : T := (.w (.call none true Gg1 [.sub 0 2 (.v 0), .proj 0 (.v 1)] 2) Fk4)
def Fj1 : T := (.ite (.un .not (.v 2)) Jd6 Fj7)
def Gy1 : T := (.w (.chk (.fit 2 (.v 0))) (.w (.chk (.fit 2 (.v 1))) (.w (.call none true By3 [.proj 0 (.v 1), .proj 0 (.v 0)] 1) Fj1)))
theorem Cw0 : type_of% (And.intro (tev_eq @Jd6.eq_1) (And.intro (tev_eq @Jw3.eq_1) (And.intro (tev_eq @Is7.eq_1) (And.intro (tev_eq @Il7.eq_1) (And.intro (tev_eq @If2.eq_1) (And.intro (tev_eq @Ib0.eq_1) (And.intro (tev_eq @Iw8.eq_1) (And.intro (tev_eq @Iq1.eq_1) (And.intro (tev_eq @Ht9.eq_1) (And.intro (tev_eq @Hs1.eq_1) (And.intro (tev_eq @Fy3.eq_1) (And.intro (tev_eq @Fw9.eq_1) (And.intro (tev_eq @Fv8.eq_1) (And.intro (tev_eq @Fq9.eq_1) (And.intro (tev_eq @Dj3.eq_1) (And.intro (tev_eq @Fk4.eq_1) (And.intro (tev_eq @Fj7.eq_1) (And.intro (tev_eq @Fj1.eq_1) (tev_eq @Gy1.eq_1))))))))))))))))))) := (And.intro (tev_eq @Jd6.eq_1) (And.intro (tev_eq @Jw3.eq_1) (And.intro (tev_eq @Is7.eq_1) (And.intro (tev_eq @Il7.eq_1) (And.intro (tev_eq @If2.eq_1) (And.intro (tev_eq @Ib0.eq_1) (And.intro (tev_eq @Iw8.eq_1) (And.intro (tev_eq @Iq1.eq_1) (And.intro (tev_eq @Ht9.eq_1) (And.intro (tev_eq @Hs1.eq_1) (And.intro (tev_eq @Fy3.eq_1) (And.intro (tev_eq @Fw9.eq_1) (And.intro (tev_eq @Fv8.eq_1) (And.intro (tev_eq @Fq9.eq_1) (And.intro (tev_eq @Dj3.eq_1) (And.intro (tev_eq @Fk4.eq_1) (And.intro (tev_eq @Fj7.eq_1) (And.intro (tev_eq @Fj1.eq_1) (tev_eq @Gy1.eq_1)))))))))))))))))))
def Jd5 : T := (.ret [.agg [.c (.i .i64 0), .c (.s []), .c (.b false), .c (.s []), .c (.l 16 [])]])
def Jw2 : T := (.w (.chk (.scal (.c (.i .i64 4)))) (.w (.chk (.scal (.v 3))) (.w (.chk (.scal (.v 5))) (.ret [.agg [.c (.i .i64 4), .v 3, .c (.b false), .c (.s []), .v 5]]))))
def Is6 : T := (.w (.call none false Bv9 [.sub 0 2 (.v 0), .v 3, .c (.i .i64 2)] 1) Jw2)
def Il6 : T := (.ite (.ite (.bin .gtr (.slen (.v 8)) (.c (.i .i64 0))) (.bin .eql (.sidx (.v 8) (.c (.i .i64 0))) (.c (.i .u8 42))) (.c (.b false))) (.yld 0 [.c (.s [])]) (.yld 0 [.v 8]))
def If1 : T := (.w (.chk (.scal (.c (.i .i64 3)))) (.w (.chk (.scal (.v 5))) (.w (.chk (.scal (.v 10))) (.w (.chk (.scal (.v 7))) (.ret [.agg [.c (.i .i64 3), .v 5, .c (.b false), .v 10, .v 7]])))))
def Iz9 : T := (.blk 0 Il6 If1)
def Iw7 : T := (.w (.call none true Hc6 [.proj 0 (.v 1), .v 5, .proj 6 (.idx 16 (.v 7) (.c (.i .i64 0)))] 2) Iz9)
def Iq0 : T := (.w (.call none false Bv9 [.sub 0 2 (.v 0), .v 5, .c (.i .i64 39)] 1) Iw7)
def Ht8 : T := (.w (.chk (.fit 5 (.v 9))) (.w (.chk (.scal (.proj 0 (.v 1)))) (.ret [.agg [.proj 0 (.v 9), .proj 0 (.v 1), .proj 2 (.v 9), .proj 3 (.v 9), .proj 4 (.v 9)]])))
def Hs0 : T := (.w (.call none false Gf8 [.v 8, .proj 1 (.v 1)] 1) Ht8)
def Fy2 : T := (.w (.call none false Gf7 [.sub 0 2 (.v 0), .proj 0 (.v 1)] 1) Hs0)
def Fw8 : T := (.w (.chk (.scal (.c (.i .i64 6)))) (.w (.chk (.scal (.proj 0 (.v 1)))) (.ret [.agg [.c (.i .i64 6), .proj 0 (.v 1), .c (.b false), .c (.s []), .c (.l 16 [])]])))
def Fv7 : T := (.w (.chk (.idx 16 (.v 13) (.v 14))) (.w (.chk (.scal (.proj 0 (.v 1)))) (.yld 1 [.set 16 (.v 13) (.v 14) 0 [.proj 0 (.v 1)], .bin .add (.v 14) (.c (.i .i64 1))])))
def Jm6 : T := (.ite (.bin .lss (.v 14) (.len (.v 13))) Fv7 (.yld 0 [.v 13]))
def Km8 : T := .loop 1 [.v 12, .c (.i .i64 0)] Jm6
def Fq8 : T := (.w (.chk (.fit 5 (.v 14))) (.w (.chk (.scal (.v 10))) (.w (.chk (.scal (.c (.b true)))) (.ret [.agg [.proj 0 (.v 14), .v 10, .c (.b true), .proj 3 (.v 14), .proj 4 (.v 14)]]))))
def Fq1 : T := (.w (.call none false Gf8 [.v 13, .proj 1 (.v 1)] 1) Fq8)
def Fk3 : T := (.blk 0 Km8 Fq1)
def Fj6 : T := (.ite (.ite (.un .not (.v 11)) (.c (.b true)) (.bin .eql (.len (.v 12)) (.c (.i .i64 0)))) Fw8 Fk3)
def Fj0 : T := (.w (.call none false Gf7 [.sub 0 2 (.v 0), .v 10] 1) Fj6)
def Et5 : T := (.w (.call none true Hc3 [.v 8] 2) Fj0)
def Et0 : T := (.w (.call none true Hc4 [.sub 0 2 (.v 0), .proj 0 (.v 1)] 2) Et5)
def En9 : T := (.ite (.v 7) Fy2 Et0)
def En4 : T := (.w (.call none true Hc5 [.sub 0 2 (.v 0), .proj 0 (.v 1)] 1) En9)
def En0 : T := (.ite (.v 6) Iq0 En4)
def Cp5 : T := (.w (.call none true Hc7 [.sub 0 2 (.v 0), .proj 0 (.v 1)] 2) En0)
def Em4 : T := (.w (.chk (.ite (.ite (.v 4) (.un .not (.bin .neq (.v 3) (.proj 0 (.v 1)))) (.c (.b false))) (.bin .neq (.proj 1 (.v 1)) (.c (.i .i64 43))) (.c .u))) (.ite (.ite (.v 4) (.ite (.bin .neq (.v 3) (.proj 0 (.v 1))) (.c (.b true)) (.bin .neq (.proj 1 (.v 1)) (.c (.i .i64 43)))) (.c (.b false))) Is6 Cp5))
def Em1 : T := (.w (.call none true Ds8 [.sub 0 2 (.v 0), .proj 0 (.v 1)] 2) Em4)
def El8 : T := (.ite (.un .not (.v 2)) Jd5 Em1)
def Gy0 : T := (.w (.chk (.fit 2 (.v 0))) (.w (.chk (.fit 2 (.v 1))) (.w (.call none true By1 [.proj 0 (.v 1), .proj 0 (.v 0)] 1) El8)))
theorem At3 : type_of% (And.intro (tev_eq @Jd5.eq_1) (And.intro (tev_eq @Jw2.eq_1) (And.intro (tev_eq @Is6.eq_1) (And.intro (tev_eq @Il6.eq_1) (And.intro (tev_eq @If1.eq_1) (And.intro (tev_eq @Iz9.eq_1) (And.intro (tev_eq @Iw7.eq_1) (And.intro (tev_eq @Iq0.eq_1) (And.intro (tev_eq @Ht8.eq_1) (And.intro (tev_eq @Hs0.eq_1) (And.intro (tev_eq @Fy2.eq_1) (And.intro (tev_eq @Fw8.eq_1) (And.intro (tev_eq @Fv7.eq_1) (And.intro (tev_eq @Jm6.eq_1) (And.intro (tev_eq @Fq8.eq_1) (And.intro (tev_eq @Fq1.eq_1) (And.intro (tev_eq @Fk3.eq_1) (And.intro (tev_eq @Fj6.eq_1) (And.intro (tev_eq @Fj0.eq_1) (And.intro (tev_eq @Et5.eq_1) (And.intro (tev_eq @Et0.eq_1) (And.intro (tev_eq @En9.eq_1) (And.intro (tev_eq @En4.eq_1) (And.intro (tev_eq @En0.eq_1) (And.intro (tev_eq @Cp5.eq_1) (And.intro (tev_eq @Em4.eq_1) (And.intro (tev_eq @Em1.eq_1) (And.intro (tev_eq @El8.eq_1) (tev_eq @Gy0.eq_1))))))))))))))))))))))))))))) := (And.intro (tev_eq @Jd5.eq_1) (And.intro (tev_eq @Jw2.eq_1) (And.intro (tev_eq @Is6.eq_1) (And.intro (tev_eq @Il6.eq_1) (And.intro (tev_eq @If1.eq_1) (And.intro (tev_eq @Iz9.eq_1) (And.intro (tev_eq @Iw7.eq_1) (And.intro (tev_eq @Iq0.eq_1) (And.intro (tev_eq @Ht8.eq_1) (And.intro (tev_eq @Hs0.eq_1) (And.intro (tev_eq @Fy2.eq_1) (And.intro (tev_eq @Fw8.eq_1) (And.intro (tev_eq @Fv7.eq_1) (And.intro (tev_eq @Jm6.eq_1) (And.intro (tev_eq @Fq8.eq_1) (And.intro (tev_eq @Fq1.eq_1) (And.intro (tev_eq @Fk3.eq_1) (And.intro (tev_eq @Fj6.eq_1) (And.intro (tev_eq @Fj0.eq_1) (And.intro (tev_eq @Et5.eq_1) (And.intro (tev_eq @Et0.eq_1) (And.intro (tev_eq @En9.eq_1) (And.intro (tev_eq @En4.eq_1) (And.intro (tev_eq @En0.eq_1) (And.intro (tev_eq @Cp5.eq_1) (And.intro (tev_eq @Em4.eq_1) (And.intro (tev_eq @Em1.eq_1) (And.intro (tev_eq @El8.eq_1) (tev_eq @Gy0.eq_1)))))))))))))))))))))))))))))
def Jd4 : T := (.ret [.app 5 (.v 2) (.lit 5 [.sub 0 5 (.v 5)]), .c (.b true)])
def Jw1 : T := (.ret [.app 5 (.v 2) (.lit 5 [.sub 0 5 (.v 5)]), .c (.b false)])
def Is5 : T := (.ret [.app 5 (.v 2) (.lit 5 [.sub 0 5 (.v 5)]), .c (.b true)])
def Il5 : T := (.ret [.app 5 (.v 2) (.lit 5 [.sub 0 5 (.v 5)]), .c (.b false)])
def If0 : T := (.w (.chk (.scal (.proj 3 (.v 5)))) (.yld 1 [.app 5 (.v 2) (.lit 5 [.sub 0 5 (.v 5)]), .app 1 (.v 3) (.lit 1 [.proj 3 (.v 5)]), .proj 3 (.v 5)]))
def Iz8 : T := (.ite (.v 7) Il5 If0)
def Iw6 : T := (.w (.call none true Cy6 [.v 3, .proj 3 (.v 5)] 1) Iz8)
def Ik9 : T := (.ite (.un .not (.v 6)) Is5 Iw6)
def Ht7 : T := (.w (.call none true By3 [.proj 3 (.v 5), .proj 0 (.v 0)] 1) Ik9)
def Hr9 : T := (.ite (.bin .eql (.len (.app 5 (.v 2) (.lit 5 [.sub 0 5 (.v 5)]))) (.c (.i .i64 9))) Jw1 Ht7)
def Fy1 : T := (.w (.chk (.fit 5 (.v 5))) (.w (.chk (.fit 5 (.sub 0 5 (.v 5)))) (.ite (.ite (.ite (.bin .neq (.proj 0 (.v 5)) (.c (.i .i64 2))) (.bin .neq (.proj 0 (.v 5)) (.c (.i .i64 3))) (.c (.b false))) (.c (.b true)) (.bin .eql (.proj 3 (.v 5)) (.c (.s [])))) Jd4 Hr9)))
def Jm5 : T := (.w (.call none false Hd9 [.sub 0 2 (.v 0), .agg [.v 4, .proj 1 (.v 1)]] 1) Fy1)
def Km7 : T := .loop 1 [.c (.l 5 []), .lit 1 [.proj 0 (.v 1)], .proj 0 (.v 1)] Jm5
def Gx9 : T := (.w (.chk (.fit 2 (.v 0))) (.w (.chk (.fit 2 (.v 1))) (.w (.chk (.scal (.proj 0 (.v 1)))) (.blk 0 Km7 (.ret [.c .u, .c .u])))))
theorem Dx4 : type_of% (And.intro (tev_eq @Jd4.eq_1) (And.intro (tev_eq @Jw1.eq_1) (And.intro (tev_eq @Is5.eq_1) (And.intro (tev_eq @Il5.eq_1) (And.intro (tev_eq @If0.eq_1) (And.intro (tev_eq @Iz8.eq_1) (And.intro (tev_eq @Iw6.eq_1) (And.intro (tev_eq @Ik9.eq_1) (And.intro (tev_eq @Ht7.eq_1) (And.intro (tev_eq @Hr9.eq_1) (And.intro (tev_eq @Fy1.eq_1) (And.intro (tev_eq @Jm5.eq_1) (tev_eq @Gx9.eq_1))))))))))))) := (And.intro (tev_eq @Jd4.eq_1) (And.intro (tev_eq @Jw1.eq_1) (And.intro (tev_eq @Is5.eq_1) (And.intro (tev_eq @Il5.eq_1) (And.intro (tev_eq @If0.eq_1) (And.intro (tev_eq @Iz8.eq_1) (And.intro (tev_eq @Iw6.eq_1) (And.intro (tev_eq @Ik9.eq_1) (And.intro (tev_eq @Ht7.eq_1) (And.intro (tev_eq @Hr9.eq_1) (And.intro (tev_eq @Fy1.eq_1) (And.intro (tev_eq @Jm5.eq_1) (tev_eq @Gx9.eq_1)))))))))))))
def Lm1 : T := (.w (.chk (.scal (.c (.s [110, 46, 120, 46])))) (.w (.chk (.scal (.c (.s [109, 46, 120, 46])))) (.w (.chk (.scal (.c (.i .i64 5)))) (.w (.chk (.scal (.c (.i .i64 6)))) (.w (.chk (.scal (.c (.i .u64 1)))) (.w (.chk (.scal (.c (.s [42, 46, 120, 46])))) (.w (.chk (.scal (.c (.i .i64 1)))) (.w (.chk (.scal (.c (.s [110, 46, 100, 46, 120, 46])))) (.w (.chk (.scal (.c (.s [100, 46, 120, 46])))) (.w (.chk (.scal (.c (.i .i64 2)))) (.w (.chk (.scal (.c (.i .i64 9)))) (.w (.chk (.scal (.c (.s [120, 46])))) (.w (.chk (.scal (.lit 16 [.agg [.c (.s [120, 46]), .c (.i .i64 2), .c (.i .i64 9), .c (.b false), .c (.i .u64 0), .c (.i .u64 0), .c (.s [110, 46, 120, 46]), .c (.s []), .c (.s []), .c (.i .i64 0), .c (.i .i64 0), .c (.i .i64 0), .c (.i .i64 0), .c (.i .i64 0), .c (.i .i64 0), .c (.i .u64 0)], .agg [.c (.s [120, 46]), .c (.i .i64 6), .c (.i .i64 9), .c (.b false), .c (.i .u64 0), .c (.i .u64 0), .c (.s [110, 46, 120, 46]), .c (.s [109, 46, 120, 46]), .c (.s []), .c (.i .i64 0), .c (.i .i64 0), .c (.i .i64 0), .c (.i .i64 0), .c (.i .i64 5), .c (.i .i64 0), .c (.i .u64 0)], .agg [.c (.s [42, 46, 120, 46]), .c (.i .i64 1), .c (.i .i64 9), .c (.b false), .c (.i .u64 0), .c (.i .u64 1), .c (.s []), .c (.s []), .c (.s []), .c (.i .i64 0), .c (.i .i64 0), .c (.i .i64 0), .c (.i .i64 0), .c (.i .i64 0), .c (.i .i64 0), .c (.i .u64 0)], .agg [.c (.s [100, 46, 120, 46]), .c (.i .i64 2), .c (.i .i64 9), .c (.b false), .c (.i .u64 0), .c (.i .u64 0), .c (.s [110, 46, 100, 46, 120, 46]), .c (.s []), .c (.s []), .c (.i .i64 0), .c (.i .i64 0), .c (.i .i64 0), .c (.i .i64 0), .c (.i .i64 0), .c (.i .i64 0), .c (.i .u64 0)]]))) (.ret [.agg [.c (.s [120, 46]), .lit 16 [.agg [.c (.s [120, 46]), .c (.i .i64 2), .c (.i .i64 9), .c (.b false), .c (.i .u64 0), .c (.i .u64 0), .c (.s [110, 46, 120, 46]), .c (.s []), .c (.s []), .c (.i .i64 0), .c (.i .i64 0), .c (.i .i64 0), .c (.i .i64 0), .c (.i .i64 0), .c (.i .i64 0), .c (.i .u64 0)], .agg [.c (.s [120, 46]), .c (.i .i64 6), .c (.i .i64 9), .c (.b false), .c (.i .u64 0), .c (.i .u64 0), .c (.s [110, 46, 120, 46]), .c (.s [109, 46, 120, 46]), .c (.s []), .c (.i .i64 0), .c (.i .i64 0), .c (.i .i64 0), .c (.i .i64 0), .c (.i .i64 5), .c (.i .i64 0), .c (.i .u64 0)], .agg [.c (.s [42, 46, 120, 46]), .c (.i .i64 1), .c (.i .i64 9), .c (.b false), .c (.i .u64 0), .c (.i .u64 1), .c (.s []), .c (.s []), .c (.s []), .c (.i .i64 0), .c (.i .i64 0), .c (.i .i64 0), .c (.i .i64 0), .c (.i .i64 0), .c (.i .i64 0), .c (.i .u64 0)], .agg [.c (.s [100, 46, 120, 46]), .c (.i .i64 2), .c (.i .i64 9), .c (.b false), .c (.i .u64 0), .c (.i .u64 0), .c (.s [110, 46, 100, 46, 120, 46]), .c (.s []), .c (.s []), .c (.i .i64 0), .c (.i .i64 0), .c (.i .i64 0), .c (.i .i64 0), .c (.i .i64 0), .c (.i .i64 0), .c (.i .u64 0)]]]]))))))))))))))
def Jd3 : T := (.ret [.app 5 (.v 2) (.lit 5 [.sub 0 5 (.v 5)]), .c (.b true)])
def Jw0 : T := (.ret [.app 5 (.v 2) (.lit 5 [.sub 0 5 (.v 5)]), .c (.b false)])
def Is4 : T := (.ret [.app 5 (.v 2) (.lit 5 [.sub 0 5 (.v 5)]), .c (.b true)])
def Il4 : T := (.ret [.app 5 (.v 2) (.lit 5 [.sub 0 5 (.v 5)]), .c (.b false)])
def Id9 : T := (.yld 3 [.bin .add (.v 8) (.c (.i .i64 1))])
def Iz7 : T := (.ite (.bin .eql (.proj 0 (.idx 1 (.v 3) (.v 8))) (.proj 3 (.v 5))) Il4 Id9)
def Jg6 : T := (.ite (.bin .lss (.v 8) (.len (.v 3))) Iz7 (.yld 2 []))
def Kg1 : T := .loop 3 [.c (.i .i64 0)] Jg6
def Iw5 : T := (.w (.chk (.scal (.proj 3 (.v 5)))) (.yld 1 [.app 5 (.v 2) (.lit 5 [.sub 0 5 (.v 5)]), .app 1 (.v 3) (.lit 1 [.proj 3 (.v 5)]), .bin .add (.v 4) (.c (.i .i64 1))]))
def Ik8 : T := (.blk 2 Kg1 Iw5)
def Ht6 : T := (.ite (.un .not (.v 7)) Is4 Ik8)
def Hr8 : T := (.w (.call none true By1 [.proj 3 (.v 5), .proj 0 (.v 0)] 1) Ht6)
def Fy0 : T := (.ite (.bin .gtr (.len (.app 5 (.v 2) (.lit 5 [.sub 0 5 (.v 5)]))) (.c (.i .i64 8))) Jw0 Hr8)
def Fw7 : T := (.ite (.un .not (.v 6)) Jd3 Fy0)
def Fv6 : T := (.w (.chk (.fit 5 (.v 5))) (.w (.chk (.fit 5 (.sub 0 5 (.v 5)))) (.w (.chk (.app 5 (.v 2) (.lit 5 [.sub 0 5 (.v 5)]))) (.w (.call none true Hc2 [.sub 0 5 (.v 5)] 1) Fw7))))
def Fq7 : T := (.w (.chk (.scal (.proj 0 (.idx 1 (.v 3) (.v 4))))) (.w (.chk (.scal (.proj 1 (.v 1)))) (.w (.call none false Hd8 [.sub 0 2 (.v 0), .agg [.proj 0 (.idx 1 (.v 3) (.v 4)), .proj 1 (.v 1)]] 1) Fv6)))
def Jm4 : T := (.ite (.bin .leq (.v 4) (.c (.i .i64 8))) Fq7 (.yld 0 [.v 2]))
def Km6 : T := .loop 1 [.c (.l 5 []), .lit 1 [.proj 0 (.v 1)], .c (.i .i64 0)] Jm4
def Fq0 : T := (.ret [.v 2, .c (.b false)])
def Gx8 : T := (.w (.chk (.fit 2 (.v 0))) (.w (.chk (.fit 2 (.v 1))) (.w (.chk (.scal (.proj 0 (.v 1)))) (.blk 0 Km6 Fq0))))
theorem Cv9 : type_of% (And.intro (tev_eq @Jd3.eq_1) (And.intro (tev_eq @Jw0.eq_1) (And.intro (tev_eq @Is4.eq_1) (And.intro (tev_eq @Il4.eq_1) (And.intro (tev_eq @Id9.eq_1) (And.intro (tev_eq @Iz7.eq_1) (And.intro (tev_eq @Jg6.eq_1) (And.intro (tev_eq @Iw5.eq_1) (And.intro (tev_eq @Ik8.eq_1) (And.intro (tev_eq @Ht6.eq_1) (And.intro (tev_eq @Hr8.eq_1) (And.intro (tev_eq @Fy0.eq_1) (And.intro (tev_eq @Fw7.eq_1) (And.intro (tev_eq @Fv6.eq_1) (And.intro (tev_eq @Fq7.eq_1) (And.intro (tev_eq @Jm4.eq_1) (And.intro (tev_eq @Fq0.eq_1) (tev_eq @Gx8.eq_1)))))))))))))))))) := (And.intro (tev_eq @Jd3.eq_1) (And.intro (tev_eq @Jw0.eq_1) (And.intro (tev_eq @Is4.eq_1) (And.intro (tev_eq @Il4.eq_1) (And.intro (tev_eq @Id9.eq_1) (And.intro (tev_eq @Iz7.eq_1) (And.intro (tev_eq @Jg6.eq_1) (And.intro (tev_eq @Iw5.eq_1) (And.intro (tev_eq @Ik8.eq_1) (And.intro (tev_eq @Ht6.eq_1) (And.intro (tev_eq @Hr8.eq_1) (And.intro (tev_eq @Fy0.eq_1) (And.intro (tev_eq @Fw7.eq_1) (And.intro (tev_eq @Fv6.eq_1) (And.intro (tev_eq @Fq7.eq_1) (And.intro (tev_eq @Jm4.eq_1) (And.intro (tev_eq @Fq0.eq_1) (tev_eq @Gx8.eq_1))))))))))))))))))
def Jd2 : T := (.w (.chk (.fit 17 (.v 2))) (.ret [.sub 0 17 (.v 2)]))
def Jv9 : T := (.w (.call none false Dc5 [.sub 0 17 (.v 1), .c (.i .i64 4)] 1) Jd2)
def Is3 : T := (.w (.chk (.fit 17 (.v 4))) (.ret [.sub 0 17 (.v 4)]))
def Il3 : T := (.w (.call none false Dc5 [.sub 0 17 (.v 1), .c (.i .i64 5)] 1) Is3)
def Id8 : T := (.w (.chk (.fit 17 (.v 4))) (.ret [.sub 0 17 (.v 4)]))
def Iz6 : T := (.w (.call none false Dc5 [.sub 0 17 (.v 1), .c (.i .i64 2)] 1) Id8)
def Iw4 : T := (.yld 2 [.bin .eql (.proj 0 (.sub 0 5 (.idx 5 (.v 2) (.v 6)))) (.c (.i .i64 2)), .v 7])
def Ik7 : T := (.yld 2 [.bin .eql (.proj 0 (.sub 0 5 (.idx 5 (.v 2) (.v 6)))) (.c (.i .i64 1)), .v 7])
def Ht5 : T := (.ite (.bin .eql (.proj 0 (.sub 0 5 (.idx 5 (.v 2) (.v 6)))) (.c (.i .i64 2))) Iw4 Ik7)
def Hr7 : T := (.yld 2 [.v 8, .app 16 (.v 9) (.proj 4 (.sub 0 5 (.idx 5 (.v 2) (.v 6))))])
def Fx9 : T := (.w (.chk (.scal (.proj 3 (.sub 0 5 (.idx 5 (.v 2) (.v 6)))))) (.w (.chk (.scal (.v 5))) (.w (.chk (.scal (.c (.i .i64 5)))) (.w (.chk (.scal (.proj 2 (.idx 16 (.proj 4 (.sub 0 5 (.idx 5 (.v 2) (.v 6)))) (.c (.i .i64 0)))))) (.yld 2 [.v 8, .app 16 (.app 16 (.v 9) (.proj 4 (.sub 0 5 (.idx 5 (.v 2) (.v 6))))) (.lit 16 [.agg [.v 5, .c (.i .i64 5), .proj 2 (.idx 16 (.proj 4 (.sub 0 5 (.idx 5 (.v 2) (.v 6)))) (.c (.i .i64 0))), .c (.b false), .c (.i .u64 0), .c (.i .u64 0), .proj 3 (.sub 0 5 (.idx 5 (.v 2) (.v 6))), .c (.s []), .c (.s []), .c (.i .i64 0), .c (.i .i64 0), .c (.i .i64 0), .c (.i .i64 0), .c (.i .i64 0), .c (.i .i64 0), .c (.i .u64 0)]])])))))
def Fw6 : T := (.yld 2 [.v 8, .app 16 (.v 9) (.proj 4 (.sub 0 5 (.idx 5 (.v 2) (.v 6))))])
def Fv5 : T := (.ite (.bin .neq (.proj 3 (.sub 0 5 (.idx 5 (.v 2) (.v 6)))) (.c (.s []))) Fx9 Fw6)
def Fq6 : T := (.ite (.bin .eql (.proj 0 (.sub 0 5 (.idx 5 (.v 2) (.v 6)))) (.c (.i .i64 3))) Fv5 (.yld 2 [.v 8, .v 9]))
def Fk9 : T := (.ite (.v 8) Hr7 Fq6)
def Fk2 : T := (.yld 1 [.proj 3 (.sub 0 5 (.idx 5 (.v 2) (.v 6))), .bin .add (.v 6) (.c (.i .i64 1)), .v 11])
def Fj5 : T := (.blk 2 Fk9 Fk2)
def Et9 : T := (.w (.chk (.fit 5 (.sub 0 5 (.idx 5 (.v 2) (.v 6))))) (.blk 2 Ht5 Fj5))
def Jm3 : T := (.ite (.bin .lss (.v 6) (.len (.v 2))) Et9 (.yld 0 [.v 7]))
def Km5 : T := .loop 1 [.proj 12 (.v 1), .c (.i .i64 0), .c (.l 16 [])] Jm3
def Et4 : T := (.w (.chk (.scal (.v 7))) (.ret [.agg [.proj 0 (.v 4), .proj 1 (.v 4), .proj 2 (.v 4), .proj 3 (.v 4), .bin .neq (.proj 0 (.idx 5 (.v 2) (.c (.i .i64 0)))) (.c (.i .i64 4)), .proj 5 (.v 4), .proj 6 (.v 4), .proj 7 (.v 4), .proj 8 (.v 4), .proj 9 (.v 4), .proj 10 (.v 4), .proj 11 (.v 4), .proj 12 (.v 4), .proj 13 (.v 4), .v 5, .proj 4 (.sub 0 5 (.idx 5 (.v 2) (.bin .sub (.len (.v 2)) (.c (.i .i64 1))))), .v 7]]))
def Es9 : T := (.w (.call none false Hc1 [.sub 0 2 (.v 0), .v 6] 1) Et4)
def En8 : T := (.w (.chk (.scal (.proj 4 (.sub 0 5 (.idx 5 (.v 2) (.bin .sub (.len (.v 2)) (.c (.i .i64 1)))))))) (.w (.call none false Gf6 [.proj 4 (.sub 0 5 (.idx 5 (.v 2) (.bin .sub (.len (.v 2)) (.c (.i .i64 1)))))] 1) Es9))
def En3 : T := (.w (.chk (.scal (.v 6))) (.ret [.agg [.proj 0 (.v 4), .proj 1 (.v 4), .proj 2 (.v 4), .proj 3 (.v 4), .bin .neq (.proj 0 (.idx 5 (.v 2) (.c (.i .i64 0)))) (.c (.i .i64 4)), .proj 5 (.v 4), .proj 6 (.v 4), .proj 7 (.v 4), .proj 8 (.v 4), .proj 9 (.v 4), .proj 10 (.v 4), .proj 11 (.v 4), .proj 12 (.v 4), .proj 13 (.v 4), .v 5, .v 6, .proj 16 (.v 4)]]))
def Em9 : T := (.w (.call none false Gg2 [.sub 0 2 (.v 0)] 1) En3)
def Em6 : T := (.w (.chk (.scal (.v 6))) (.w (.chk (.scal (.c (.i .i64 3)))) (.ret [.agg [.proj 0 (.v 4), .proj 1 (.v 4), .c (.i .i64 3), .proj 3 (.v 4), .bin .neq (.proj 0 (.idx 5 (.v 2) (.c (.i .i64 0)))) (.c (.i .i64 4)), .proj 5 (.v 4), .proj 6 (.v 4), .proj 7 (.v 4), .proj 8 (.v 4), .proj 9 (.v 4), .proj 10 (.v 4), .proj 11 (.v 4), .proj 12 (.v 4), .proj 13 (.v 4), .v 5, .v 6, .proj 16 (.v 4)]])))
def Em3 : T := (.w (.call none false Gg2 [.sub 0 2 (.v 0)] 1) Em6)
def Em0 : T := (.w (.chk (.scal (.v 7))) (.ret [.agg [.proj 0 (.v 4), .proj 1 (.v 4), .proj 2 (.v 4), .proj 3 (.v 4), .bin .neq (.proj 0 (.idx 5 (.v 2) (.c (.i .i64 0)))) (.c (.i .i64 4)), .proj 5 (.v 4), .proj 6 (.v 4), .proj 7 (.v 4), .proj 8 (.v 4), .proj 9 (.v 4), .proj 10 (.v 4), .proj 11 (.v 4), .proj 12 (.v 4), .proj 13 (.v 4), .v 5, .proj 15 (.v 4), .v 7]]))
def El7 : T := (.w (.call none false Hc0 [.sub 0 2 (.v 0), .v 6] 1) Em0)
def El5 : T := (.w (.call none false Gf6 [.proj 4 (.sub 0 5 (.idx 5 (.v 2) (.bin .sub (.len (.v 2)) (.c (.i .i64 1)))))] 1) El7)
def El3 : T := (.w (.chk (.scal (.c (.i .i64 6)))) (.ret [.agg [.proj 0 (.v 4), .proj 1 (.v 4), .c (.i .i64 6), .proj 3 (.v 4), .bin .neq (.proj 0 (.idx 5 (.v 2) (.c (.i .i64 0)))) (.c (.i .i64 4)), .proj 5 (.v 4), .proj 6 (.v 4), .proj 7 (.v 4), .proj 8 (.v 4), .proj 9 (.v 4), .proj 10 (.v 4), .proj 11 (.v 4), .proj 12 (.v 4), .proj 13 (.v 4), .v 5, .proj 15 (.v 4), .proj 16 (.v 4)]]))
def El1 : T := (.ret [.agg [.proj 0 (.v 4), .proj 1 (.v 4), .proj 2 (.v 4), .proj 3 (.v 4), .bin .neq (.proj 0 (.idx 5 (.v 2) (.c (.i .i64 0)))) (.c (.i .i64 4)), .proj 5 (.v 4), .proj 6 (.v 4), .proj 7 (.v 4), .proj 8 (.v 4), .proj 9 (.v 4), .proj 10 (.v 4), .proj 11 (.v 4), .proj 12 (.v 4), .proj 13 (.v 4), .v 5, .proj 15 (.v 4), .proj 16 (.v 4)]])
def Ef5 : T := (.ite (.bin .eql (.proj 3 (.sub 0 5 (.idx 5 (.v 2) (.bin .sub (.len (.v 2)) (.c (.i .i64 1)))))) (.c (.s []))) El3 El1)
def Ef3 : T := (.ret [.agg [.proj 0 (.v 4), .proj 1 (.v 4), .proj 2 (.v 4), .proj 3 (.v 4), .bin .neq (.proj 0 (.idx 5 (.v 2) (.c (.i .i64 0)))) (.c (.i .i64 4)), .proj 5 (.v 4), .proj 6 (.v 4), .proj 7 (.v 4), .proj 8 (.v 4), .proj 9 (.v 4), .proj 10 (.v 4), .proj 11 (.v 4), .proj 12 (.v 4), .proj 13 (.v 4), .v 5, .proj 15 (.v 4), .proj 16 (.v 4)]])
def Ef1 : T := (.ite (.bin .eql (.proj 0 (.sub 0 5 (.idx 5 (.v 2) (.bin .sub (.len (.v 2)) (.c (.i .i64 1)))))) (.c (.i .i64 3))) Ef5 Ef3)
def Ed9 : T := (.ite (.bin .eql (.proj 0 (.sub 0 5 (.idx 5 (.v 2) (.bin .sub (.len (.v 2)) (.c (.i .i64 1)))))) (.c (.i .i64 1))) El5 Ef1)
def Ed7 : T := (.ite (.bin .eql (.proj 0 (.sub 0 5 (.idx 5 (.v 2) (.bin .sub (.len (.v 2)) (.c (.i .i64 1)))))) (.c (.i .i64 6))) Em3 Ed9)
def Ed5 : T := (.ite (.bin .eql (.proj 0 (.sub 0 5 (.idx 5 (.v 2) (.bin .sub (.len (.v 2)) (.c (.i .i64 1)))))) (.c (.i .i64 5))) Em9 Ed7)
def Ed3 : T := (.w (.chk (.fit 5 (.sub 0 5 (.idx 5 (.v 2) (.bin .sub (.len (.v 2)) (.c (.i .i64 1))))))) (.ite (.bin .eql (.proj 0 (.sub 0 5 (.idx 5 (.v 2) (.bin .sub (.len (.v 2)) (.c (.i .i64 1)))))) (.c (.i .i64 4))) En8 Ed5))
def Ed2 : T := (.w (.chk (.fit 17 (.v 4))) (.w (.chk (.scal (.bin .neq (.proj 0 (.idx 5 (.v 2) (.c (.i .i64 0)))) (.c (.i .i64 4))))) (.w (.chk (.len (.v 2))) (.blk 0 Km5 Ed3))))
def Ed1 : T := (.w (.call none false Dc5 [.sub 0 17 (.v 1), .c (.i .i64 0)] 1) Ed2)
def Ed0 : T := (.ite (.un .not (.v 3)) Iz6 Ed1)
def Eb1 : T := (.ite (.bin .eql (.proj 0 (.idx 5 (.v 2) (.c (.i .i64 0)))) (.c (.i .i64 0))) Il3 Ed0)
def Eb0 : T := (.w (.call none false Hd7 [.sub 0 2 (.v 0), .agg [.proj 12 (.v 1), .proj 13 (.v 1)]] 2) Eb1)
def Gx7 : T := (.w (.chk (.fit 2 (.v 0))) (.w (.chk (.fit 17 (.v 1))) (.ite (.ite (.ite (.bin .neq (.proj 1 (.v 1)) (.c (.i .i64 0))) (.c (.b true)) (.bin .eql (.proj 13 (.v 1)) (.c (.i .i64 251)))) (.c (.b true)) (.bin .eql (.proj 13 (.v 1)) (.c (.i .i64 252)))) Jv9 Eb0)))
theorem Al2 : type_of% (And.intro (tev_eq @Jd2.eq_1) (And.intro (tev_eq @Jv9.eq_1) (And.intro (tev_eq @Is3.eq_1) (And.intro (tev_eq @Il3.eq_1) (And.intro (tev_eq @Id8.eq_1) (And.intro (tev_eq @Iz6.eq_1) (And.intro (tev_eq @Iw4.eq_1) (And.intro (tev_eq @Ik7.eq_1) (And.intro (tev_eq @Ht5.eq_1) (And.intro (tev_eq @Hr7.eq_1) (And.intro (tev_eq @Fx9.eq_1) (And.intro (tev_eq @Fw6.eq_1) (And.intro (tev_eq @Fv5.eq_1) (And.intro (tev_eq @Fq6.eq_1) (And.intro (tev_eq @Fk9.eq_1) (And.intro (tev_eq @Fk2.eq_1) (And.intro (tev_eq @Fj5.eq_1) (And.intro (tev_eq @Et9.eq_1) (And.intro (tev_eq @Jm3.eq_1) (And.intro (tev_eq @Et4.eq_1) (And.intro (tev_eq @Es9.eq_1) (And.intro (tev_eq @En8.eq_1) (And.intro (tev_eq @En3.eq_1) (And.intro (tev_eq @Em9.eq_1) (And.intro (tev_eq @Em6.eq_1) (And.intro (tev_eq @Em3.eq_1) (And.intro (tev_eq @Em0.eq_1) (And.intro (tev_eq @El7.eq_1) (And.intro (tev_eq @El5.eq_1) (And.intro (tev_eq @El3.eq_1) (And.intro (tev_eq @El1.eq_1) (And.intro (tev_eq @Ef5.eq_1) (And.intro (tev_eq @Ef3.eq_1) (And.intro (tev_eq @Ef1.eq_1) (And.intro (tev_eq @Ed9.eq_1) (And.intro (tev_eq @Ed7.eq_1) (And.intro (tev_eq @Ed5.eq_1) (And.intro (tev_eq @Ed3.eq_1) (And.intro (tev_eq @Ed2.eq_1) (And.intro (tev_eq @Ed1.eq_1) (And.intro (tev_eq @Ed0.eq_1) (And.intro (tev_eq @Eb1.eq_1) (And.intro (tev_eq @Eb0.eq_1) (tev_eq @Gx7.eq_1)))))))))))))))))))))))))))))))))))))))))))) := (And.intro (tev_eq @Jd2.eq_1) (And.intro (tev_eq @Jv9.eq_1) (And.intro (tev_eq @Is3.eq_1) (And.intro (tev_eq @Il3.eq_1) (And.intro (tev_eq @Id8.eq_1) (And.intro (tev_eq @Iz6.eq_1) (And.intro (tev_eq @Iw4.eq_1) (And.intro (tev_eq @Ik7.eq_1) (And.intro (tev_eq @Ht5.eq_1) (And.intro (tev_eq @Hr7.eq_1) (And.intro (tev_eq @Fx9.eq_1) (And.intro (tev_eq @Fw6.eq_1) (And.intro (tev_eq @Fv5.eq_1) (And.intro (tev_eq @Fq6.eq_1) (And.intro (tev_eq @Fk9.eq_1) (And.intro (tev_eq @Fk2.eq_1) (And.intro (tev_eq @Fj5.eq_1) (And.intro (tev_eq @Et9.eq_1) (And.intro (tev_eq @Jm3.eq_1) (And.intro (tev_eq @Et4.eq_1) (And.intro (tev_eq @Es9.eq_1) (And.intro (tev_eq @En8.eq_1) (And.intro (tev_eq @En3.eq_1) (And.intro (tev_eq @Em9.eq_1) (And.intro (tev_eq @Em6.eq_1) (And.intro (tev_eq @Em3.eq_1) (And.intro (tev_eq @Em0.eq_1) (And.intro (tev_eq @El7.eq_1) (And.intro (tev_eq @El5.eq_1) (And.intro (tev_eq @El3.eq_1) (And.intro (tev_eq @El1.eq_1) (And.intro (tev_eq @Ef5.eq_1) (And.intro (tev_eq @Ef3.eq_1) (And.intro (tev_eq @Ef1.eq_1) (And.intro (tev_eq @Ed9.eq_1) (And.intro (tev_eq @Ed7.eq_1) (And.intro (tev_eq @Ed5.eq_1) (And.intro (tev_eq @Ed3.eq_1) (And.intro (tev_eq @Ed2.eq_1) (And.intro (tev_eq @Ed1.eq_1) (And.intro (tev_eq @Ed0.eq_1) (And.intro (tev_eq @Eb1.eq_1) (And.intro (tev_eq @Eb0.eq_1) (tev_eq @Gx7.eq_1))))))))))))))))))))))))))))))))))))))))))))
def Jd1 : T := (.w (.chk (.fit 17 (.v 2))) (.ret [.sub 0 17 (.v 2)]))
def Jv8 : T := (.w (.call none false Dc4 [.sub 0 17 (.v 1), .c (.i .i64 4)] 1) Jd1)
def Is2 : T := (.w (.chk (.fit 17 (.v 4))) (.ret [.sub 0 17 (.v 4)]))
def Il2 : T := (.w (.call none false Dc4 [.sub 0 17 (.v 1), .c (.i .i64 5)] 1) Is2)
def Id7 : T := (.w (.chk (.fit 17 (.v 4))) (.ret [.sub 0 17 (.v 4)]))
def Iz5 : T := (.w (.call none false Dc4 [.sub 0 17 (.v 1), .c (.i .i64 2)] 1) Id7)
def Iw3 : T := (.w (.chk (.scal (.v 7))) (.yld 0 [.proj 4 (.sub 0 5 (.idx 5 (.v 2) (.bin .sub (.len (.v 2)) (.c (.i .i64 1))))), .v 7]))
def Ik6 : T := (.w (.call none false Hb8 [.sub 0 2 (.v 0), .v 6] 1) Iw3)
def Ht4 : T := (.w (.chk (.scal (.proj 4 (.sub 0 5 (.idx 5 (.v 2) (.bin .sub (.len (.v 2)) (.c (.i .i64 1)))))))) (.w (.call none false Gf5 [.proj 4 (.sub 0 5 (.idx 5 (.v 2) (.bin .sub (.len (.v 2)) (.c (.i .i64 1)))))] 1) Ik6))
def Hr6 : T := (.yld 1 [.bin .eql (.proj 0 (.sub 0 5 (.idx 5 (.v 2) (.bin .sub (.len (.v 2)) (.c (.i .i64 1)))))) (.c (.i .i64 5)), .proj 15 (.v 4), .proj 16 (.v 4)])
def Fx8 : T := (.yld 1 [.bin .eql (.proj 0 (.sub 0 5 (.idx 5 (.v 2) (.bin .sub (.len (.v 2)) (.c (.i .i64 1)))))) (.c (.i .i64 6)), .proj 15 (.v 4), .proj 16 (.v 4)])
def Fw5 : T := (.ite (.bin .eql (.proj 0 (.sub 0 5 (.idx 5 (.v 2) (.bin .sub (.len (.v 2)) (.c (.i .i64 1)))))) (.c (.i .i64 5))) Hr6 Fx8)
def Fv4 : T := (.w (.chk (.scal (.v 9))) (.yld 1 [.v 6, .v 9, .v 8]))
def Fq5 : T := (.w (.call none false Hb7 [.sub 0 2 (.v 0)] 1) Fv4)
def Fk8 : T := (.w (.chk (.scal (.v 10))) (.yld 2 [.v 10]))
def Fk1 : T := (.w (.call none false Hb6 [.sub 0 2 (.v 0), .v 9] 1) Fk8)
def Fj4 : T := (.w (.call none false Gf5 [.proj 4 (.sub 0 5 (.idx 5 (.v 2) (.bin .sub (.len (.v 2)) (.c (.i .i64 1)))))] 1) Fk1)
def Et8 : T := (.ite (.bin .eql (.proj 0 (.sub 0 5 (.idx 5 (.v 2) (.bin .sub (.len (.v 2)) (.c (.i .i64 1)))))) (.c (.i .i64 1))) Fj4 (.yld 2 [.v 8]))
def Et3 : T := (.yld 1 [.v 6, .v 7, .v 9])
def Es8 : T := (.blk 2 Et8 Et3)
def En7 : T := (.ite (.v 6) Fq5 Es8)
def En2 : T := (.blk 1 En7 (.yld 0 [.v 10, .v 11]))
def Em8 : T := (.blk 1 Fw5 En2)
def Em5 : T := (.ite (.bin .eql (.proj 0 (.sub 0 5 (.idx 5 (.v 2) (.bin .sub (.len (.v 2)) (.c (.i .i64 1)))))) (.c (.i .i64 4))) Ht4 Em8)
def Em2 : T := (.w (.chk (.scal (.c (.i .i64 3)))) (.yld 0 [.c (.i .i64 3)]))
def El9 : T := (.ite (.bin .eql (.proj 0 (.sub 0 5 (.idx 5 (.v 2) (.bin .sub (.len (.v 2)) (.c (.i .i64 1)))))) (.c (.i .i64 6))) Em2 (.yld 0 [.proj 2 (.v 4)]))
def El6 : T := (.w (.chk (.scal (.c (.i .i64 6)))) (.ret [.agg [.proj 0 (.v 4), .proj 1 (.v 4), .c (.i .i64 6), .proj 3 (.v 4), .bin .neq (.proj 0 (.idx 5 (.v 2) (.c (.i .i64 0)))) (.c (.i .i64 4)), .proj 5 (.v 4), .proj 6 (.v 4), .proj 7 (.v 4), .proj 8 (.v 4), .proj 9 (.v 4), .proj 10 (.v 4), .proj 11 (.v 4), .proj 12 (.v 4), .proj 13 (.v 4), .v 5, .v 6, .v 7]]))
def El4 : T := (.ret [.agg [.proj 0 (.v 4), .proj 1 (.v 4), .v 8, .proj 3 (.v 4), .bin .neq (.proj 0 (.idx 5 (.v 2) (.c (.i .i64 0)))) (.c (.i .i64 4)), .proj 5 (.v 4), .proj 6 (.v 4), .proj 7 (.v 4), .proj 8 (.v 4), .proj 9 (.v 4), .proj 10 (.v 4), .proj 11 (.v 4), .proj 12 (.v 4), .proj 13 (.v 4), .v 5, .v 6, .v 7]])
def El2 : T := (.ite (.ite (.bin .eql (.proj 0 (.sub 0 5 (.idx 5 (.v 2) (.bin .sub (.len (.v 2)) (.c (.i .i64 1)))))) (.c (.i .i64 3))) (.bin .eql (.proj 3 (.sub 0 5 (.idx 5 (.v 2) (.bin .sub (.len (.v 2)) (.c (.i .i64 1)))))) (.c (.s []))) (.c (.b false))) El6 El4)
def El0 : T := (.blk 0 El9 El2)
def Ef4 : T := (.w (.chk (.scal (.v 5))) (.w (.chk (.fit 5 (.sub 0 5 (.idx 5 (.v 2) (.bin .sub (.len (.v 2)) (.c (.i .i64 1))))))) (.blk 0 Em5 El0)))
def Ef2 : T := (.w (.chk (.fit 17 (.v 4))) (.w (.chk (.scal (.bin .neq (.proj 0 (.idx 5 (.v 2) (.c (.i .i64 0)))) (.c (.i .i64 4))))) (.w (.call none false Hb9 [.v 2, .proj 12 (.v 1)] 1) Ef4)))
def Ef0 : T := (.w (.call none false Dc4 [.sub 0 17 (.v 1), .c (.i .i64 0)] 1) Ef2)
def Ed8 : T := (.ite (.un .not (.v 3)) Iz5 Ef0)
def Ed6 : T := (.ite (.bin .eql (.proj 0 (.idx 5 (.v 2) (.c (.i .i64 0)))) (.c (.i .i64 0))) Il2 Ed8)
def Ed4 : T := (.w (.call none false Hd5 [.sub 0 2 (.v 0), .agg [.proj 12 (.v 1), .proj 13 (.v 1)]] 2) Ed6)
def Gx6 : T := (.w (.chk (.fit 2 (.v 0))) (.w (.chk (.fit 17 (.v 1))) (.ite (.ite (.ite (.bin .neq (.proj 1 (.v 1)) (.c (.i .i64 0))) (.c (.b true)) (.bin .eql (.proj 13 (.v 1)) (.c (.i .i64 251)))) (.c (.b true)) (.bin .eql (.proj 13 (.v 1)) (.c (.i .i64 252)))) Jv8 Ed4)))
theorem Bx9 : type_of% (And.intro (tev_eq @Jd1.eq_1) (And.intro (tev_eq @Jv8.eq_1) (And.intro (tev_eq @Is2.eq_1) (And.intro (tev_eq @Il2.eq_1) (And.intro (tev_eq @Id7.eq_1) (And.intro (tev_eq @Iz5.eq_1) (And.intro (tev_eq @Iw3.eq_1) (And.intro (tev_eq @Ik6.eq_1) (And.intro (tev_eq @Ht4.eq_1) (And.intro (tev_eq @Hr6.eq_1) (And.intro (tev_eq @Fx8.eq_1) (And.intro (tev_eq @Fw5.eq_1) (And.intro (tev_eq @Fv4.eq_1) (And.intro (tev_eq @Fq5.eq_1) (And.intro (tev_eq @Fk8.eq_1) (And.intro (tev_eq @Fk1.eq_1) (And.intro (tev_eq @Fj4.eq_1) (And.intro (tev_eq @Et8.eq_1) (And.intro (tev_eq @Et3.eq_1) (And.intro (tev_eq @Es8.eq_1) (And.intro (tev_eq @En7.eq_1) (And.intro (tev_eq @En2.eq_1) (And.intro (tev_eq @Em8.eq_1) (And.intro (tev_eq @Em5.eq_1) (And.intro (tev_eq @Em2.eq_1) (And.intro (tev_eq @El9.eq_1) (And.intro (tev_eq @El6.eq_1) (And.intro (tev_eq @El4.eq_1) (And.intro (tev_eq @El2.eq_1) (And.intro (tev_eq @El0.eq_1) (And.intro (tev_eq @Ef4.eq_1) (And.intro (tev_eq @Ef2.eq_1) (And.intro (tev_eq @Ef0.eq_1) (And.intro (tev_eq @Ed8.eq_1) (And.intro (tev_eq @Ed6.eq_1) (And.intro (tev_eq @Ed4.eq_1) (tev_eq @Gx6.eq_1))))))))))))))))))))))))))))))))))))) := (And.intro (tev_eq @Jd1.eq_1) (And.intro (tev_eq @Jv8.eq_1) (And.intro (tev_eq @Is2.eq_1) (And.intro (tev_eq @Il2.eq_1) (And.intro (tev_eq @Id7.eq_1) (And.intro (tev_eq @Iz5.eq_1) (And.intro (tev_eq @Iw3.eq_1) (And.intro (tev_eq @Ik6.eq_1) (And.intro (tev_eq @Ht4.eq_1) (And.intro (tev_eq @Hr6.eq_1) (And.intro (tev_eq @Fx8.eq_1) (And.intro (tev_eq @Fw5.eq_1) (And.intro (tev_eq @Fv4.eq_1) (And.intro (tev_eq @Fq5.eq_1) (And.intro (tev_eq @Fk8.eq_1) (And.intro (tev_eq @Fk1.eq_1) (And.intro (tev_eq @Fj4.eq_1) (And.intro (tev_eq @Et8.eq_1) (And.intro (tev_eq @Et3.eq_1) (And.intro (tev_eq @Es8.eq_1) (And.intro (tev_eq @En7.eq_1) (And.intro (tev_eq @En2.eq_1) (And.intro (tev_eq @Em8.eq_1) (And.intro (tev_eq @Em5.eq_1) (And.intro (tev_eq @Em2.eq_1) (And.intro (tev_eq @El9.eq_1) (And.intro (tev_eq @El6.eq_1) (And.intro (tev_eq @El4.eq_1) (And.intro (tev_eq @El2.eq_1) (And.intro (tev_eq @El0.eq_1) (And.intro (tev_eq @Ef4.eq_1) (And.intro (tev_eq @Ef2.eq_1) (And.intro (tev_eq @Ef0.eq_1) (And.intro (tev_eq @Ed8.eq_1) (And.intro (tev_eq @Ed6.eq_1) (And.intro (tev_eq @Ed4.eq_1) (tev_eq @Gx6.eq_1)))))))))))))))))))))))))))))))))))))
def Jd0 : T := (.yld 1 [.bin .add (.v 2) (.c (.i .i64 1))])
def Jv7 : T := (.ite (.eqs true true [.s, .i .i64, .i .i64, .b, .i .u64, .i .u64, .s, .s, .s, .i .i64, .i .i64, .i .i64, .i .i64, .i .i64, .i .i64, .i .u64] (.sub 0 16 (.idx 16 (.v 0) (.v 2))) (.sub 0 16 (.idx 16 (.v 1) (.v 2)))) (.ret [.c (.b false)]) Jd0)
def Jm2 : T := (.ite (.bin .lss (.v 2) (.len (.v 0))) Jv7 (.yld 0 []))
def Km4 : T := .loop 1 [.c (.i .i64 0)] Jm2
def Is1 : T := (.blk 0 Km4 (.ret [.c (.b true)]))
def Gx5 : T := (.ite (.bin .neq (.len (.v 0)) (.len (.v 1))) (.ret [.c (.b false)]) Is1)
theorem Ft1 : type_of% (And.intro (tev_eq @Jd0.eq_1) (And.intro (tev_eq @Jv7.eq_1) (And.intro (tev_eq @Jm2.eq_1) (And.intro (tev_eq @Is1.eq_1) (tev_eq @Gx5.eq_1))))) := (And.intro (tev_eq @Jd0.eq_1) (And.intro (tev_eq @Jv7.eq_1) (And.intro (tev_eq @Jm2.eq_1) (And.intro (tev_eq @Is1.eq_1) (tev_eq @Gx5.eq_1)))))
def Jc9 : T := (.ret [.ite (.ite (.v 2) (.v 3) (.c (.b false))) (.v 4) (.c (.b false))])
def Jv6 : T := (.w (.chk (.ite (.ite (.v 2) (.v 3) (.c (.b false))) (.c .u) (.c .u))) (.w (.call (some (.ite (.v 2) (.v 3) (.c (.b false)))) true Gf4 [.v 0, .v 1] 1) Jc9))
def Is0 : T := (.w (.chk (.ite (.v 2) (.c .u) (.c .u))) (.w (.call (some (.v 2)) true As5 [.v 1] 1) Jv6))
def Gx4 : T := (.w (.call none true As5 [.v 0] 1) Is0)
theorem Kp2 : type_of% (And.intro (tev_eq @Jc9.eq_1) (And.intro (tev_eq @Jv6.eq_1) (And.intro (tev_eq @Is0.eq_1) (tev_eq @Gx4.eq_1)))) := (And.intro (tev_eq @Jc9.eq_1) (And.intro (tev_eq @Jv6.eq_1) (And.intro (tev_eq @Is0.eq_1) (tev_eq @Gx4.eq_1))))
def Jc8 : T := (.w (.chk (.fit 16 (.sub 0 16 (.idx 16 (.v 1) (.c (.i .i64 0)))))) (.w (.chk (.scal (.mn (.proj 2 (.sub 0 16 (.idx 16 (.v 1) (.c (.i .i64 0))))) (.proj 13 (.sub 0 16 (.idx 16 (.v 1) (.c (.i .i64 0)))))))) (.ret [.lit 16 [.agg [.proj 0 (.sub 0 16 (.idx 16 (.v 1) (.c (.i .i64 0)))), .proj 1 (.sub 0 16 (.idx 16 (.v 1) (.c (.i .i64 0)))), .mn (.proj 2 (.sub 0 16 (.idx 16 (.v 1) (.c (.i .i64 0))))) (.proj 13 (.sub 0 16 (.idx 16 (.v 1) (.c (.i .i64 0))))), .proj 3 (.sub 0 16 (.idx 16 (.v 1) (.c (.i .i64 0)))), .proj 4 (.sub 0 16 (.idx 16 (.v 1) (.c (.i .i64 0)))), .proj 5 (.sub 0 16 (.idx 16 (.v 1) (.c (.i .i64 0)))), .proj 6 (.sub 0 16 (.idx 16 (.v 1) (.c (.i .i64 0)))), .proj 7 (.sub 0 16 (.idx 16 (.v 1) (.c (.i .i64 0)))), .proj 8 (.sub 0 16 (.idx 16 (.v 1) (.c (.i .i64 0)))), .proj 9 (.sub 0 16 (.idx 16 (.v 1) (.c (.i .i64 0)))), .proj 10 (.sub 0 16 (.idx 16 (.v 1) (.c (.i .i64 0)))), .proj 11 (.sub 0 16 (.idx 16 (.v 1) (.c (.i .i64 0)))), .proj 12 (.sub 0 16 (.idx 16 (.v 1) (.c (.i .i64 0)))), .proj 13 (.sub 0 16 (.idx 16 (.v 1) (.c (.i .i64 0)))), .proj 14 (.sub 0 16 (.idx 16 (.v 1) (.c (.i .i64 0)))), .proj 15 (.sub 0 16 (.idx 16 (.v 1) (.c (.i .i64 0))))]]])))
def Jv5 : T := (.ite (.bin .eql (.len (.v 1)) (.c (.i .i64 0))) (.ret [.c (.l 16 [])]) Jc8)
def Gx3 : T := (.w (.chk (.fit 2 (.v 0))) (.w (.call none false By2 [.sub 0 2 (.v 0), .proj 0 (.v 0), .c (.i .i64 6)] 1) Jv5))
theorem Lg3 : type_of% (And.intro (tev_eq @Jc8.eq_1) (And.intro (tev_eq @Jv5.eq_1) (tev_eq @Gx3.eq_1))) := (And.intro (tev_eq @Jc8.eq_1) (And.intro (tev_eq @Jv5.eq_1) (tev_eq @Gx3.eq_1)))
def Jc7 : T := (.yld 1 [.bin .add (.v 2) (.c (.i .i64 1))])
def Jv4 : T := (.ite (.bin .gtr (.len (.v 3)) (.c (.i .i64 64))) (.ret [.c (.i .i64 9)]) Jc7)
def Ir9 : T := (.w (.call none false Dc3 [.proj 1 (.v 0), .proj 0 (.idx 16 (.proj 1 (.v 0)) (.v 2)), .proj 1 (.idx 16 (.proj 1 (.v 0)) (.v 2))] 1) Jv4)
def Jm1 : T := (.ite (.bin .lss (.v 2) (.len (.proj 1 (.v 0)))) Ir9 (.yld 0 []))
def Km3 : T := .loop 1 [.c (.i .i64 0)] Jm1
def Il1 : T := (.yld 1 [.bin .add (.v 2) (.c (.i .i64 1))])
def Id6 : T := (.ite (.un .not (.v 3)) (.ret [.c (.i .i64 5)]) Il1)
def Iz4 : T := (.w (.call none true Hb5 [.sub 0 16 (.idx 16 (.proj 1 (.v 0)) (.v 2))] 1) Id6)
def Jg5 : T := (.ite (.bin .lss (.v 2) (.len (.proj 1 (.v 0)))) Iz4 (.yld 0 []))
def Kg0 : T := .loop 1 [.c (.i .i64 0)] Jg5
def Iw2 : T := (.yld 1 [.bin .add (.v 6) (.c (.i .i64 1))])
def Ik5 : T := (.ite (.ite (.ite (.ite (.un .not (.v 7)) (.c (.b true)) (.ite (.bin .eql (.proj 1 (.sub 0 16 (.idx 16 (.proj 1 (.v 0)) (.v 6)))) (.c (.i .i64 6))) (.bin .neq (.proj 0 (.sub 0 16 (.idx 16 (.proj 1 (.v 0)) (.v 6)))) (.proj 0 (.v 0))) (.c (.b false)))) (.c (.b true)) (.un .not (.v 8))) (.c (.b true)) (.un .not (.v 9))) (.ret [.c (.i .i64 13)]) Iw2)
def Ht3 : T := (.w (.chk (.ite (.un .not (.ite (.ite (.un .not (.v 7)) (.c (.b true)) (.ite (.bin .eql (.proj 1 (.sub 0 16 (.idx 16 (.proj 1 (.v 0)) (.v 6)))) (.c (.i .i64 6))) (.bin .neq (.proj 0 (.sub 0 16 (.idx 16 (.proj 1 (.v 0)) (.v 6)))) (.proj 0 (.v 0))) (.c (.b false)))) (.c (.b true)) (.un .not (.v 8)))) (.c .u) (.c .u))) (.w (.call (some (.un .not (.ite (.ite (.un .not (.v 7)) (.c (.b true)) (.ite (.bin .eql (.proj 1 (.sub 0 16 (.idx 16 (.proj 1 (.v 0)) (.v 6)))) (.c (.i .i64 6))) (.bin .neq (.proj 0 (.sub 0 16 (.idx 16 (.proj 1 (.v 0)) (.v 6)))) (.proj 0 (.v 0))) (.c (.b false)))) (.c (.b true)) (.un .not (.v 8))))) true Hb1 [.sub 0 2 (.v 0), .sub 0 16 (.sub 0 16 (.idx 16 (.proj 1 (.v 0)) (.v 6)))] 1) Ik5))
def Hr5 : T := (.w (.chk (.ite (.ite (.un .not (.un .not (.v 7))) (.bin .eql (.proj 1 (.sub 0 16 (.idx 16 (.proj 1 (.v 0)) (.v 6)))) (.c (.i .i64 6))) (.c (.b false))) (.bin .neq (.proj 0 (.sub 0 16 (.idx 16 (.proj 1 (.v 0)) (.v 6)))) (.proj 0 (.v 0))) (.c .u))) (.w (.call (some (.un .not (.ite (.un .not (.v 7)) (.c (.b true)) (.ite (.bin .eql (.proj 1 (.sub 0 16 (.idx 16 (.proj 1 (.v 0)) (.v 6)))) (.c (.i .i64 6))) (.bin .neq (.proj 0 (.sub 0 16 (.idx 16 (.proj 1 (.v 0)) (.v 6)))) (.proj 0 (.v 0))) (.c (.b false)))))) true Hb2 [.sub 0 2 (.v 0), .sub 0 16 (.sub 0 16 (.idx 16 (.proj 1 (.v 0)) (.v 6)))] 1) Ht3))
def Fx7 : T := (.w (.chk (.fit 16 (.sub 0 16 (.idx 16 (.proj 1 (.v 0)) (.v 6))))) (.w (.call none true By1 [.proj 0 (.sub 0 16 (.idx 16 (.proj 1 (.v 0)) (.v 6))), .proj 0 (.v 0)] 1) Hr5))
def Fp8 : T := (.ite (.bin .lss (.v 6) (.len (.proj 1 (.v 0)))) Fx7 (.yld 0 []))
def Kf8 : T := .loop 1 [.c (.i .i64 0)] Fp8
def Fw4 : T := (.blk 0 Kf8 (.ret [.c (.i .i64 0)]))
def Fv3 : T := (.ite (.ite (.bin .neq (.len (.v 4)) (.c (.i .i64 1))) (.c (.b true)) (.un .not (.v 5))) (.ret [.c (.i .i64 13)]) Fw4)
def Fq4 : T := (.w (.call (some (.un .not (.bin .neq (.len (.v 4)) (.c (.i .i64 1))))) true Gf3 [.proj 1 (.v 0), .proj 0 (.v 0), .c (.i .i64 2)] 1) Fv3)
def Fk7 : T := (.w (.call none false Dc3 [.proj 1 (.v 0), .proj 0 (.v 0), .c (.i .i64 6)] 1) Fq4)
def Fk0 : T := (.ite (.un .not (.v 3)) (.ret [.c (.i .i64 7)]) Fk7)
def Fj3 : T := (.w (.call none true Hb4 [.proj 1 (.v 0), .v 2] 1) Fk0)
def Et7 : T := (.w (.call none false Hb3 [.proj 1 (.v 0)] 1) Fj3)
def Et2 : T := (.blk 0 Kg0 Et7)
def Es7 : T := (.blk 0 Km3 Et2)
def En6 : T := (.ite (.bin .gtr (.len (.proj 1 (.v 0))) (.c (.i .i64 2048))) (.ret [.c (.i .i64 9)]) Es7)
def En1 : T := (.ite (.un .not (.v 1)) (.ret [.c (.i .i64 2)]) En6)
def Gx2 : T := (.w (.chk (.fit 2 (.v 0))) (.w (.call none true Bm0 [.proj 0 (.v 0)] 1) En1))
theorem Al5 : type_of% (And.intro (tev_eq @Jc7.eq_1) (And.intro (tev_eq @Jv4.eq_1) (And.intro (tev_eq @Ir9.eq_1) (And.intro (tev_eq @Jm1.eq_1) (And.intro (tev_eq @Il1.eq_1) (And.intro (tev_eq @Id6.eq_1) (And.intro (tev_eq @Iz4.eq_1) (And.intro (tev_eq @Jg5.eq_1) (And.intro (tev_eq @Iw2.eq_1) (And.intro (tev_eq @Ik5.eq_1) (And.intro (tev_eq @Ht3.eq_1) (And.intro (tev_eq @Hr5.eq_1) (And.intro (tev_eq @Fx7.eq_1) (And.intro (tev_eq @Fp8.eq_1) (And.intro (tev_eq @Fw4.eq_1) (And.intro (tev_eq @Fv3.eq_1) (And.intro (tev_eq @Fq4.eq_1) (And.intro (tev_eq @Fk7.eq_1) (And.intro (tev_eq @Fk0.eq_1) (And.intro (tev_eq @Fj3.eq_1) (And.intro (tev_eq @Et7.eq_1) (And.intro (tev_eq @Et2.eq_1) (And.intro (tev_eq @Es7.eq_1) (And.intro (tev_eq @En6.eq_1) (And.intro (tev_eq @En1.eq_1) (tev_eq @Gx2.eq_1)))))))))))))))))))))))))) := (And.intro (tev_eq @Jc7.eq_1) (And.intro (tev_eq @Jv4.eq_1) (And.intro (tev_eq @Ir9.eq_1) (And.intro (tev_eq @Jm1.eq_1) (And.intro (tev_eq @Il1.eq_1) (And.intro (tev_eq @Id6.eq_1) (And.intro (tev_eq @Iz4.eq_1) (And.intro (tev_eq @Jg5.eq_1) (And.intro (tev_eq @Iw2.eq_1) (And.intro (tev_eq @Ik5.eq_1) (And.intro (tev_eq @Ht3.eq_1) (And.intro (tev_eq @Hr5.eq_1) (And.intro (tev_eq @Fx7.eq_1) (And.intro (tev_eq @Fp8.eq_1) (And.intro (tev_eq @Fw4.eq_1) (And.intro (tev_eq @Fv3.eq_1) (And.intro (tev_eq @Fq4.eq_1) (And.intro (tev_eq @Fk7.eq_1) (And.intro (tev_eq @Fk0.eq_1) (And.intro (tev_eq @Fj3.eq_1) (And.intro (tev_eq @Et7.eq_1) (And.intro (tev_eq @Et2.eq_1) (And.intro (tev_eq @Es7.eq_1) (And.intro (tev_eq @En6.eq_1) (And.intro (tev_eq @En1.eq_1) (tev_eq @Gx2.eq_1))))))))))))))))))))))))))
def Jc6 : T := (.yld 1 [.proj 0 (.sub 0 16 (.idx 16 (.proj 1 (.v 0)) (.v 3))), .bin .add (.v 3) (.c (.i .i64 1))])
def Jv3 : T := (.yld 1 [.v 2, .bin .add (.v 3) (.c (.i .i64 1))])
def Ir8 : T := (.w (.chk (.ite (.ite (.ite (.ite (.ite (.bin .eql (.proj 1 (.sub 0 16 (.idx 16 (.proj 1 (.v 0)) (.v 3)))) (.c (.i .i64 2))) (.bin .neq (.proj 0 (.sub 0 16 (.idx 16 (.proj 1 (.v 0)) (.v 3)))) (.proj 0 (.v 0))) (.c (.b false))) (.v 4) (.c (.b false))) (.v 5) (.c (.b false))) (.un .not (.bin .eql (.v 2) (.c (.s [])))) (.c (.b false))) (.bin .lss (.slen (.proj 0 (.sub 0 16 (.idx 16 (.proj 1 (.v 0)) (.v 3))))) (.slen (.v 2))) (.c .u))) (.ite (.ite (.ite (.ite (.ite (.bin .eql (.proj 1 (.sub 0 16 (.idx 16 (.proj 1 (.v 0)) (.v 3)))) (.c (.i .i64 2))) (.bin .neq (.proj 0 (.sub 0 16 (.idx 16 (.proj 1 (.v 0)) (.v 3)))) (.proj 0 (.v 0))) (.c (.b false))) (.v 4) (.c (.b false))) (.v 5) (.c (.b false))) (.ite (.bin .eql (.v 2) (.c (.s []))) (.c (.b true)) (.bin .lss (.slen (.proj 0 (.sub 0 16 (.idx 16 (.proj 1 (.v 0)) (.v 3))))) (.slen (.v 2)))) (.c (.b false))) Jc6 Jv3))
def Il0 : T := (.w (.chk (.ite (.ite (.ite (.bin .eql (.proj 1 (.sub 0 16 (.idx 16 (.proj 1 (.v 0)) (.v 3)))) (.c (.i .i64 2))) (.bin .neq (.proj 0 (.sub 0 16 (.idx 16 (.proj 1 (.v 0)) (.v 3)))) (.proj 0 (.v 0))) (.c (.b false))) (.v 4) (.c (.b false))) (.c .u) (.c .u))) (.w (.call (some (.ite (.ite (.bin .eql (.proj 1 (.sub 0 16 (.idx 16 (.proj 1 (.v 0)) (.v 3)))) (.c (.i .i64 2))) (.bin .neq (.proj 0 (.sub 0 16 (.idx 16 (.proj 1 (.v 0)) (.v 3)))) (.proj 0 (.v 0))) (.c (.b false))) (.v 4) (.c (.b false)))) true By3 [.v 1, .proj 0 (.sub 0 16 (.idx 16 (.proj 1 (.v 0)) (.v 3)))] 1) Ir8))
def Id5 : T := (.w (.chk (.fit 16 (.sub 0 16 (.idx 16 (.proj 1 (.v 0)) (.v 3))))) (.w (.call (some (.ite (.bin .eql (.proj 1 (.sub 0 16 (.idx 16 (.proj 1 (.v 0)) (.v 3)))) (.c (.i .i64 2))) (.bin .neq (.proj 0 (.sub 0 16 (.idx 16 (.proj 1 (.v 0)) (.v 3)))) (.proj 0 (.v 0))) (.c (.b false)))) true By3 [.proj 0 (.sub 0 16 (.idx 16 (.proj 1 (.v 0)) (.v 3))), .proj 0 (.v 0)] 1) Il0))
def Jm0 : T := (.ite (.bin .lss (.v 3) (.len (.proj 1 (.v 0)))) Id5 (.yld 0 [.v 2]))
def Km2 : T := .loop 1 [.c (.s []), .c (.i .i64 0)] Jm0
def Iz3 : T := (.ret [.v 2, .bin .neq (.v 2) (.c (.s []))])
def Gx1 : T := (.w (.chk (.fit 2 (.v 0))) (.w (.chk (.len (.proj 1 (.v 0)))) (.blk 0 Km2 Iz3)))
theorem Cv8 : type_of% (And.intro (tev_eq @Jc6.eq_1) (And.intro (tev_eq @Jv3.eq_1) (And.intro (tev_eq @Ir8.eq_1) (And.intro (tev_eq @Il0.eq_1) (And.intro (tev_eq @Id5.eq_1) (And.intro (tev_eq @Jm0.eq_1) (And.intro (tev_eq @Iz3.eq_1) (tev_eq @Gx1.eq_1)))))))) := (And.intro (tev_eq @Jc6.eq_1) (And.intro (tev_eq @Jv3.eq_1) (And.intro (tev_eq @Ir8.eq_1) (And.intro (tev_eq @Il0.eq_1) (And.intro (tev_eq @Id5.eq_1) (And.intro (tev_eq @Jm0.eq_1) (And.intro (tev_eq @Iz3.eq_1) (tev_eq @Gx1.eq_1))))))))
def Gx0 : T := (.w (.chk (.fit 2 (.v 0))) (.w (.call none false Hb0 [.proj 1 (.v 0), .v 1, .v 2] 1) (.ret [.v 3])))
theorem Lg2 : type_of% (tev_eq @Gx0.eq_1) := (tev_eq @Gx0.eq_1)
def Jc5 : T := (.yld 0 [.v 3, .v 4, .v 5, .v 6, .v 7])
def Jv2 : T := (.ite (.ite (.bin .neq (.v 11) (.c (.s []))) (.bin .eql (.sidx (.v 11) (.c (.i .i64 0))) (.c (.i .u8 42))) (.c (.b false))) (.yld 2 [.c (.s [])]) (.yld 2 [.v 11]))
def Ir7 : T := (.w (.chk (.scal (.c (.i .i64 3)))) (.w (.chk (.scal (.v 8))) (.w (.chk (.scal (.v 13))) (.w (.chk (.scal (.lsl 16 (.v 10) (.c (.i .i64 0)) (.c (.i .i64 1))))) (.ret [.agg [.c (.i .i64 3), .v 8, .c (.b false), .v 13, .lsl 16 (.v 10) (.c (.i .i64 0)) (.c (.i .i64 1))], .c (.b true)])))))
def Ih9 : T := (.blk 2 Jv2 Ir7)
def Id4 : T := (.w (.call none true Hz9 [.v 1, .v 8, .proj 6 (.idx 16 (.v 10) (.c (.i .i64 0)))] 2) Ih9)
def Iz2 : T := (.yld 1 [.v 8, .v 3, .v 4, .v 5, .v 6, .v 7])
def Iw1 : T := (.ite (.bin .gtr (.len (.v 10)) (.c (.i .i64 0))) Id4 Iz2)
def Ik4 : T := (.w (.call none false By2 [.sub 0 2 (.v 0), .v 8, .c (.i .i64 39)] 1) Iw1)
def Ht2 : T := (.ite (.un .not (.v 9)) Jc5 Ik4)
def Hr4 : T := (.w (.call none true Ds7 [.v 2] 2) Ht2)
def Fx6 : T := (.yld 0 [.v 3, .v 4, .v 5, .v 6, .v 7])
def Fr8 : T := (.ite (.bin .neq (.v 2) (.proj 0 (.v 0))) Hr4 Fx6)
def Km1 : T := .loop 1 [.v 1, .c (.i .i64 0), .c (.s []), .c (.b false), .c (.s []), .c (.l 16 [])] Fr8
def Fw3 : T := (.ret [.agg [.c (.i .i64 0), .c (.s []), .c (.b false), .c (.s []), .c (.l 16 [])], .c (.b false)])
def Gw9 : T := (.w (.chk (.fit 2 (.v 0))) (.blk 0 Km1 Fw3))
theorem Dn8 : type_of% (And.intro (tev_eq @Jc5.eq_1) (And.intro (tev_eq @Jv2.eq_1) (And.intro (tev_eq @Ir7.eq_1) (And.intro (tev_eq @Ih9.eq_1) (And.intro (tev_eq @Id4.eq_1) (And.intro (tev_eq @Iz2.eq_1) (And.intro (tev_eq @Iw1.eq_1) (And.intro (tev_eq @Ik4.eq_1) (And.intro (tev_eq @Ht2.eq_1) (And.intro (tev_eq @Hr4.eq_1) (And.intro (tev_eq @Fx6.eq_1) (And.intro (tev_eq @Fr8.eq_1) (And.intro (tev_eq @Fw3.eq_1) (tev_eq @Gw9.eq_1)))))))))))))) := (And.intro (tev_eq @Jc5.eq_1) (And.intro (tev_eq @Jv2.eq_1) (And.intro (tev_eq @Ir7.eq_1) (And.intro (tev_eq @Ih9.eq_1) (And.intro (tev_eq @Id4.eq_1) (And.intro (tev_eq @Iz2.eq_1) (And.intro (tev_eq @Iw1.eq_1) (And.intro (tev_eq @Ik4.eq_1) (And.intro (tev_eq @Ht2.eq_1) (And.intro (tev_eq @Hr4.eq_1) (And.intro (tev_eq @Fx6.eq_1) (And.intro (tev_eq @Fr8.eq_1) (And.intro (tev_eq @Fw3.eq_1) (tev_eq @Gw9.eq_1))))))))))))))
def Jc4 : T := (.w (.call none true Cy6 [.v 2, .v 1] 1) (.ret [.v 3]))
def Gw8 : T := (.w (.chk (.fit 2 (.v 0))) (.w (.call none false Gf2 [.sub 0 2 (.v 0)] 1) Jc4))
theorem Mh7 : type_of% (And.intro (tev_eq @Jc4.eq_1) (tev_eq @Gw8.eq_1)) := (And.intro (tev_eq @Jc4.eq_1) (tev_eq @Gw8.eq_1))
def Jc3 : T := (.w (.chk (.scal (.c (.i .i64 2)))) (.w (.chk (.scal (.proj 6 (.idx 16 (.v 2) (.c (.i .i64 0)))))) (.w (.chk (.scal (.lsl 16 (.v 2) (.c (.i .i64 0)) (.c (.i .i64 1))))) (.ret [.agg [.c (.i .i64 2), .c (.s []), .c (.b false), .proj 6 (.idx 16 (.v 2) (.c (.i .i64 0))), .lsl 16 (.v 2) (.c (.i .i64 0)) (.c (.i .i64 1))]]))))
def Jv1 : T := (.w (.chk (.scal (.c (.i .i64 1)))) (.w (.chk (.scal (.v 4))) (.ret [.agg [.c (.i .i64 1), .c (.s []), .c (.b false), .c (.s []), .v 4]])))
def Ir6 : T := (.w (.chk (.scal (.c (.i .i64 5)))) (.ret [.agg [.c (.i .i64 5), .c (.s []), .c (.b false), .c (.s []), .c (.l 16 [])]]))
def Ih8 : T := (.ite (.bin .gtr (.len (.v 4)) (.c (.i .i64 0))) Jv1 Ir6)
def Fp4 : T := (.w (.call none false Gf1 [.v 0, .v 1] 1) Ih8)
def Iz1 : T := (.ite (.ite (.bin .gtr (.len (.v 2)) (.c (.i .i64 0))) (.un .not (.v 3)) (.c (.b false))) Jc3 Fp4)
def Iw0 : T := (.w (.call (some (.bin .gtr (.len (.v 2)) (.c (.i .i64 0)))) true Hz8 [.v 1] 1) Iz1)
def Gw7 : T := (.w (.call none false Gf1 [.v 0, .c (.i .i64 5)] 1) Iw0)
theorem Gn1 : type_of% (And.intro (tev_eq @Jc3.eq_1) (And.intro (tev_eq @Jv1.eq_1) (And.intro (tev_eq @Ir6.eq_1) (And.intro (tev_eq @Ih8.eq_1) (And.intro (tev_eq @Fp4.eq_1) (And.intro (tev_eq @Iz1.eq_1) (And.intro (tev_eq @Iw0.eq_1) (tev_eq @Gw7.eq_1)))))))) := (And.intro (tev_eq @Jc3.eq_1) (And.intro (tev_eq @Jv1.eq_1) (And.intro (tev_eq @Ir6.eq_1) (And.intro (tev_eq @Ih8.eq_1) (And.intro (tev_eq @Fp4.eq_1) (And.intro (tev_eq @Iz1.eq_1) (And.intro (tev_eq @Iw0.eq_1) (tev_eq @Gw7.eq_1))))))))
def Jc2 : T := (.w (.chk (.fit 16 (.sub 0 16 (.sub 0 16 (.idx 16 (.proj 1 (.v 0)) (.v 3)))))) (.yld 1 [.app 16 (.v 2) (.lit 16 [.sub 0 16 (.sub 0 16 (.idx 16 (.proj 1 (.v 0)) (.v 3)))]), .bin .add (.v 3) (.c (.i .i64 1))]))
def Jv0 : T := (.yld 1 [.v 2, .bin .add (.v 3) (.c (.i .i64 1))])
def Ir5 : T := (.w (.chk (.fit 16 (.sub 0 16 (.idx 16 (.proj 1 (.v 0)) (.v 3))))) (.ite (.bin .eql (.proj 0 (.sub 0 16 (.idx 16 (.proj 1 (.v 0)) (.v 3)))) (.v 1)) Jc2 Jv0))
def Jl9 : T := (.ite (.bin .lss (.v 3) (.len (.proj 1 (.v 0)))) Ir5 (.yld 0 [.v 2]))
def Km0 : T := .loop 1 [.c (.l 16 []), .c (.i .i64 0)] Jl9
def Gw6 : T := (.w (.chk (.fit 2 (.v 0))) (.w (.chk (.len (.proj 1 (.v 0)))) (.blk 0 Km0 (.ret [.v 2]))))
theorem Jr8 : type_of% (And.intro (tev_eq @Jc2.eq_1) (And.intro (tev_eq @Jv0.eq_1) (And.intro (tev_eq @Ir5.eq_1) (And.intro (tev_eq @Jl9.eq_1) (tev_eq @Gw6.eq_1))))) := (And.intro (tev_eq @Jc2.eq_1) (And.intro (tev_eq @Jv0.eq_1) (And.intro (tev_eq @Ir5.eq_1) (And.intro (tev_eq @Jl9.eq_1) (tev_eq @Gw6.eq_1)))))
def Jc1 : T := (.ret [.agg [.c (.i .i64 0), .c (.s []), .c (.b false), .c (.s []), .c (.l 16 [])], .c (.b false)])
def Jq9 : T := (.ret [.agg [.c (.i .i64 0), .c (.s []), .c (.b false), .c (.s []), .c (.l 16 [])], .c (.b false)])
def Ir4 : T := (.w (.chk (.idx 16 (.v 7) (.v 8))) (.w (.chk (.scal (.proj 0 (.v 1)))) (.yld 1 [.set 16 (.v 7) (.v 8) 0 [.proj 0 (.v 1)], .bin .add (.v 8) (.c (.i .i64 1))])))
def Jl8 : T := (.ite (.bin .lss (.v 8) (.len (.v 6))) Ir4 (.yld 0 [.v 7]))
def Kl9 : T := .loop 1 [.v 6, .c (.i .i64 0)] Jl8
def Ih7 : T := (.w (.chk (.fit 5 (.v 8))) (.w (.chk (.scal (.v 4))) (.w (.chk (.scal (.c (.b true)))) (.ret [.agg [.proj 0 (.v 8), .v 4, .c (.b true), .proj 3 (.v 8), .proj 4 (.v 8)], .c (.b true)]))))
def Id3 : T := (.w (.call none false Gg0 [.v 7, .proj 1 (.v 1)] 1) Ih7)
def Iz0 : T := (.w (.chk (.len (.v 6))) (.blk 0 Kl9 Id3))
def Iv9 : T := (.ite (.ite (.un .not (.v 5)) (.c (.b true)) (.bin .eql (.len (.v 6)) (.c (.i .i64 0)))) Jq9 Iz0)
def Ik3 : T := (.w (.call none false Gf9 [.sub 0 2 (.v 0), .v 4] 1) Iv9)
def Ht1 : T := (.w (.call none true Hz6 [.v 2] 2) Ik3)
def Hr3 : T := (.ite (.un .not (.v 3)) Jc1 Ht1)
def Gw5 : T := (.w (.chk (.fit 2 (.v 0))) (.w (.chk (.fit 2 (.v 1))) (.w (.call none true Hz7 [.sub 0 2 (.v 0), .proj 0 (.v 1)] 2) Hr3)))
theorem Ft0 : type_of% (And.intro (tev_eq @Jc1.eq_1) (And.intro (tev_eq @Jq9.eq_1) (And.intro (tev_eq @Ir4.eq_1) (And.intro (tev_eq @Jl8.eq_1) (And.intro (tev_eq @Ih7.eq_1) (And.intro (tev_eq @Id3.eq_1) (And.intro (tev_eq @Iz0.eq_1) (And.intro (tev_eq @Iv9.eq_1) (And.intro (tev_eq @Ik3.eq_1) (And.intro (tev_eq @Ht1.eq_1) (And.intro (tev_eq @Hr3.eq_1) (tev_eq @Gw5.eq_1)))))))))))) := (And.intro (tev_eq @Jc1.eq_1) (And.intro (tev_eq @Jq9.eq_1) (And.intro (tev_eq @Ir4.eq_1) (And.intro (tev_eq @Jl8.eq_1) (And.intro (tev_eq @Ih7.eq_1) (And.intro (tev_eq @Id3.eq_1) (And.intro (tev_eq @Iz0.eq_1) (And.intro (tev_eq @Iv9.eq_1) (And.intro (tev_eq @Ik3.eq_1) (And.intro (tev_eq @Ht1.eq_1) (And.intro (tev_eq @Hr3.eq_1) (tev_eq @Gw5.eq_1))))))))))))
def Jc0 : T := (.ret [.ite (.ite (.v 3) (.v 5) (.c (.b false))) (.bin .eql (.v 6) (.len (.v 4))) (.c (.b false))])
def Jq8 : T := (.w (.chk (.ite (.ite (.v 3) (.v 5) (.c (.b false))) (.c .u) (.c .u))) (.w (.call (some (.ite (.v 3) (.v 5) (.c (.b false)))) true Gf0 [.v 2, .v 4] 1) Jc0))
def Ir3 : T := (.w (.call none false As4 [.v 1] 2) Jq8)
def Gw4 : T := (.w (.call none false As4 [.v 0] 2) Ir3)
theorem Mh6 : type_of% (And.intro (tev_eq @Jc0.eq_1) (And.intro (tev_eq @Jq8.eq_1) (And.intro (tev_eq @Ir3.eq_1) (tev_eq @Gw4.eq_1)))) := (And.intro (tev_eq @Jc0.eq_1) (And.intro (tev_eq @Jq8.eq_1) (And.intro (tev_eq @Ir3.eq_1) (tev_eq @Gw4.eq_1))))
def Jb9 : T := (.yld 1 [.proj 0 (.sub 0 16 (.idx 16 (.proj 1 (.v 0)) (.v 3))), .bin .add (.v 3) (.c (.i .i64 1))])
def Jq7 : T := (.yld 1 [.v 2, .bin .add (.v 3) (.c (.i .i64 1))])
def Ir2 : T := (.ite (.ite (.bin .eql (.v 2) (.c (.s []))) (.c (.b true)) (.bin .lss (.len (.v 6)) (.len (.v 7)))) Jb9 Jq7)
def Ih6 : T := (.w (.chk (.ite (.un .not (.bin .eql (.v 2) (.c (.s [])))) (.len (.v 6)) (.c .u))) (.w (.call (some (.un .not (.bin .eql (.v 2) (.c (.s []))))) false Bl9 [.v 2] 1) Ir2))
def Id2 : T := (.w (.call (some (.un .not (.bin .eql (.v 2) (.c (.s []))))) false Bl9 [.proj 0 (.sub 0 16 (.idx 16 (.proj 1 (.v 0)) (.v 3)))] 1) Ih6)
def Iy9 : T := (.yld 1 [.v 2, .bin .add (.v 3) (.c (.i .i64 1))])
def Iv8 : T := (.ite (.ite (.ite (.bin .eql (.proj 1 (.sub 0 16 (.idx 16 (.proj 1 (.v 0)) (.v 3)))) (.c (.i .i64 2))) (.v 4) (.c (.b false))) (.v 5) (.c (.b false))) Id2 Iy9)
def Ik2 : T := (.w (.chk (.ite (.ite (.bin .eql (.proj 1 (.sub 0 16 (.idx 16 (.proj 1 (.v 0)) (.v 3)))) (.c (.i .i64 2))) (.v 4) (.c (.b false))) (.c .u) (.c .u))) (.w (.call (some (.ite (.bin .eql (.proj 1 (.sub 0 16 (.idx 16 (.proj 1 (.v 0)) (.v 3)))) (.c (.i .i64 2))) (.v 4) (.c (.b false)))) true By1 [.v 1, .proj 0 (.sub 0 16 (.idx 16 (.proj 1 (.v 0)) (.v 3)))] 1) Iv8))
def Ht0 : T := (.w (.chk (.fit 16 (.sub 0 16 (.idx 16 (.proj 1 (.v 0)) (.v 3))))) (.w (.call (some (.bin .eql (.proj 1 (.sub 0 16 (.idx 16 (.proj 1 (.v 0)) (.v 3)))) (.c (.i .i64 2)))) true Cy5 [.proj 0 (.sub 0 16 (.idx 16 (.proj 1 (.v 0)) (.v 3))), .proj 0 (.v 0)] 1) Ik2))
def Jl7 : T := (.ite (.bin .lss (.v 3) (.len (.proj 1 (.v 0)))) Ht0 (.yld 0 [.v 2]))
def Kl8 : T := .loop 1 [.c (.s []), .c (.i .i64 0)] Jl7
def Hr2 : T := (.ret [.v 2, .bin .neq (.v 2) (.c (.s []))])
def Gw3 : T := (.w (.chk (.fit 2 (.v 0))) (.blk 0 Kl8 Hr2))
theorem Dw9 : type_of% (And.intro (tev_eq @Jb9.eq_1) (And.intro (tev_eq @Jq7.eq_1) (And.intro (tev_eq @Ir2.eq_1) (And.intro (tev_eq @Ih6.eq_1) (And.intro (tev_eq @Id2.eq_1) (And.intro (tev_eq @Iy9.eq_1) (And.intro (tev_eq @Iv8.eq_1) (And.intro (tev_eq @Ik2.eq_1) (And.intro (tev_eq @Ht0.eq_1) (And.intro (tev_eq @Jl7.eq_1) (And.intro (tev_eq @Hr2.eq_1) (tev_eq @Gw3.eq_1)))))))))))) := (And.intro (tev_eq @Jb9.eq_1) (And.intro (tev_eq @Jq7.eq_1) (And.intro (tev_eq @Ir2.eq_1) (And.intro (tev_eq @Ih6.eq_1) (And.intro (tev_eq @Id2.eq_1) (And.intro (tev_eq @Iy9.eq_1) (And.intro (tev_eq @Iv8.eq_1) (And.intro (tev_eq @Ik2.eq_1) (And.intro (tev_eq @Ht0.eq_1) (And.intro (tev_eq @Jl7.eq_1) (And.intro (tev_eq @Hr2.eq_1) (tev_eq @Gw3.eq_1))))))))))))
def Gw2 : T := (.w (.chk (.fit 2 (.v 0))) (.w (.call none false Dc3 [.proj 1 (.v 0), .v 1, .v 2] 1) (.ret [.v 3])))
theorem Lg1 : type_of% (tev_eq @Gw2.eq_1) := (tev_eq @Gw2.eq_1)
def Jb8 : T := (.ret [.c (.s []), .c (.b false)])
def Jq6 : T := (.ret [.v 4, .c (.b true)])
def Ir1 : T := (.yld 1 [.v 4, .bin .add (.v 3) (.c (.i .i64 1))])
def Ih5 : T := (.ite (.bin .gtr (.len (.v 6)) (.c (.i .i64 0))) Jq6 Ir1)
def Id1 : T := (.w (.call none false Bv9 [.sub 0 2 (.v 0), .v 4, .c (.i .i64 39)] 1) Ih5)
def Iy8 : T := (.ite (.un .not (.v 5)) Jb8 Id1)
def Iv7 : T := (.w (.call none true Gd9 [.v 2] 2) Iy8)
def Fr7 : T := (.ite (.ite (.bin .lss (.v 3) (.c (.i .i64 130))) (.bin .neq (.v 2) (.proj 0 (.v 0))) (.c (.b false))) Iv7 (.yld 0 []))
def Kl7 : T := .loop 1 [.v 1, .c (.i .i64 0)] Fr7
def Ik1 : T := (.ret [.c (.s []), .c (.b false)])
def Gw1 : T := (.w (.chk (.fit 2 (.v 0))) (.blk 0 Kl7 Ik1))
theorem Gn0 : type_of% (And.intro (tev_eq @Jb8.eq_1) (And.intro (tev_eq @Jq6.eq_1) (And.intro (tev_eq @Ir1.eq_1) (And.intro (tev_eq @Ih5.eq_1) (And.intro (tev_eq @Id1.eq_1) (And.intro (tev_eq @Iy8.eq_1) (And.intro (tev_eq @Iv7.eq_1) (And.intro (tev_eq @Fr7.eq_1) (And.intro (tev_eq @Ik1.eq_1) (tev_eq @Gw1.eq_1)))))))))) := (And.intro (tev_eq @Jb8.eq_1) (And.intro (tev_eq @Jq6.eq_1) (And.intro (tev_eq @Ir1.eq_1) (And.intro (tev_eq @Ih5.eq_1) (And.intro (tev_eq @Id1.eq_1) (And.intro (tev_eq @Iy8.eq_1) (And.intro (tev_eq @Iv7.eq_1) (And.intro (tev_eq @Fr7.eq_1) (And.intro (tev_eq @Ik1.eq_1) (tev_eq @Gw1.eq_1))))))))))
def Jb7 : T := (.ret [.c (.s []), .c (.i .i64 2)])
def Jq5 : T := (.ret [.c (.s []), .c (.i .i64 1)])
def Ir0 : T := (.ret [.c (.s []), .c (.i .i64 9)])
def Ih4 : T := (.ret [.v 10, .c (.i .i64 0)])
def Id0 : T := (.ite (.un .not (.v 11)) Ir0 Ih4)
def Iy7 : T := (.w (.call none true Bm0 [.v 10] 1) Id0)
def Iv6 : T := (.w (.call none true Gd8 [.app 1 (.app 1 (.c (.l 1 [])) (.lsl 1 (.v 3) (.c (.i .i64 0)) (.bin .sub (.len (.v 3)) (.len (.v 5))))) (.v 7)] 1) Iy7)
def Ik0 : T := (.ite (.ite (.un .not (.v 9)) (.c (.b true)) (.bin .eql (.len (.v 3)) (.len (.v 5)))) Jq5 Iv6)
def Fp2 : T := (.w (.call none true By1 [.v 0, .v 1] 1) Ik0)
def Hr1 : T := (.w (.chk (.ite (.ite (.un .not (.ite (.ite (.un .not (.v 4)) (.c (.b true)) (.un .not (.v 6))) (.c (.b true)) (.un .not (.v 8)))) (.bin .gtr (.len (.v 7)) (.c (.i .i64 0))) (.c (.b false))) (.bin .eql (.proj 0 (.idx 1 (.v 7) (.c (.i .i64 0)))) (.c (.s [42]))) (.c .u))) (.ite (.ite (.ite (.ite (.un .not (.v 4)) (.c (.b true)) (.un .not (.v 6))) (.c (.b true)) (.un .not (.v 8))) (.c (.b true)) (.ite (.bin .gtr (.len (.v 7)) (.c (.i .i64 0))) (.bin .eql (.proj 0 (.idx 1 (.v 7) (.c (.i .i64 0)))) (.c (.s [42]))) (.c (.b false)))) Jb7 Fp2))
def Fx5 : T := (.w (.call none false As4 [.v 2] 2) Hr1)
def Fw2 : T := (.w (.call none false As4 [.v 1] 2) Fx5)
def Gw0 : T := (.w (.call none false As4 [.v 0] 2) Fw2)
theorem Bl2 : type_of% (And.intro (tev_eq @Jb7.eq_1) (And.intro (tev_eq @Jq5.eq_1) (And.intro (tev_eq @Ir0.eq_1) (And.intro (tev_eq @Ih4.eq_1) (And.intro (tev_eq @Id0.eq_1) (And.intro (tev_eq @Iy7.eq_1) (And.intro (tev_eq @Iv6.eq_1) (And.intro (tev_eq @Ik0.eq_1) (And.intro (tev_eq @Fp2.eq_1) (And.intro (tev_eq @Hr1.eq_1) (And.intro (tev_eq @Fx5.eq_1) (And.intro (tev_eq @Fw2.eq_1) (tev_eq @Gw0.eq_1))))))))))))) := (And.intro (tev_eq @Jb7.eq_1) (And.intro (tev_eq @Jq5.eq_1) (And.intro (tev_eq @Ir0.eq_1) (And.intro (tev_eq @Ih4.eq_1) (And.intro (tev_eq @Id0.eq_1) (And.intro (tev_eq @Iy7.eq_1) (And.intro (tev_eq @Iv6.eq_1) (And.intro (tev_eq @Ik0.eq_1) (And.intro (tev_eq @Fp2.eq_1) (And.intro (tev_eq @Hr1.eq_1) (And.intro (tev_eq @Fx5.eq_1) (And.intro (tev_eq @Fw2.eq_1) (tev_eq @Gw0.eq_1)))))))))))))
def Jb6 : T := (.yld 1 [.bin .add (.v 3) (.c (.i .i64 1))])
def Jq4 : T := (.ite (.bin .eql (.proj 0 (.idx 1 (.v 2) (.v 3))) (.v 1)) (.ret [.c (.b true)]) Jb6)
def Jl6 : T := (.ite (.bin .lss (.v 3) (.len (.v 2))) Jq4 (.yld 0 []))
def Kl6 : T := .loop 1 [.c (.i .i64 0)] Jl6
def Ip9 : T := (.blk 0 Kl6 (.ret [.c (.b false)]))
def Gv9 : T := (.w (.chk (.fit 2 (.v 0))) (.w (.call none false Gd7 [.sub 0 2 (.v 0)] 1) Ip9))
theorem Gm9 : type_of% (And.intro (tev_eq @Jb6.eq_1) (And.intro (tev_eq @Jq4.eq_1) (And.intro (tev_eq @Jl6.eq_1) (And.intro (tev_eq @Ip9.eq_1) (tev_eq @Gv9.eq_1))))) := (And.intro (tev_eq @Jb6.eq_1) (And.intro (tev_eq @Jq4.eq_1) (And.intro (tev_eq @Jl6.eq_1) (And.intro (tev_eq @Ip9.eq_1) (tev_eq @Gv9.eq_1)))))
def Jb5 : T := (.w (.chk (.fit 16 (.sub 0 16 (.idx 16 (.v 0) (.v 3))))) (.w (.chk (.scal (.c (.i .i64 2)))) (.w (.chk (.scal (.proj 6 (.idx 16 (.v 0) (.v 3))))) (.w (.chk (.scal (.lit 16 [.sub 0 16 (.idx 16 (.v 0) (.v 3))]))) (.ret [.agg [.c (.i .i64 2), .c (.s []), .c (.b false), .proj 6 (.idx 16 (.v 0) (.v 3)), .lit 16 [.sub 0 16 (.idx 16 (.v 0) (.v 3))]]])))))
def Jq3 : T := (.w (.chk (.fit 16 (.sub 0 16 (.idx 16 (.v 0) (.v 3))))) (.yld 1 [.app 16 (.v 2) (.lit 16 [.sub 0 16 (.idx 16 (.v 0) (.v 3))]), .bin .add (.v 3) (.c (.i .i64 1)), .v 4, .v 5, .v 6, .v 7, .v 8]))
def Ip8 : T := (.yld 1 [.v 2, .bin .add (.v 3) (.c (.i .i64 1)), .v 4, .v 5, .v 6, .v 7, .v 8])
def Ih3 : T := (.ite (.ite (.bin .eql (.proj 1 (.idx 16 (.v 0) (.v 3))) (.v 1)) (.c (.b true)) (.bin .eql (.v 1) (.c (.i .i64 255)))) Jq3 Ip8)
def Ic9 : T := (.ite (.ite (.ite (.ite (.ite (.bin .eql (.proj 1 (.idx 16 (.v 0) (.v 3))) (.c (.i .i64 5))) (.bin .neq (.v 1) (.c (.i .i64 5))) (.c (.b false))) (.bin .neq (.v 1) (.c (.i .i64 47))) (.c (.b false))) (.bin .neq (.v 1) (.c (.i .i64 46))) (.c (.b false))) (.bin .neq (.v 1) (.c (.i .i64 255))) (.c (.b false))) Jb5 Ih3)
def Iy6 : T := (.yld 0 [.v 2, .v 4, .v 5, .v 6, .v 7, .v 8])
def Fr6 : T := (.ite (.bin .lss (.v 3) (.len (.v 0))) Ic9 Iy6)
def Kl5 : T := .loop 1 [.c (.l 16 []), .c (.i .i64 0), .c (.i .i64 0), .c (.s []), .c (.b false), .c (.s []), .c (.l 16 [])] Fr6
def Iv5 : T := (.w (.chk (.scal (.c (.i .i64 1)))) (.ret [.agg [.c (.i .i64 1), .c (.s []), .c (.b false), .c (.s []), .v 2]]))
def Ij9 : T := (.w (.chk (.scal (.c (.i .i64 5)))) (.ret [.agg [.c (.i .i64 5), .c (.s []), .c (.b false), .c (.s []), .c (.l 16 [])]]))
def Hs9 : T := (.ite (.bin .gtr (.len (.v 2)) (.c (.i .i64 0))) Iv5 Ij9)
def Gv8 : T := (.blk 0 Kl5 Hs9)
theorem Bb3 : type_of% (And.intro (tev_eq @Jb5.eq_1) (And.intro (tev_eq @Jq3.eq_1) (And.intro (tev_eq @Ip8.eq_1) (And.intro (tev_eq @Ih3.eq_1) (And.intro (tev_eq @Ic9.eq_1) (And.intro (tev_eq @Iy6.eq_1) (And.intro (tev_eq @Fr6.eq_1) (And.intro (tev_eq @Iv5.eq_1) (And.intro (tev_eq @Ij9.eq_1) (And.intro (tev_eq @Hs9.eq_1) (tev_eq @Gv8.eq_1))))))))))) := (And.intro (tev_eq @Jb5.eq_1) (And.intro (tev_eq @Jq3.eq_1) (And.intro (tev_eq @Ip8.eq_1) (And.intro (tev_eq @Ih3.eq_1) (And.intro (tev_eq @Ic9.eq_1) (And.intro (tev_eq @Iy6.eq_1) (And.intro (tev_eq @Fr6.eq_1) (And.intro (tev_eq @Iv5.eq_1) (And.intro (tev_eq @Ij9.eq_1) (And.intro (tev_eq @Hs9.eq_1) (tev_eq @Gv8.eq_1)))))))))))
def Jb4 : T := (.w (.chk (.fit 16 (.sub 0 16 (.idx 16 (.proj 1 (.v 0)) (.v 3))))) (.yld 1 [.app 16 (.v 2) (.lit 16 [.sub 0 16 (.idx 16 (.proj 1 (.v 0)) (.v 3))]), .bin .add (.v 3) (.c (.i .i64 1))]))
def Jq2 : T := (.yld 1 [.v 2, .bin .add (.v 3) (.c (.i .i64 1))])
def Ip7 : T := (.ite (.bin .eql (.proj 0 (.idx 16 (.proj 1 (.v 0)) (.v 3))) (.v 1)) Jb4 Jq2)
def Jl5 : T := (.ite (.bin .lss (.v 3) (.len (.proj 1 (.v 0)))) Ip7 (.yld 0 [.v 2]))
def Kl4 : T := .loop 1 [.c (.l 16 []), .c (.i .i64 0)] Jl5
def Gv7 : T := (.w (.chk (.fit 2 (.v 0))) (.blk 0 Kl4 (.ret [.v 2])))
theorem Jr7 : type_of% (And.intro (tev_eq @Jb4.eq_1) (And.intro (tev_eq @Jq2.eq_1) (And.intro (tev_eq @Ip7.eq_1) (And.intro (tev_eq @Jl5.eq_1) (tev_eq @Gv7.eq_1))))) := (And.intro (tev_eq @Jb4.eq_1) (And.intro (tev_eq @Jq2.eq_1) (And.intro (tev_eq @Ip7.eq_1) (And.intro (tev_eq @Jl5.eq_1) (tev_eq @Gv7.eq_1)))))
def Jb3 : T := (.yld 1 [.proj 0 (.idx 1 (.v 2) (.v 4)), .bin .add (.v 4) (.c (.i .i64 1))])
def Jq1 : T := (.yld 1 [.v 3, .bin .add (.v 4) (.c (.i .i64 1))])
def Ip6 : T := (.w (.chk (.ite (.ite (.v 5) (.un .not (.bin .eql (.v 3) (.c (.s [])))) (.c (.b false))) (.bin .gtr (.len (.v 6)) (.len (.v 7))) (.c .u))) (.ite (.ite (.v 5) (.ite (.bin .eql (.v 3) (.c (.s []))) (.c (.b true)) (.bin .gtr (.len (.v 6)) (.len (.v 7)))) (.c (.b false))) Jb3 Jq1))
def Ih2 : T := (.w (.chk (.ite (.ite (.v 5) (.un .not (.bin .eql (.v 3) (.c (.s [])))) (.c (.b false))) (.len (.v 6)) (.c .u))) (.w (.call (some (.ite (.v 5) (.un .not (.bin .eql (.v 3) (.c (.s [])))) (.c (.b false)))) false Bl9 [.v 3] 1) Ip6))
def Ic8 : T := (.w (.chk (.ite (.ite (.v 5) (.un .not (.bin .eql (.v 3) (.c (.s [])))) (.c (.b false))) (.proj 0 (.idx 1 (.v 2) (.v 4))) (.c .u))) (.w (.call (some (.ite (.v 5) (.un .not (.bin .eql (.v 3) (.c (.s [])))) (.c (.b false)))) false Bl9 [.proj 0 (.idx 1 (.v 2) (.v 4))] 1) Ih2))
def Iy5 : T := (.w (.call none true By1 [.v 1, .proj 0 (.idx 1 (.v 2) (.v 4))] 1) Ic8)
def Jl4 : T := (.ite (.bin .lss (.v 4) (.len (.v 2))) Iy5 (.yld 0 [.v 3]))
def Kl3 : T := .loop 1 [.c (.s []), .c (.i .i64 0)] Jl4
def Iv4 : T := (.ret [.v 3, .bin .neq (.v 3) (.c (.s []))])
def Ij8 : T := (.blk 0 Kl3 Iv4)
def Gv6 : T := (.w (.chk (.fit 2 (.v 0))) (.w (.call none false Gd7 [.sub 0 2 (.v 0)] 1) Ij8))
theorem Fs9 : type_of% (And.intro (tev_eq @Jb3.eq_1) (And.intro (tev_eq @Jq1.eq_1) (And.intro (tev_eq @Ip6.eq_1) (And.intro (tev_eq @Ih2.eq_1) (And.intro (tev_eq @Ic8.eq_1) (And.intro (tev_eq @Iy5.eq_1) (And.intro (tev_eq @Jl4.eq_1) (And.intro (tev_eq @Iv4.eq_1) (And.intro (tev_eq @Ij8.eq_1) (tev_eq @Gv6.eq_1)))))))))) := (And.intro (tev_eq @Jb3.eq_1) (And.intro (tev_eq @Jq1.eq_1) (And.intro (tev_eq @Ip6.eq_1) (And.intro (tev_eq @Ih2.eq_1) (And.intro (tev_eq @Ic8.eq_1) (And.intro (tev_eq @Iy5.eq_1) (And.intro (tev_eq @Jl4.eq_1) (And.intro (tev_eq @Iv4.eq_1) (And.intro (tev_eq @Ij8.eq_1) (tev_eq @Gv6.eq_1))))))))))
def Jb2 : T := (.ret [.c (.s []), .c (.b false)])
def Jq0 : T := (.yld 0 [.bin .add (.c (.s [42, 46])) (.v 0)])
def Ip5 : T := (.yld 0 [.c (.s [42, 46])])
def Ih1 : T := (.ite (.bin .neq (.v 0) (.c (.s [46]))) Jq0 Ip5)
def Ic7 : T := (.ret [.c (.s []), .c (.b false)])
def Iy4 : T := (.ret [.v 3, .c (.b true)])
def Iv3 : T := (.ite (.un .not (.v 4)) Ic7 Iy4)
def Ij7 : T := (.w (.call none true Bm0 [.v 3] 1) Iv3)
def Fp1 : T := (.blk 0 Ih1 Ij7)
def Hr0 : T := (.w (.chk (.ite (.ite (.un .not (.un .not (.v 2))) (.bin .gtr (.len (.v 1)) (.c (.i .i64 0))) (.c (.b false))) (.bin .eql (.proj 0 (.idx 1 (.v 1) (.c (.i .i64 0)))) (.c (.s [42]))) (.c .u))) (.ite (.ite (.un .not (.v 2)) (.c (.b true)) (.ite (.bin .gtr (.len (.v 1)) (.c (.i .i64 0))) (.bin .eql (.proj 0 (.idx 1 (.v 1) (.c (.i .i64 0)))) (.c (.s [42]))) (.c (.b false)))) Jb2 Fp1))
def Gv5 : T := (.w (.call none false As4 [.v 0] 2) Hr0)
theorem Dn7 : type_of% (And.intro (tev_eq @Jb2.eq_1) (And.intro (tev_eq @Jq0.eq_1) (And.intro (tev_eq @Ip5.eq_1) (And.intro (tev_eq @Ih1.eq_1) (And.intro (tev_eq @Ic7.eq_1) (And.intro (tev_eq @Iy4.eq_1) (And.intro (tev_eq @Iv3.eq_1) (And.intro (tev_eq @Ij7.eq_1) (And.intro (tev_eq @Fp1.eq_1) (And.intro (tev_eq @Hr0.eq_1) (tev_eq @Gv5.eq_1))))))))))) := (And.intro (tev_eq @Jb2.eq_1) (And.intro (tev_eq @Jq0.eq_1) (And.intro (tev_eq @Ip5.eq_1) (And.intro (tev_eq @Ih1.eq_1) (And.intro (tev_eq @Ic7.eq_1) (And.intro (tev_eq @Iy4.eq_1) (And.intro (tev_eq @Iv3.eq_1) (And.intro (tev_eq @Ij7.eq_1) (And.intro (tev_eq @Fp1.eq_1) (And.intro (tev_eq @Hr0.eq_1) (tev_eq @Gv5.eq_1)))))))))))
def Jb1 : T := (.ret [.bin .geq (.v 2) (.c (.i .i64 0))])
def Gv4 : T := (.w (.call none true Hz5 [.v 0, .v 1] 1) Jb1)
theorem Mh5 : type_of% (And.intro (tev_eq @Jb1.eq_1) (tev_eq @Gv4.eq_1)) := (And.intro (tev_eq @Jb1.eq_1) (tev_eq @Gv4.eq_1))
def Gv3 : T := (.w (.chk (.fit 5 (.v 0))) (.ret [.ite (.ite (.bin .eql (.proj 0 (.v 0)) (.c (.i .i64 2))) (.c (.b true)) (.bin .eql (.proj 0 (.v 0)) (.c (.i .i64 3)))) (.bin .neq (.proj 3 (.v 0)) (.c (.s []))) (.c (.b false))]))
theorem Kp1 : type_of% (tev_eq @Gv3.eq_1) := (tev_eq @Gv3.eq_1)
def Jb0 : T := (.w (.chk (.scal (.c (.i .i64 1232)))) (.ret [.agg [.proj 0 (.v 0), .proj 1 (.v 0), .v 1, .c (.b true), .c (.b false), .c (.b false), .proj 6 (.v 0), .c (.b false), .c (.b false), .proj 9 (.v 0), .proj 10 (.v 0), .c (.i .i64 1232), .proj 12 (.v 0), .proj 13 (.v 0), .c (.l 16 []), .c (.l 16 []), .c (.l 16 [])]]))
def Jk9 : T := (.ret [.agg [.proj 0 (.v 0), .proj 1 (.v 0), .v 1, .c (.b true), .c (.b false), .c (.b false), .proj 6 (.v 0), .c (.b false), .c (.b false), .proj 9 (.v 0), .proj 10 (.v 0), .c (.i .i64 0), .proj 12 (.v 0), .proj 13 (.v 0), .c (.l 16 []), .c (.l 16 []), .c (.l 16 [])]])
def Gv2 : T := (.w (.chk (.fit 17 (.v 0))) (.w (.chk (.scal (.proj 0 (.v 0)))) (.w (.chk (.scal (.proj 1 (.v 0)))) (.w (.chk (.scal (.v 1))) (.w (.chk (.scal (.c (.b true)))) (.w (.chk (.scal (.proj 6 (.v 0)))) (.w (.chk (.scal (.proj 9 (.v 0)))) (.w (.chk (.scal (.proj 10 (.v 0)))) (.ite (.bin .neq (.proj 11 (.v 0)) (.c (.i .i64 0))) Jb0 Jk9)))))))))
theorem Lg0 : type_of% (And.intro (tev_eq @Jb0.eq_1) (And.intro (tev_eq @Jk9.eq_1) (tev_eq @Gv2.eq_1))) := (And.intro (tev_eq @Jb0.eq_1) (And.intro (tev_eq @Jk9.eq_1) (tev_eq @Gv2.eq_1)))
def Jz9 : T := (.yld 1 [.app 16 (.app 16 (.v 2) (.v 6)) (.v 7), .bin .add (.v 3) (.c (.i .i64 1))])
def Jk8 : T := (.w (.chk (.app 16 (.v 2) (.v 6))) (.w (.call none false By2 [.sub 0 2 (.v 0), .proj 0 (.idx 1 (.v 1) (.v 3)), .c (.i .i64 28)] 1) Jz9))
def Ip4 : T := (.w (.call none false By2 [.sub 0 2 (.v 0), .proj 0 (.idx 1 (.v 1) (.v 3)), .c (.i .i64 1)] 1) Jk8)
def Ih0 : T := (.yld 1 [.v 2, .bin .add (.v 3) (.c (.i .i64 1))])
def Ic6 : T := (.ite (.v 5) Ip4 Ih0)
def Iy3 : T := (.w (.call none true Gg1 [.sub 0 2 (.v 0), .proj 0 (.idx 1 (.v 1) (.v 3))] 2) Ic6)
def Jl3 : T := (.ite (.bin .lss (.v 3) (.len (.v 1))) Iy3 (.yld 0 [.v 2]))
def Kl2 : T := .loop 1 [.c (.l 16 []), .c (.i .i64 0)] Jl3
def Gv1 : T := (.w (.chk (.fit 2 (.v 0))) (.w (.chk (.len (.v 1))) (.blk 0 Kl2 (.ret [.v 2]))))
theorem Jr6 : type_of% (And.intro (tev_eq @Jz9.eq_1) (And.intro (tev_eq @Jk8.eq_1) (And.intro (tev_eq @Ip4.eq_1) (And.intro (tev_eq @Ih0.eq_1) (And.intro (tev_eq @Ic6.eq_1) (And.intro (tev_eq @Iy3.eq_1) (And.intro (tev_eq @Jl3.eq_1) (tev_eq @Gv1.eq_1)))))))) := (And.intro (tev_eq @Jz9.eq_1) (And.intro (tev_eq @Jk8.eq_1) (And.intro (tev_eq @Ip4.eq_1) (And.intro (tev_eq @Ih0.eq_1) (And.intro (tev_eq @Ic6.eq_1) (And.intro (tev_eq @Iy3.eq_1) (And.intro (tev_eq @Jl3.eq_1) (tev_eq @Gv1.eq_1))))))))
def Jz8 : T := (.w (.chk (.scal (.proj 6 (.sub 0 16 (.idx 16 (.v 0) (.v 2)))))) (.yld 1 [.app 1 (.v 1) (.lit 1 [.proj 6 (.sub 0 16 (.idx 16 (.v 0) (.v 2)))]), .bin .add (.v 2) (.c (.i .i64 1))]))
def Jk7 : T := (.yld 1 [.v 1, .bin .add (.v 2) (.c (.i .i64 1))])
def Ip3 : T := (.ite (.ite (.ite (.ite (.bin .eql (.proj 1 (.sub 0 16 (.idx 16 (.v 0) (.v 2)))) (.c (.i .i64 2))) (.c (.b true)) (.bin .eql (.proj 1 (.sub 0 16 (.idx 16 (.v 0) (.v 2)))) (.c (.i .i64 15)))) (.c (.b true)) (.bin .eql (.proj 1 (.sub 0 16 (.idx 16 (.v 0) (.v 2)))) (.c (.i .i64 33)))) (.un .not (.v 3)) (.c (.b false))) Jz8 Jk7)
def Ig9 : T := (.w (.chk (.fit 16 (.sub 0 16 (.idx 16 (.v 0) (.v 2))))) (.w (.call (some (.ite (.ite (.bin .eql (.proj 1 (.sub 0 16 (.idx 16 (.v 0) (.v 2)))) (.c (.i .i64 2))) (.c (.b true)) (.bin .eql (.proj 1 (.sub 0 16 (.idx 16 (.v 0) (.v 2)))) (.c (.i .i64 15)))) (.c (.b true)) (.bin .eql (.proj 1 (.sub 0 16 (.idx 16 (.v 0) (.v 2)))) (.c (.i .i64 33))))) true Cy6 [.v 1, .proj 6 (.sub 0 16 (.idx 16 (.v 0) (.v 2)))] 1) Ip3))
def Jl2 : T := (.ite (.bin .lss (.v 2) (.len (.v 0))) Ig9 (.yld 0 [.v 1]))
def Kl1 : T := .loop 1 [.c (.l 1 []), .c (.i .i64 0)] Jl2
def Gv0 : T := (.w (.chk (.len (.v 0))) (.blk 0 Kl1 (.ret [.v 1])))
theorem Bl1 : type_of% (And.intro (tev_eq @Jz8.eq_1) (And.intro (tev_eq @Jk7.eq_1) (And.intro (tev_eq @Ip3.eq_1) (And.intro (tev_eq @Ig9.eq_1) (And.intro (tev_eq @Jl2.eq_1) (tev_eq @Gv0.eq_1)))))) := (And.intro (tev_eq @Jz8.eq_1) (And.intro (tev_eq @Jk7.eq_1) (And.intro (tev_eq @Ip3.eq_1) (And.intro (tev_eq @Ig9.eq_1) (And.intro (tev_eq @Jl2.eq_1) (tev_eq @Gv0.eq_1))))))
def Jz7 : T := (.yld 1 [.app 16 (.app 16 (.v 2) (.v 4)) (.v 5), .bin .add (.v 3) (.c (.i .i64 1))])
def Jk6 : T := (.w (.chk (.app 16 (.v 2) (.v 4))) (.w (.call none false By2 [.sub 0 2 (.v 0), .proj 0 (.idx 1 (.v 1) (.v 3)), .c (.i .i64 28)] 1) Jz7))
def Ip2 : T := (.w (.call none false By2 [.sub 0 2 (.v 0), .proj 0 (.idx 1 (.v 1) (.v 3)), .c (.i .i64 1)] 1) Jk6)
def Jl1 : T := (.ite (.bin .lss (.v 3) (.len (.v 1))) Ip2 (.yld 0 [.v 2]))
def Kl0 : T := .loop 1 [.c (.l 16 []), .c (.i .i64 0)] Jl1
def Gq9 : T := (.w (.chk (.fit 2 (.v 0))) (.w (.chk (.len (.v 1))) (.blk 0 Kl0 (.ret [.v 2]))))
theorem Kp0 : type_of% (And.intro (tev_eq @Jz7.eq_1) (And.intro (tev_eq @Jk6.eq_1) (And.intro (tev_eq @Ip2.eq_1) (And.intro (tev_eq @Jl1.eq_1) (tev_eq @Gq9.eq_1))))) := (And.intro (tev_eq @Jz7.eq_1) (And.intro (tev_eq @Jk6.eq_1) (And.intro (tev_eq @Ip2.eq_1) (And.intro (tev_eq @Jl1.eq_1) (tev_eq @Gq9.eq_1)))))
def Jz6 : T := (.w (.chk (.scal (.c (.i .i64 1232)))) (.ret [.agg [.proj 0 (.v 0), .proj 1 (.v 0), .v 1, .c (.b true), .c (.b false), .c (.b false), .proj 6 (.v 0), .c (.b false), .c (.b false), .proj 9 (.v 0), .proj 10 (.v 0), .c (.i .i64 1232), .proj 12 (.v 0), .proj 13 (.v 0), .c (.l 16 []), .c (.l 16 []), .c (.l 16 [])]]))
def Jk5 : T := (.ret [.agg [.proj 0 (.v 0), .proj 1 (.v 0), .v 1, .c (.b true), .c (.b false), .c (.b false), .proj 6 (.v 0), .c (.b false), .c (.b false), .proj 9 (.v 0), .proj 10 (.v 0), .c (.i .i64 0), .proj 12 (.v 0), .proj 13 (.v 0), .c (.l 16 []), .c (.l 16 []), .c (.l 16 [])]])
def Gq8 : T := (.w (.chk (.fit 17 (.v 0))) (.w (.chk (.scal (.proj 0 (.v 0)))) (.w (.chk (.scal (.proj 1 (.v 0)))) (.w (.chk (.scal (.v 1))) (.w (.chk (.scal (.c (.b true)))) (.w (.chk (.scal (.proj 6 (.v 0)))) (.w (.chk (.scal (.proj 9 (.v 0)))) (.w (.chk (.scal (.proj 10 (.v 0)))) (.ite (.bin .neq (.proj 11 (.v 0)) (.c (.i .i64 0))) Jz6 Jk5)))))))))
theorem Lf9 : type_of% (And.intro (tev_eq @Jz6.eq_1) (And.intro (tev_eq @Jk5.eq_1) (tev_eq @Gq8.eq_1))) := (And.intro (tev_eq @Jz6.eq_1) (And.intro (tev_eq @Jk5.eq_1) (tev_eq @Gq8.eq_1)))
def Jz5 : T := (.yld 2 [.app 16 (.v 3) (.proj 4 (.idx 5 (.v 0) (.v 4)))])
def Jk4 : T := (.ite (.ite (.ite (.bin .eql (.proj 0 (.idx 5 (.v 0) (.v 4))) (.c (.i .i64 2))) (.c (.b true)) (.bin .eql (.proj 0 (.idx 5 (.v 0) (.v 4))) (.c (.i .i64 3)))) (.c (.b true)) (.bin .eql (.proj 0 (.idx 5 (.v 0) (.v 4))) (.c (.i .i64 1)))) Jz5 (.yld 2 [.v 3]))
def Ip1 : T := (.w (.chk (.scal (.proj 3 (.idx 5 (.v 0) (.v 4))))) (.w (.chk (.scal (.v 2))) (.w (.chk (.scal (.c (.i .i64 5)))) (.w (.chk (.scal (.proj 2 (.idx 16 (.proj 4 (.idx 5 (.v 0) (.v 4))) (.c (.i .i64 0)))))) (.yld 2 [.app 16 (.v 5) (.lit 16 [.agg [.v 2, .c (.i .i64 5), .proj 2 (.idx 16 (.proj 4 (.idx 5 (.v 0) (.v 4))) (.c (.i .i64 0))), .c (.b false), .c (.i .u64 0), .c (.i .u64 0), .proj 3 (.idx 5 (.v 0) (.v 4)), .c (.s []), .c (.s []), .c (.i .i64 0), .c (.i .i64 0), .c (.i .i64 0), .c (.i .i64 0), .c (.i .i64 0), .c (.i .i64 0), .c (.i .u64 0)]])])))))
def Ig8 : T := (.ite (.ite (.bin .eql (.proj 0 (.idx 5 (.v 0) (.v 4))) (.c (.i .i64 3))) (.bin .neq (.proj 3 (.idx 5 (.v 0) (.v 4))) (.c (.s []))) (.c (.b false))) Ip1 (.yld 2 [.v 5]))
def Ic5 : T := (.yld 1 [.proj 3 (.idx 5 (.v 0) (.v 4)), .v 6, .bin .add (.v 4) (.c (.i .i64 1))])
def Iy2 : T := (.blk 2 Ig8 Ic5)
def Iv2 : T := (.blk 2 Jk4 Iy2)
def Jl0 : T := (.ite (.bin .lss (.v 4) (.len (.v 0))) Iv2 (.yld 0 [.v 3]))
def Kh9 : T := .loop 1 [.v 1, .c (.l 16 []), .c (.i .i64 0)] Jl0
def Gq7 : T := (.blk 0 Kh9 (.ret [.v 2]))
theorem Dn6 : type_of% (And.intro (tev_eq @Jz5.eq_1) (And.intro (tev_eq @Jk4.eq_1) (And.intro (tev_eq @Ip1.eq_1) (And.intro (tev_eq @Ig8.eq_1) (And.intro (tev_eq @Ic5.eq_1) (And.intro (tev_eq @Iy2.eq_1) (And.intro (tev_eq @Iv2.eq_1) (And.intro (tev_eq @Jl0.eq_1) (tev_eq @Gq7.eq_1))))))))) := (And.intro (tev_eq @Jz5.eq_1) (And.intro (tev_eq @Jk4.eq_1) (And.intro (tev_eq @Ip1.eq_1) (And.intro (tev_eq @Ig8.eq_1) (And.intro (tev_eq @Ic5.eq_1) (And.intro (tev_eq @Iy2.eq_1) (And.intro (tev_eq @Iv2.eq_1) (And.intro (tev_eq @Jl0.eq_1) (tev_eq @Gq7.eq_1)))))))))
def Jz4 : T := (.yld 1 [.app 16 (.app 16 (.v 2) (.v 6)) (.v 7), .bin .add (.v 3) (.c (.i .i64 1))])
def Jk3 : T := (.w (.chk (.app 16 (.v 2) (.v 6))) (.w (.call none false Bv9 [.sub 0 2 (.v 0), .proj 0 (.idx 1 (.v 1) (.v 3)), .c (.i .i64 28)] 1) Jz4))
def Ip0 : T := (.w (.call none false Bv9 [.sub 0 2 (.v 0), .proj 0 (.idx 1 (.v 1) (.v 3)), .c (.i .i64 1)] 1) Jk3)
def Ig7 : T := (.yld 1 [.v 2, .bin .add (.v 3) (.c (.i .i64 1))])
def Ic4 : T := (.ite (.v 5) Ip0 Ig7)
def Iy1 : T := (.w (.call none true Ds8 [.sub 0 2 (.v 0), .proj 0 (.idx 1 (.v 1) (.v 3))] 2) Ic4)
def Jh9 : T := (.ite (.bin .lss (.v 3) (.len (.v 1))) Iy1 (.yld 0 [.v 2]))
def Kh8 : T := .loop 1 [.c (.l 16 []), .c (.i .i64 0)] Jh9
def Gq6 : T := (.w (.chk (.fit 2 (.v 0))) (.blk 0 Kh8 (.ret [.v 2])))
theorem Jr5 : type_of% (And.intro (tev_eq @Jz4.eq_1) (And.intro (tev_eq @Jk3.eq_1) (And.intro (tev_eq @Ip0.eq_1) (And.intro (tev_eq @Ig7.eq_1) (And.intro (tev_eq @Ic4.eq_1) (And.intro (tev_eq @Iy1.eq_1) (And.intro (tev_eq @Jh9.eq_1) (tev_eq @Gq6.eq_1)))))))) := (And.intro (tev_eq @Jz4.eq_1) (And.intro (tev_eq @Jk3.eq_1) (And.intro (tev_eq @Ip0.eq_1) (And.intro (tev_eq @Ig7.eq_1) (And.intro (tev_eq @Ic4.eq_1) (And.intro (tev_eq @Iy1.eq_1) (And.intro (tev_eq @Jh9.eq_1) (tev_eq @Gq6.eq_1))))))))
def Jz3 : T := (.yld 3 [.ite (.v 3) (.c (.b true)) (.bin .eql (.proj 0 (.idx 1 (.v 1) (.v 4))) (.proj 6 (.idx 16 (.v 0) (.v 2)))), .bin .add (.v 4) (.c (.i .i64 1))])
def Jg4 : T := (.ite (.bin .lss (.v 4) (.len (.v 1))) Jz3 (.yld 2 [.v 3]))
def Kf9 : T := .loop 3 [.ite (.ite (.bin .neq (.proj 1 (.idx 16 (.v 0) (.v 2))) (.c (.i .i64 2))) (.bin .neq (.proj 1 (.idx 16 (.v 0) (.v 2))) (.c (.i .i64 15))) (.c (.b false))) (.bin .neq (.proj 1 (.idx 16 (.v 0) (.v 2))) (.c (.i .i64 33))) (.c (.b false)), .c (.i .i64 0)] Jg4
def Jk2 : T := (.w (.chk (.scal (.proj 6 (.idx 16 (.v 0) (.v 2))))) (.yld 1 [.app 1 (.v 1) (.lit 1 [.proj 6 (.idx 16 (.v 0) (.v 2))]), .bin .add (.v 2) (.c (.i .i64 1))]))
def In9 : T := (.yld 1 [.v 1, .bin .add (.v 2) (.c (.i .i64 1))])
def Ig6 : T := (.ite (.un .not (.v 3)) Jk2 In9)
def Ic3 : T := (.blk 2 Kf9 Ig6)
def Jh8 : T := (.ite (.bin .lss (.v 2) (.len (.v 0))) Ic3 (.yld 0 [.v 1]))
def Kh7 : T := .loop 1 [.c (.l 1 []), .c (.i .i64 0)] Jh8
def Gq5 : T := (.blk 0 Kh7 (.ret [.v 1]))
theorem Dw8 : type_of% (And.intro (tev_eq @Jz3.eq_1) (And.intro (tev_eq @Jg4.eq_1) (And.intro (tev_eq @Jk2.eq_1) (And.intro (tev_eq @In9.eq_1) (And.intro (tev_eq @Ig6.eq_1) (And.intro (tev_eq @Ic3.eq_1) (And.intro (tev_eq @Jh8.eq_1) (tev_eq @Gq5.eq_1)))))))) := (And.intro (tev_eq @Jz3.eq_1) (And.intro (tev_eq @Jg4.eq_1) (And.intro (tev_eq @Jk2.eq_1) (And.intro (tev_eq @In9.eq_1) (And.intro (tev_eq @Ig6.eq_1) (And.intro (tev_eq @Ic3.eq_1) (And.intro (tev_eq @Jh8.eq_1) (tev_eq @Gq5.eq_1))))))))
def Jz2 : T := (.w (.chk (.scal (.proj 13 (.sub 0 16 (.idx 16 (.v 1) (.c (.i .i64 0))))))) (.ret [.lit 16 [.agg [.proj 0 (.sub 0 16 (.idx 16 (.v 1) (.c (.i .i64 0)))), .proj 1 (.sub 0 16 (.idx 16 (.v 1) (.c (.i .i64 0)))), .proj 13 (.sub 0 16 (.idx 16 (.v 1) (.c (.i .i64 0)))), .proj 3 (.sub 0 16 (.idx 16 (.v 1) (.c (.i .i64 0)))), .proj 4 (.sub 0 16 (.idx 16 (.v 1) (.c (.i .i64 0)))), .proj 5 (.sub 0 16 (.idx 16 (.v 1) (.c (.i .i64 0)))), .proj 6 (.sub 0 16 (.idx 16 (.v 1) (.c (.i .i64 0)))), .proj 7 (.sub 0 16 (.idx 16 (.v 1) (.c (.i .i64 0)))), .proj 8 (.sub 0 16 (.idx 16 (.v 1) (.c (.i .i64 0)))), .proj 9 (.sub 0 16 (.idx 16 (.v 1) (.c (.i .i64 0)))), .proj 10 (.sub 0 16 (.idx 16 (.v 1) (.c (.i .i64 0)))), .proj 11 (.sub 0 16 (.idx 16 (.v 1) (.c (.i .i64 0)))), .proj 12 (.sub 0 16 (.idx 16 (.v 1) (.c (.i .i64 0)))), .proj 13 (.sub 0 16 (.idx 16 (.v 1) (.c (.i .i64 0)))), .proj 14 (.sub 0 16 (.idx 16 (.v 1) (.c (.i .i64 0)))), .proj 15 (.sub 0 16 (.idx 16 (.v 1) (.c (.i .i64 0))))]]]))
def Jk1 : T := (.w (.chk (.fit 16 (.sub 0 16 (.sub 0 16 (.idx 16 (.v 1) (.c (.i .i64 0))))))) (.ret [.lit 16 [.sub 0 16 (.sub 0 16 (.idx 16 (.v 1) (.c (.i .i64 0))))]]))
def In8 : T := (.w (.chk (.fit 16 (.sub 0 16 (.idx 16 (.v 1) (.c (.i .i64 0)))))) (.ite (.bin .lss (.proj 13 (.sub 0 16 (.idx 16 (.v 1) (.c (.i .i64 0))))) (.proj 2 (.sub 0 16 (.idx 16 (.v 1) (.c (.i .i64 0)))))) Jz2 Jk1))
def Ig5 : T := (.ite (.bin .eql (.len (.v 1)) (.c (.i .i64 0))) (.ret [.c (.l 16 [])]) In8)
def Gq4 : T := (.w (.chk (.fit 2 (.v 0))) (.w (.call none false Bv9 [.sub 0 2 (.v 0), .proj 0 (.v 0), .c (.i .i64 6)] 1) Ig5))
theorem Lf8 : type_of% (And.intro (tev_eq @Jz2.eq_1) (And.intro (tev_eq @Jk1.eq_1) (And.intro (tev_eq @In8.eq_1) (And.intro (tev_eq @Ig5.eq_1) (tev_eq @Gq4.eq_1))))) := (And.intro (tev_eq @Jz2.eq_1) (And.intro (tev_eq @Jk1.eq_1) (And.intro (tev_eq @In8.eq_1) (And.intro (tev_eq @Ig5.eq_1) (tev_eq @Gq4.eq_1)))))
def Jz1 : T := (.yld 1 [.app 16 (.app 16 (.v 2) (.v 4)) (.v 5), .bin .add (.v 3) (.c (.i .i64 1))])
def Jk0 : T := (.w (.chk (.app 16 (.v 2) (.v 4))) (.w (.call none false Bv9 [.sub 0 2 (.v 0), .proj 0 (.idx 1 (.v 1) (.v 3)), .c (.i .i64 28)] 1) Jz1))
def In7 : T := (.w (.call none false Bv9 [.sub 0 2 (.v 0), .proj 0 (.idx 1 (.v 1) (.v 3)), .c (.i .i64 1)] 1) Jk0)
def Jh7 : T := (.ite (.bin .lss (.v 3) (.len (.v 1))) In7 (.yld 0 [.v 2]))
def Kh6 : T := .loop 1 [.c (.l 16 []), .c (.i .i64 0)] Jh7
def Gq3 : T := (.w (.chk (.fit 2 (.v 0))) (.blk 0 Kh6 (.ret [.v 2])))
theorem Kn9 : type_of% (And.intro (tev_eq @Jz1.eq_1) (And.intro (tev_eq @Jk0.eq_1) (And.intro (tev_eq @In7.eq_1) (And.intro (tev_eq @Jh7.eq_1) (tev_eq @Gq3.eq_1))))) := (And.intro (tev_eq @Jz1.eq_1) (And.intro (tev_eq @Jk0.eq_1) (And.intro (tev_eq @In7.eq_1) (And.intro (tev_eq @Jh7.eq_1) (tev_eq @Gq3.eq_1)))))
def Jz0 : T := (.yld 1 [.bin .add (.v 3) (.c (.i .i64 1))])
def Jj9 : T := (.w (.chk (.ite (.ite (.un .not (.v 4)) (.un .not (.bin .gtr (.v 3) (.c (.i .i64 0)))) (.c (.b false))) (.bin .neq (.proj 0 (.idx 1 (.v 2) (.v 3))) (.c (.s [42]))) (.c .u))) (.ite (.ite (.un .not (.v 4)) (.ite (.bin .gtr (.v 3) (.c (.i .i64 0))) (.c (.b true)) (.bin .neq (.proj 0 (.idx 1 (.v 2) (.v 3))) (.c (.s [42])))) (.c (.b false))) (.ret [.c (.b false)]) Jz0))
def In6 : T := (.w (.call none true Hz4 [.proj 0 (.idx 1 (.v 2) (.v 3))] 1) Jj9)
def Fr5 : T := (.ite (.bin .lss (.v 3) (.len (.v 2))) In6 (.yld 0 []))
def Kh5 : T := .loop 1 [.c (.i .i64 0)] Fr5
def Ig4 : T := (.w (.chk (.len (.v 2))) (.blk 0 Kh5 (.ret [.c (.b true)])))
def Ic2 : T := (.w (.call none false Gd5 [.ssl (.v 0) (.c (.i .i64 0)) (.bin .sub (.slen (.v 0)) (.c (.i .i64 1))), .c (.s [46])] 1) Ig4)
def Iy0 : T := (.ite (.ite (.bin .geq (.slen (.v 0)) (.c (.i .i64 255))) (.c (.b true)) (.un .not (.v 1))) (.ret [.c (.b false)]) Ic2)
def Iv1 : T := (.w (.call (some (.un .not (.bin .geq (.slen (.v 0)) (.c (.i .i64 255))))) true Gd6 [.v 0, .c (.s [46])] 1) Iy0)
def Gq2 : T := (.ite (.bin .eql (.v 0) (.c (.s [46]))) (.ret [.c (.b true)]) Iv1)
theorem Cv7 : type_of% (And.intro (tev_eq @Jz0.eq_1) (And.intro (tev_eq @Jj9.eq_1) (And.intro (tev_eq @In6.eq_1) (And.intro (tev_eq @Fr5.eq_1) (And.intro (tev_eq @Ig4.eq_1) (And.intro (tev_eq @Ic2.eq_1) (And.intro (tev_eq @Iy0.eq_1) (And.intro (tev_eq @Iv1.eq_1) (tev_eq @Gq2.eq_1))))))))) := (And.intro (tev_eq @Jz0.eq_1) (And.intro (tev_eq @Jj9.eq_1) (And.intro (tev_eq @In6.eq_1) (And.intro (tev_eq @Fr5.eq_1) (And.intro (tev_eq @Ig4.eq_1) (And.intro (tev_eq @Ic2.eq_1) (And.intro (tev_eq @Iy0.eq_1) (And.intro (tev_eq @Iv1.eq_1) (tev_eq @Gq2.eq_1)))))))))
def Jy9 : T := (.ret [.ite (.ite (.bin .eql (.v 1) (.c (.s [46]))) (.c (.b true)) (.bin .eql (.v 0) (.v 1))) (.c (.b true)) (.v 2)])
def Gq1 : T := (.w (.chk (.ite (.un .not (.ite (.bin .eql (.v 1) (.c (.s [46]))) (.c (.b true)) (.bin .eql (.v 0) (.v 1)))) (.bin .add (.c (.s [46])) (.v 1)) (.c .u))) (.w (.call (some (.un .not (.ite (.bin .eql (.v 1) (.c (.s [46]))) (.c (.b true)) (.bin .eql (.v 0) (.v 1))))) true Gd6 [.v 0, .bin .add (.c (.s [46])) (.v 1)] 1) Jy9))
theorem Mh4 : type_of% (And.intro (tev_eq @Jy9.eq_1) (tev_eq @Gq1.eq_1)) := (And.intro (tev_eq @Jy9.eq_1) (tev_eq @Gq1.eq_1))
def Gq0 : T := (.w (.call none false As4 [.v 0] 2) (.ret [.v 2]))
theorem Mh3 : type_of% (tev_eq @Gq0.eq_1) := (tev_eq @Gq0.eq_1)
def Jy8 : T := (.w (.chk (.fit 16 (.sub 0 16 (.idx 16 (.v 0) (.v 4))))) (.yld 1 [.app 16 (.v 3) (.lit 16 [.sub 0 16 (.idx 16 (.v 0) (.v 4))]), .bin .add (.v 4) (.c (.i .i64 1))]))
def Jj8 : T := (.yld 1 [.v 3, .bin .add (.v 4) (.c (.i .i64 1))])
def In5 : T := (.ite (.ite (.bin .eql (.proj 0 (.idx 16 (.v 0) (.v 4))) (.v 1)) (.bin .eql (.proj 1 (.idx 16 (.v 0) (.v 4))) (.v 2)) (.c (.b false))) Jy8 Jj8)
def Jh6 : T := (.ite (.bin .lss (.v 4) (.len (.v 0))) In5 (.yld 0 [.v 3]))
def Kh4 : T := .loop 1 [.c (.l 16 []), .c (.i .i64 0)] Jh6
def Gk9 : T := (.blk 0 Kh4 (.ret [.v 3]))
theorem Gm8 : type_of% (And.intro (tev_eq @Jy8.eq_1) (And.intro (tev_eq @Jj8.eq_1) (And.intro (tev_eq @In5.eq_1) (And.intro (tev_eq @Jh6.eq_1) (tev_eq @Gk9.eq_1))))) := (And.intro (tev_eq @Jy8.eq_1) (And.intro (tev_eq @Jj8.eq_1) (And.intro (tev_eq @In5.eq_1) (And.intro (tev_eq @Jh6.eq_1) (tev_eq @Gk9.eq_1)))))
def Jy7 : T := (.ret [.ite (.ite (.ite (.ite (.v 1) (.v 2) (.c (.b false))) (.bin .geq (.proj 2 (.v 0)) (.c (.i .i64 0))) (.c (.b false))) (.bin .leq (.proj 2 (.v 0)) (.c (.i .i64 2147483647))) (.c (.b false))) (.v 3) (.c (.b false))])
def Jj7 : T := (.w (.call (some (.ite (.ite (.ite (.v 1) (.v 2) (.c (.b false))) (.bin .geq (.proj 2 (.v 0)) (.c (.i .i64 0))) (.c (.b false))) (.bin .leq (.proj 2 (.v 0)) (.c (.i .i64 2147483647))) (.c (.b false)))) true Ck7 [.proj 1 (.v 0), .agg [.proj 3 (.v 0), .proj 4 (.v 0), .proj 5 (.v 0), .proj 6 (.v 0), .proj 7 (.v 0), .proj 8 (.v 0), .proj 9 (.v 0), .proj 10 (.v 0), .proj 11 (.v 0), .proj 12 (.v 0), .proj 13 (.v 0), .proj 14 (.v 0), .proj 15 (.v 0)]] 1) Jy7)
def In4 : T := (.w (.chk (.ite (.v 1) (.c .u) (.c .u))) (.w (.call (some (.v 1)) true Bj8 [.proj 1 (.v 0)] 1) Jj7))
def Gk8 : T := (.w (.chk (.fit 16 (.v 0))) (.w (.call none true Bm0 [.proj 0 (.v 0)] 1) In4))
theorem Mh2 : type_of% (And.intro (tev_eq @Jy7.eq_1) (And.intro (tev_eq @Jj7.eq_1) (And.intro (tev_eq @In4.eq_1) (tev_eq @Gk8.eq_1)))) := (And.intro (tev_eq @Jy7.eq_1) (And.intro (tev_eq @Jj7.eq_1) (And.intro (tev_eq @In4.eq_1) (tev_eq @Gk8.eq_1))))
def Jy6 : T := (.yld 1 [.bin .add (.v 2) (.c (.i .i64 1))])
def Jj6 : T := (.ite (.eqs true true [.s, .i .i64, .i .i64, .b, .i .u64, .i .u64, .s, .s, .s, .i .i64, .i .i64, .i .i64, .i .i64, .i .i64, .i .i64, .i .u64] (.sub 0 16 (.idx 16 (.v 0) (.v 2))) (.sub 0 16 (.idx 16 (.v 1) (.v 2)))) (.ret [.c (.b false)]) Jy6)
def Jh5 : T := (.ite (.bin .lss (.v 2) (.len (.v 0))) Jj6 (.yld 0 []))
def Kh3 : T := .loop 1 [.c (.i .i64 0)] Jh5
def In3 : T := (.blk 0 Kh3 (.ret [.c (.b true)]))
def Gk7 : T := (.ite (.bin .neq (.len (.v 0)) (.len (.v 1))) (.ret [.c (.b false)]) In3)
theorem Fs8 : type_of% (And.intro (tev_eq @Jy6.eq_1) (And.intro (tev_eq @Jj6.eq_1) (And.intro (tev_eq @Jh5.eq_1) (And.intro (tev_eq @In3.eq_1) (tev_eq @Gk7.eq_1))))) := (And.intro (tev_eq @Jy6.eq_1) (And.intro (tev_eq @Jj6.eq_1) (And.intro (tev_eq @Jh5.eq_1) (And.intro (tev_eq @In3.eq_1) (tev_eq @Gk7.eq_1)))))
def Jy5 : T := (.yld 3 [.bin .add (.v 3) (.c (.i .i64 1))])
def Jj5 : T := (.ite (.ite (.bin .lss (.v 3) (.len (.v 1))) (.bin .lss (.v 4) (.c (.i .i64 0))) (.c (.b false))) Jy5 (.yld 2 [.v 3]))
def Jg3 : T := (.w (.chk (.ite (.bin .lss (.v 3) (.len (.v 1))) (.sub 0 16 (.idx 16 (.v 1) (.v 3))) (.c .u))) (.w (.chk (.ite (.bin .lss (.v 3) (.len (.v 1))) (.sub 0 16 (.idx 16 (.v 0) (.v 2))) (.c .u))) (.w (.call (some (.bin .lss (.v 3) (.len (.v 1)))) true Ck6 [.sub 0 16 (.idx 16 (.v 1) (.v 3)), .sub 0 16 (.idx 16 (.v 0) (.v 2))] 1) Jj5)))
def Hg3 : T := .loop 3 [.c (.i .i64 0)] Jg3
def In2 : T := (.w (.chk (.idx 16 (.v 1) (.v 3))) (.w (.chk (.fit 16 (.sub 0 16 (.idx 16 (.v 0) (.v 2))))) (.yld 2 [.set 16 (.v 1) (.v 3) 0 [.proj 0 (.sub 0 16 (.idx 16 (.v 0) (.v 2))), .proj 1 (.sub 0 16 (.idx 16 (.v 0) (.v 2))), .proj 2 (.sub 0 16 (.idx 16 (.v 0) (.v 2))), .proj 3 (.sub 0 16 (.idx 16 (.v 0) (.v 2))), .proj 4 (.sub 0 16 (.idx 16 (.v 0) (.v 2))), .proj 5 (.sub 0 16 (.idx 16 (.v 0) (.v 2))), .proj 6 (.sub 0 16 (.idx 16 (.v 0) (.v 2))), .proj 7 (.sub 0 16 (.idx 16 (.v 0) (.v 2))), .proj 8 (.sub 0 16 (.idx 16 (.v 0) (.v 2))), .proj 9 (.sub 0 16 (.idx 16 (.v 0) (.v 2))), .proj 10 (.sub 0 16 (.idx 16 (.v 0) (.v 2))), .proj 11 (.sub 0 16 (.idx 16 (.v 0) (.v 2))), .proj 12 (.sub 0 16 (.idx 16 (.v 0) (.v 2))), .proj 13 (.sub 0 16 (.idx 16 (.v 0) (.v 2))), .proj 14 (.sub 0 16 (.idx 16 (.v 0) (.v 2))), .proj 15 (.sub 0 16 (.idx 16 (.v 0) (.v 2)))]])))
def Ig3 : T := (.ite (.bin .lss (.proj 2 (.idx 16 (.v 0) (.v 2))) (.proj 2 (.idx 16 (.v 1) (.v 3)))) In2 (.yld 2 [.v 1]))
def Ic1 : T := (.yld 1 [.v 5, .bin .add (.v 2) (.c (.i .i64 1))])
def Ix9 : T := (.blk 2 Ig3 Ic1)
def Iv0 : T := (.w (.chk (.fit 16 (.sub 0 16 (.idx 16 (.v 0) (.v 2))))) (.yld 1 [.app 16 (.app 16 (.app 16 (.c (.l 16 [])) (.lsl 16 (.v 1) (.c (.i .i64 0)) (.v 3))) (.lit 16 [.sub 0 16 (.idx 16 (.v 0) (.v 2))])) (.lsl 16 (.v 1) (.v 3) (.len (.v 1))), .bin .add (.v 2) (.c (.i .i64 1))]))
def Ij6 : T := (.ite (.ite (.bin .lss (.v 3) (.len (.v 1))) (.bin .eql (.v 4) (.c (.i .i64 0))) (.c (.b false))) Ix9 Iv0)
def Hs8 : T := (.w (.chk (.ite (.bin .lss (.v 3) (.len (.v 1))) (.sub 0 16 (.idx 16 (.v 1) (.v 3))) (.c .u))) (.w (.chk (.ite (.bin .lss (.v 3) (.len (.v 1))) (.sub 0 16 (.idx 16 (.v 0) (.v 2))) (.c .u))) (.w (.call (some (.bin .lss (.v 3) (.len (.v 1)))) true Ck6 [.sub 0 16 (.idx 16 (.v 1) (.v 3)), .sub 0 16 (.idx 16 (.v 0) (.v 2))] 1) Ij6)))
def Hp9 : T := (.blk 2 Hg3 Hs8)
def Jh4 : T := (.ite (.bin .lss (.v 2) (.len (.v 0))) Hp9 (.yld 0 [.v 1]))
def Kh2 : T := .loop 1 [.c (.l 16 []), .c (.i .i64 0)] Jh4
def Gk6 : T := (.blk 0 Kh2 (.ret [.v 1]))
theorem Cv6 : type_of% (And.intro (tev_eq @Jy5.eq_1) (And.intro (tev_eq @Jj5.eq_1) (And.intro (tev_eq @Jg3.eq_1) (And.intro (tev_eq @In2.eq_1) (And.intro (tev_eq @Ig3.eq_1) (And.intro (tev_eq @Ic1.eq_1) (And.intro (tev_eq @Ix9.eq_1) (And.intro (tev_eq @Iv0.eq_1) (And.intro (tev_eq @Ij6.eq_1) (And.intro (tev_eq @Hs8.eq_1) (And.intro (tev_eq @Hp9.eq_1) (And.intro (tev_eq @Jh4.eq_1) (tev_eq @Gk6.eq_1))))))))))))) := (And.intro (tev_eq @Jy5.eq_1) (And.intro (tev_eq @Jj5.eq_1) (And.intro (tev_eq @Jg3.eq_1) (And.intro (tev_eq @In2.eq_1) (And.intro (tev_eq @Ig3.eq_1) (And.intro (tev_eq @Ic1.eq_1) (And.intro (tev_eq @Ix9.eq_1) (And.intro (tev_eq @Iv0.eq_1) (And.intro (tev_eq @Ij6.eq_1) (And.intro (tev_eq @Hs8.eq_1) (And.intro (tev_eq @Hp9.eq_1) (And.intro (tev_eq @Jh4.eq_1) (tev_eq @Gk6.eq_1)))))))))))))
def Jy4 : T := (.ret [.bin .gtr (.len (.v 3)) (.c (.i .i64 0))])
def Gk5 : T := (.w (.call none false Dc3 [.v 0, .v 1, .v 2] 1) Jy4)
theorem Mh1 : type_of% (And.intro (tev_eq @Jy4.eq_1) (tev_eq @Gk5.eq_1)) := (And.intro (tev_eq @Jy4.eq_1) (tev_eq @Gk5.eq_1))
def Jy3 : T := (.yld 1 [.bin .add (.v 2) (.c (.i .i64 1))])
def Jj4 : T := (.yld 1 [.bin .add (.v 2) (.c (.i .i64 1))])
def In1 : T := (.ite (.ite (.ite (.ite (.bin .eql (.proj 1 (.v 1)) (.c (.i .i64 5))) (.bin .neq (.proj 1 (.sub 0 16 (.idx 16 (.proj 1 (.v 0)) (.v 2)))) (.c (.i .i64 5))) (.c (.b false))) (.bin .neq (.proj 1 (.sub 0 16 (.idx 16 (.proj 1 (.v 0)) (.v 2)))) (.c (.i .i64 46))) (.c (.b false))) (.bin .neq (.proj 1 (.sub 0 16 (.idx 16 (.proj 1 (.v 0)) (.v 2)))) (.c (.i .i64 47))) (.c (.b false))) (.ret [.c (.b false)]) Jj4)
def Ig2 : T := (.ite (.ite (.ite (.bin .eql (.proj 1 (.sub 0 16 (.idx 16 (.proj 1 (.v 0)) (.v 2)))) (.proj 1 (.v 1))) (.v 3) (.c (.b false))) (.eqs true true [.s, .i .i64, .i .i64, .b, .i .u64, .i .u64, .s, .s, .s, .i .i64, .i .i64, .i .i64, .i .i64, .i .i64, .i .i64, .i .u64] (.sub 0 16 (.sub 0 16 (.idx 16 (.proj 1 (.v 0)) (.v 2)))) (.sub 0 16 (.v 1))) (.c (.b false))) (.ret [.c (.b false)]) In1)
def Ic0 : T := (.w (.call (some (.bin .eql (.proj 1 (.sub 0 16 (.idx 16 (.proj 1 (.v 0)) (.v 2)))) (.proj 1 (.v 1)))) true Df8 [.proj 1 (.v 1)] 1) Ig2)
def Ix8 : T := (.ite (.ite (.ite (.bin .eql (.proj 1 (.sub 0 16 (.idx 16 (.proj 1 (.v 0)) (.v 2)))) (.proj 1 (.v 1))) (.bin .neq (.proj 1 (.v 1)) (.c (.i .i64 46))) (.c (.b false))) (.bin .neq (.proj 2 (.sub 0 16 (.idx 16 (.proj 1 (.v 0)) (.v 2)))) (.proj 2 (.v 1))) (.c (.b false))) (.ret [.c (.b false)]) Ic0)
def Iq9 : T := (.w (.chk (.fit 16 (.sub 0 16 (.idx 16 (.proj 1 (.v 0)) (.v 2))))) (.ite (.bin .neq (.proj 0 (.sub 0 16 (.idx 16 (.proj 1 (.v 0)) (.v 2)))) (.proj 0 (.v 1))) Jy3 Ix8))
def Fr4 : T := (.ite (.bin .lss (.v 2) (.len (.proj 1 (.v 0)))) Iq9 (.yld 0 []))
def Kh1 : T := .loop 1 [.c (.i .i64 0)] Fr4
def Gk4 : T := (.w (.chk (.fit 2 (.v 0))) (.w (.chk (.fit 16 (.v 1))) (.blk 0 Kh1 (.ret [.c (.b true)]))))
theorem Gm7 : type_of% (And.intro (tev_eq @Jy3.eq_1) (And.intro (tev_eq @Jj4.eq_1) (And.intro (tev_eq @In1.eq_1) (And.intro (tev_eq @Ig2.eq_1) (And.intro (tev_eq @Ic0.eq_1) (And.intro (tev_eq @Ix8.eq_1) (And.intro (tev_eq @Iq9.eq_1) (And.intro (tev_eq @Fr4.eq_1) (tev_eq @Gk4.eq_1))))))))) := (And.intro (tev_eq @Jy3.eq_1) (And.intro (tev_eq @Jj4.eq_1) (And.intro (tev_eq @In1.eq_1) (And.intro (tev_eq @Ig2.eq_1) (And.intro (tev_eq @Ic0.eq_1) (And.intro (tev_eq @Ix8.eq_1) (And.intro (tev_eq @Iq9.eq_1) (And.intro (tev_eq @Fr4.eq_1) (tev_eq @Gk4.eq_1)))))))))
def Jy2 : T := (.yld 1 [.bin .add (.v 3) (.c (.i .i64 1))])
def Jj3 : T := (.ite (.ite (.ite (.ite (.ite (.bin .eql (.proj 1 (.sub 0 16 (.idx 16 (.proj 1 (.v 0)) (.v 3)))) (.c (.i .i64 2))) (.v 5) (.c (.b false))) (.v 6) (.c (.b false))) (.bin .neq (.proj 1 (.v 1)) (.c (.i .i64 1))) (.c (.b false))) (.bin .neq (.proj 1 (.v 1)) (.c (.i .i64 28))) (.c (.b false))) (.ret [.c (.b false)]) Jy2)
def In0 : T := (.w (.chk (.ite (.ite (.bin .eql (.proj 1 (.sub 0 16 (.idx 16 (.proj 1 (.v 0)) (.v 3)))) (.c (.i .i64 2))) (.v 5) (.c (.b false))) (.c .u) (.c .u))) (.w (.call (some (.ite (.bin .eql (.proj 1 (.sub 0 16 (.idx 16 (.proj 1 (.v 0)) (.v 3)))) (.c (.i .i64 2))) (.v 5) (.c (.b false)))) true Cy5 [.proj 0 (.v 1), .proj 0 (.sub 0 16 (.idx 16 (.proj 1 (.v 0)) (.v 3)))] 1) Jj3))
def Ig1 : T := (.w (.call (some (.bin .eql (.proj 1 (.sub 0 16 (.idx 16 (.proj 1 (.v 0)) (.v 3)))) (.c (.i .i64 2)))) true Cy5 [.proj 0 (.sub 0 16 (.idx 16 (.proj 1 (.v 0)) (.v 3))), .proj 0 (.v 0)] 1) In0)
def Ib9 : T := (.ite (.ite (.bin .eql (.proj 1 (.sub 0 16 (.idx 16 (.proj 1 (.v 0)) (.v 3)))) (.c (.i .i64 39))) (.v 4) (.c (.b false))) (.ret [.c (.b false)]) Ig1)
def Ix7 : T := (.w (.chk (.fit 16 (.sub 0 16 (.idx 16 (.proj 1 (.v 0)) (.v 3))))) (.w (.call (some (.bin .eql (.proj 1 (.sub 0 16 (.idx 16 (.proj 1 (.v 0)) (.v 3)))) (.c (.i .i64 39)))) true Cy5 [.proj 0 (.v 1), .proj 0 (.sub 0 16 (.idx 16 (.proj 1 (.v 0)) (.v 3)))] 1) Ib9))
def Fr3 : T := (.ite (.bin .lss (.v 3) (.len (.proj 1 (.v 0)))) Ix7 (.yld 0 []))
def Kh0 : T := .loop 1 [.c (.i .i64 0)] Fr3
def Iq8 : T := (.ite (.bin .eql (.proj 1 (.v 1)) (.c (.i .i64 2))) (.ret [.c (.b true)]) (.ret [.c (.b false)]))
def Ij5 : T := (.ite (.bin .eql (.proj 1 (.v 1)) (.c (.i .i64 43))) (.ret [.c (.b true)]) (.ret [.c (.b false)]))
def Hs7 : T := (.ite (.bin .eql (.proj 1 (.v 1)) (.c (.i .i64 47))) (.ret [.c (.b true)]) (.ret [.c (.b false)]))
def Hp8 : T := (.ite (.bin .eql (.proj 1 (.v 1)) (.c (.i .i64 46))) (.ret [.c (.b true)]) (.ret [.c (.b false)]))
def Fx4 : T := (.ite (.bin .eql (.proj 1 (.v 1)) (.c (.i .i64 1))) (.ret [.c (.b true)]) (.ret [.c (.b false)]))
def Fw1 : T := (.ite (.bin .eql (.proj 1 (.v 1)) (.c (.i .i64 28))) (.ret [.c (.b true)]) (.ret [.c (.b false)]))
def Fv2 : T := (.ite (.bin .eql (.proj 1 (.v 1)) (.c (.i .i64 1))) Fx4 Fw1)
def Fq3 : T := (.ite (.bin .eql (.proj 1 (.v 1)) (.c (.i .i64 46))) Hp8 Fv2)
def Fk6 : T := (.ite (.bin .eql (.proj 1 (.v 1)) (.c (.i .i64 47))) Hs7 Fq3)
def Fj9 : T := (.ite (.bin .eql (.proj 1 (.v 1)) (.c (.i .i64 43))) Ij5 Fk6)
def Fj2 : T := (.ite (.bin .eql (.proj 1 (.v 1)) (.c (.i .i64 2))) Iq8 Fj9)
def Et6 : T := (.ret [.bin .neq (.proj 1 (.v 1)) (.c (.i .i64 43))])
def Et1 : T := (.ite (.ite (.v 3) (.v 4) (.c (.b false))) Fj2 Et6)
def Es6 : T := (.w (.chk (.ite (.v 3) (.c .u) (.c .u))) (.w (.call (some (.v 3)) true Gf3 [.proj 1 (.v 0), .proj 0 (.v 1), .c (.i .i64 2)] 1) Et1))
def En5 : T := (.w (.call none true Cy5 [.proj 0 (.v 1), .proj 0 (.v 0)] 1) Es6)
def Cr1 : T := (.blk 0 Kh0 En5)
def Em7 : T := (.w (.chk (.ite (.ite (.ite (.bin .gtr (.len (.v 2)) (.c (.i .i64 0))) (.bin .eql (.proj 0 (.idx 1 (.v 2) (.c (.i .i64 0)))) (.c (.s [42]))) (.c (.b false))) (.un .not (.bin .eql (.proj 1 (.v 1)) (.c (.i .i64 2)))) (.c (.b false))) (.bin .eql (.proj 1 (.v 1)) (.c (.i .i64 39))) (.c .u))) (.ite (.ite (.ite (.bin .gtr (.len (.v 2)) (.c (.i .i64 0))) (.bin .eql (.proj 0 (.idx 1 (.v 2) (.c (.i .i64 0)))) (.c (.s [42]))) (.c (.b false))) (.ite (.bin .eql (.proj 1 (.v 1)) (.c (.i .i64 2))) (.c (.b true)) (.bin .eql (.proj 1 (.v 1)) (.c (.i .i64 39)))) (.c (.b false))) (.ret [.c (.b false)]) Cr1))
def Gk3 : T := (.w (.chk (.fit 2 (.v 0))) (.w (.chk (.fit 16 (.v 1))) (.w (.call none false Bl9 [.proj 0 (.v 1)] 1) Em7)))
theorem Cv5 : type_of% (And.intro (tev_eq @Jy2.eq_1) (And.intro (tev_eq @Jj3.eq_1) (And.intro (tev_eq @In0.eq_1) (And.intro (tev_eq @Ig1.eq_1) (And.intro (tev_eq @Ib9.eq_1) (And.intro (tev_eq @Ix7.eq_1) (And.intro (tev_eq @Fr3.eq_1) (And.intro (tev_eq @Iq8.eq_1) (And.intro (tev_eq @Ij5.eq_1) (And.intro (tev_eq @Hs7.eq_1) (And.intro (tev_eq @Hp8.eq_1) (And.intro (tev_eq @Fx4.eq_1) (And.intro (tev_eq @Fw1.eq_1) (And.intro (tev_eq @Fv2.eq_1) (And.intro (tev_eq @Fq3.eq_1) (And.intro (tev_eq @Fk6.eq_1) (And.intro (tev_eq @Fj9.eq_1) (And.intro (tev_eq @Fj2.eq_1) (And.intro (tev_eq @Et6.eq_1) (And.intro (tev_eq @Et1.eq_1) (And.intro (tev_eq @Es6.eq_1) (And.intro (tev_eq @En5.eq_1) (And.intro (tev_eq @Cr1.eq_1) (And.intro (tev_eq @Em7.eq_1) (tev_eq @Gk3.eq_1))))))))))))))))))))))))) := (And.intro (tev_eq @Jy2.eq_1) (And.intro (tev_eq @Jj3.eq_1) (And.intro (tev_eq @In0.eq_1) (And.intro (tev_eq @Ig1.eq_1) (And.intro (tev_eq @Ib9.eq_1) (And.intro (tev_eq @Ix7.eq_1) (And.intro (tev_eq @Fr3.eq_1) (And.intro (tev_eq @Iq8.eq_1) (And.intro (tev_eq @Ij5.eq_1) (And.intro (tev_eq @Hs7.eq_1) (And.intro (tev_eq @Hp8.eq_1) (And.intro (tev_eq @Fx4.eq_1) (And.intro (tev_eq @Fw1.eq_1) (And.intro (tev_eq @Fv2.eq_1) (And.intro (tev_eq @Fq3.eq_1) (And.intro (tev_eq @Fk6.eq_1) (And.intro (tev_eq @Fj9.eq_1) (And.intro (tev_eq @Fj2.eq_1) (And.intro (tev_eq @Et6.eq_1) (And.intro (tev_eq @Et1.eq_1) (And.intro (tev_eq @Es6.eq_1) (And.intro (tev_eq @En5.eq_1) (And.intro (tev_eq @Cr1.eq_1) (And.intro (tev_eq @Em7.eq_1) (tev_eq @Gk3.eq_1)))))))))))))))))))))))))
def Jy1 : T := (.w (.chk (.fit 16 (.sub 0 16 (.sub 0 16 (.idx 16 (.v 0) (.v 4)))))) (.yld 1 [.app 16 (.v 3) (.lit 16 [.sub 0 16 (.sub 0 16 (.idx 16 (.v 0) (.v 4)))]), .bin .add (.v 4) (.c (.i .i64 1))]))
def Jj2 : T := (.yld 1 [.v 3, .bin .add (.v 4) (.c (.i .i64 1))])
def Im9 : T := (.w (.chk (.fit 16 (.sub 0 16 (.idx 16 (.v 0) (.v 4))))) (.ite (.ite (.bin .eql (.proj 1 (.sub 0 16 (.idx 16 (.v 0) (.v 4)))) (.v 2)) (.bin .eql (.proj 0 (.sub 0 16 (.idx 16 (.v 0) (.v 4)))) (.v 1)) (.c (.b false))) Jy1 Jj2))
def Jh3 : T := (.ite (.bin .lss (.v 4) (.len (.v 0))) Im9 (.yld 0 [.v 3]))
def Kg9 : T := .loop 1 [.c (.l 16 []), .c (.i .i64 0)] Jh3
def Gk2 : T := (.w (.chk (.len (.v 0))) (.blk 0 Kg9 (.ret [.v 3])))
theorem Gm6 : type_of% (And.intro (tev_eq @Jy1.eq_1) (And.intro (tev_eq @Jj2.eq_1) (And.intro (tev_eq @Im9.eq_1) (And.intro (tev_eq @Jh3.eq_1) (tev_eq @Gk2.eq_1))))) := (And.intro (tev_eq @Jy1.eq_1) (And.intro (tev_eq @Jj2.eq_1) (And.intro (tev_eq @Im9.eq_1) (And.intro (tev_eq @Jh3.eq_1) (tev_eq @Gk2.eq_1)))))
def Jy0 : T := (.ret [.c (.s []), .c (.b false)])
def Jj1 : T := (.ret [.c (.s [46]), .c (.b true)])
def Im8 : T := (.ret [.ssl (.v 0) (.bin .add (.v 2) (.c (.i .i64 1))) (.slen (.v 0)), .c (.b true)])
def Ig0 : T := (.ite (.bin .eql (.ssl (.v 0) (.bin .add (.v 2) (.c (.i .i64 1))) (.slen (.v 0))) (.c (.s []))) Jj1 Im8)
def Ib8 : T := (.w (.call none true Df7 [.v 0, .c (.i .u8 46)] 1) Ig0)
def Ix6 : T := (.ite (.ite (.bin .eql (.v 0) (.c (.s [46]))) (.c (.b true)) (.un .not (.v 1))) Jy0 Ib8)
def Gk1 : T := (.w (.call (some (.un .not (.bin .eql (.v 0) (.c (.s [46]))))) true As5 [.v 0] 1) Ix6)
theorem Jr4 : type_of% (And.intro (tev_eq @Jy0.eq_1) (And.intro (tev_eq @Jj1.eq_1) (And.intro (tev_eq @Im8.eq_1) (And.intro (tev_eq @Ig0.eq_1) (And.intro (tev_eq @Ib8.eq_1) (And.intro (tev_eq @Ix6.eq_1) (tev_eq @Gk1.eq_1))))))) := (And.intro (tev_eq @Jy0.eq_1) (And.intro (tev_eq @Jj1.eq_1) (And.intro (tev_eq @Im8.eq_1) (And.intro (tev_eq @Ig0.eq_1) (And.intro (tev_eq @Ib8.eq_1) (And.intro (tev_eq @Ix6.eq_1) (tev_eq @Gk1.eq_1)))))))
def Jx9 : T := (.ret [.c (.s []), .c (.i .i64 2)])
def Jj0 : T := (.ret [.c (.s []), .c (.i .i64 1)])
def Im7 : T := (.w (.call none true Df6 [.v 0, .v 1] 1) (.yld 0 [.v 7]))
def Fp5 : T := (.ite (.bin .neq (.v 1) (.c (.s [46]))) Im7 (.yld 0 [.v 0]))
def Ib7 : T := (.yld 0 [.bin .add (.v 7) (.v 2)])
def Ix5 : T := (.ite (.bin .eql (.v 2) (.c (.s [46]))) (.yld 0 [.v 7]) Ib7)
def Iq7 : T := (.ret [.c (.s []), .c (.i .i64 9)])
def Ij4 : T := (.ret [.v 8, .c (.i .i64 0)])
def Hs6 : T := (.ite (.bin .geq (.slen (.v 8)) (.c (.i .i64 255))) Iq7 Ij4)
def Hp7 : T := (.w (.chk (.bin .add (.v 7) (.v 2))) (.blk 0 Ix5 Hs6))
def Fx3 : T := (.blk 0 Fp5 Hp7)
def Fw0 : T := (.ite (.ite (.bin .eql (.v 0) (.v 1)) (.c (.b true)) (.un .not (.v 6))) Jj0 Fx3)
def Fv1 : T := (.w (.call (some (.un .not (.bin .eql (.v 0) (.v 1)))) true Gf4 [.v 0, .v 1] 1) Fw0)
def Fq2 : T := (.ite (.ite (.ite (.ite (.un .not (.v 3)) (.c (.b true)) (.un .not (.v 4))) (.c (.b true)) (.un .not (.v 5))) (.c (.b true)) (.bin .eql (.sidx (.v 2) (.c (.i .i64 0))) (.c (.i .u8 42)))) Jx9 Fv1)
def Fk5 : T := (.w (.chk (.ite (.un .not (.ite (.un .not (.v 3)) (.c (.b true)) (.un .not (.v 4)))) (.c .u) (.c .u))) (.w (.call (some (.un .not (.ite (.un .not (.v 3)) (.c (.b true)) (.un .not (.v 4))))) true As5 [.v 2] 1) Fq2))
def Fj8 : T := (.w (.chk (.ite (.un .not (.un .not (.v 3))) (.c .u) (.c .u))) (.w (.call (some (.un .not (.un .not (.v 3)))) true As5 [.v 1] 1) Fk5))
def Gk0 : T := (.w (.call none true As5 [.v 0] 1) Fj8)
theorem Bb2 : type_of% (And.intro (tev_eq @Jx9.eq_1) (And.intro (tev_eq @Jj0.eq_1) (And.intro (tev_eq @Im7.eq_1) (And.intro (tev_eq @Fp5.eq_1) (And.intro (tev_eq @Ib7.eq_1) (And.intro (tev_eq @Ix5.eq_1) (And.intro (tev_eq @Iq7.eq_1) (And.intro (tev_eq @Ij4.eq_1) (And.intro (tev_eq @Hs6.eq_1) (And.intro (tev_eq @Hp7.eq_1) (And.intro (tev_eq @Fx3.eq_1) (And.intro (tev_eq @Fw0.eq_1) (And.intro (tev_eq @Fv1.eq_1) (And.intro (tev_eq @Fq2.eq_1) (And.intro (tev_eq @Fk5.eq_1) (And.intro (tev_eq @Fj8.eq_1) (tev_eq @Gk0.eq_1))))))))))))))))) := (And.intro (tev_eq @Jx9.eq_1) (And.intro (tev_eq @Jj0.eq_1) (And.intro (tev_eq @Im7.eq_1) (And.intro (tev_eq @Fp5.eq_1) (And.intro (tev_eq @Ib7.eq_1) (And.intro (tev_eq @Ix5.eq_1) (And.intro (tev_eq @Iq7.eq_1) (And.intro (tev_eq @Ij4.eq_1) (And.intro (tev_eq @Hs6.eq_1) (And.intro (tev_eq @Hp7.eq_1) (And.intro (tev_eq @Fx3.eq_1) (And.intro (tev_eq @Fw0.eq_1) (And.intro (tev_eq @Fv1.eq_1) (And.intro (tev_eq @Fq2.eq_1) (And.intro (tev_eq @Fk5.eq_1) (And.intro (tev_eq @Fj8.eq_1) (tev_eq @Gk0.eq_1)))))))))))))))))
def Jx8 : T := (.yld 1 [.v 3, .bin .add (.v 4) (.c (.i .i64 1))])
def It9 : T := (.yld 2 [.app 1 (.v 7) (.lit 1 [.v 8])])
def Im6 : T := (.yld 3 [.app 1 (.v 7) (.lit 1 [.v 8]), .v 9])
def If9 : T := (.w (.call none true Ds7 [.v 8] 2) Im6)
def Fp9 : T := (.w (.chk (.scal (.v 8))) (.w (.chk (.app 1 (.v 7) (.lit 1 [.v 8]))) (.ite (.bin .eql (.v 8) (.proj 0 (.v 0))) It9 If9)))
def Hg2 : T := .loop 3 [.v 3, .proj 0 (.idx 1 (.v 2) (.v 4))] Fp9
def Ib6 : T := (.yld 1 [.v 7, .bin .add (.v 4) (.c (.i .i64 1))])
def Ix4 : T := (.blk 2 Hg2 Ib6)
def Iq6 : T := (.ite (.ite (.un .not (.v 5)) (.c (.b true)) (.v 6)) Jx8 Ix4)
def Ij3 : T := (.w (.chk (.ite (.un .not (.un .not (.v 5))) (.c .u) (.c .u))) (.w (.call (some (.un .not (.un .not (.v 5)))) true Df3 [.v 1, .clo Ck5 [.proj 0 (.idx 1 (.v 2) (.v 4))]] 1) Iq6))
def Hs5 : T := (.w (.chk (.scal (.proj 0 (.idx 1 (.v 2) (.v 4))))) (.w (.call none true By3 [.proj 0 (.idx 1 (.v 2) (.v 4)), .proj 0 (.v 0)] 1) Ij3))
def Jh2 : T := (.ite (.bin .lss (.v 4) (.len (.v 2))) Hs5 (.yld 0 [.v 3]))
def Kg8 : T := .loop 1 [.c (.l 1 []), .c (.i .i64 0)] Jh2
def Hp6 : T := (.w (.mcall Bf5 [.v 4]) (.ret [.v 5]))
def Fx2 : T := (.w (.mcall Bj7 [.v 3, .c (.f Al0 [])]) Hp6)
def Fv9 : T := (.w (.chk (.len (.v 2))) (.blk 0 Kg8 Fx2))
def Fv0 : T := (.w (.call none false Df4 [.proj 1 (.v 0)] 1) Fv9)
def Gj9 : T := (.w (.chk (.fit 2 (.v 0))) (.w (.call none false Df5 [.sub 0 2 (.v 0)] 1) Fv0))
theorem Dn5 : type_of% (And.intro (tev_eq @Jx8.eq_1) (And.intro (tev_eq @It9.eq_1) (And.intro (tev_eq @Im6.eq_1) (And.intro (tev_eq @If9.eq_1) (And.intro (tev_eq @Fp9.eq_1) (And.intro (tev_eq @Ib6.eq_1) (And.intro (tev_eq @Ix4.eq_1) (And.intro (tev_eq @Iq6.eq_1) (And.intro (tev_eq @Ij3.eq_1) (And.intro (tev_eq @Hs5.eq_1) (And.intro (tev_eq @Jh2.eq_1) (And.intro (tev_eq @Hp6.eq_1) (And.intro (tev_eq @Fx2.eq_1) (And.intro (tev_eq @Fv9.eq_1) (And.intro (tev_eq @Fv0.eq_1) (tev_eq @Gj9.eq_1)))))))))))))))) := (And.intro (tev_eq @Jx8.eq_1) (And.intro (tev_eq @It9.eq_1) (And.intro (tev_eq @Im6.eq_1) (And.intro (tev_eq @If9.eq_1) (And.intro (tev_eq @Fp9.eq_1) (And.intro (tev_eq @Ib6.eq_1) (And.intro (tev_eq @Ix4.eq_1) (And.intro (tev_eq @Iq6.eq_1) (And.intro (tev_eq @Ij3.eq_1) (And.intro (tev_eq @Hs5.eq_1) (And.intro (tev_eq @Jh2.eq_1) (And.intro (tev_eq @Hp6.eq_1) (And.intro (tev_eq @Fx2.eq_1) (And.intro (tev_eq @Fv9.eq_1) (And.intro (tev_eq @Fv0.eq_1) (tev_eq @Gj9.eq_1))))))))))))))))
def Jx7 : T := (.w (.mcall Df2 [.v 2, .clo Ck4 [.v 1]]) (.ret [.v 3]))
def It8 : T := (.w (.call none false Hz3 [.v 0] 1) Jx7)
def Gj8 : T := (.w (.chk (.scal (.v 1))) (.ite (.bin .eql (.v 1) (.c (.i .i64 255))) (.ret [.v 0]) It8))
theorem Lf7 : type_of% (And.intro (tev_eq @Jx7.eq_1) (And.intro (tev_eq @It8.eq_1) (tev_eq @Gj8.eq_1))) := (And.intro (tev_eq @Jx7.eq_1) (And.intro (tev_eq @It8.eq_1) (tev_eq @Gj8.eq_1)))
def Jx6 : T := (.ite (.bin .eql (.v 0) (.c (.i .i64 5))) (.ret [.c (.b true)]) (.ret [.c (.b false)]))
def It7 : T := (.ite (.bin .eql (.v 0) (.c (.i .i64 47))) (.ret [.c (.b true)]) (.ret [.c (.b false)]))
def Im5 : T := (.ite (.bin .eql (.v 0) (.c (.i .i64 46))) (.ret [.c (.b true)]) (.ret [.c (.b false)]))
def If8 : T := (.ite (.bin .eql (.v 0) (.c (.i .i64 255))) (.ret [.c (.b true)]) (.ret [.c (.b false)]))
def Ib5 : T := (.ite (.bin .eql (.v 0) (.c (.i .i64 46))) Im5 If8)
def Ix3 : T := (.ite (.bin .eql (.v 0) (.c (.i .i64 47))) It7 Ib5)
def Gj7 : T := (.ite (.bin .eql (.v 0) (.c (.i .i64 5))) Jx6 Ix3)
theorem Gm5 : type_of% (And.intro (tev_eq @Jx6.eq_1) (And.intro (tev_eq @It7.eq_1) (And.intro (tev_eq @Im5.eq_1) (And.intro (tev_eq @If8.eq_1) (And.intro (tev_eq @Ib5.eq_1) (And.intro (tev_eq @Ix3.eq_1) (tev_eq @Gj7.eq_1))))))) := (And.intro (tev_eq @Jx6.eq_1) (And.intro (tev_eq @It7.eq_1) (And.intro (tev_eq @Im5.eq_1) (And.intro (tev_eq @If8.eq_1) (And.intro (tev_eq @Ib5.eq_1) (And.intro (tev_eq @Ix3.eq_1) (tev_eq @Gj7.eq_1)))))))
def Jx5 : T := (.ret [.c (.s []), .c (.b false)])
def It6 : T := (.ret [.c (.s []), .c (.b false)])
def Im4 : T := (.w (.call none true Ds7 [.v 4] 2) (.yld 1 [.v 6]))
def If7 : T := (.ite (.bin .eql (.v 4) (.proj 0 (.v 0))) It6 Im4)
def Ib4 : T := (.ite (.un .not (.v 5)) If7 (.yld 0 [.v 4]))
def Fr2 : T := (.w (.call none true Cy6 [.v 3, .v 4] 1) Ib4)
def Kg7 : T := .loop 1 [.v 1] Fr2
def Ix2 : T := (.ret [.v 4, .c (.b true)])
def Iq5 : T := (.blk 0 Kg7 Ix2)
def Ij2 : T := (.w (.call none false Gf2 [.sub 0 2 (.v 0)] 1) Iq5)
def Hs4 : T := (.ite (.un .not (.v 2)) Jx5 Ij2)
def Gj6 : T := (.w (.chk (.fit 2 (.v 0))) (.w (.call none true By3 [.v 1, .proj 0 (.v 0)] 1) Hs4))
theorem Dn4 : type_of% (And.intro (tev_eq @Jx5.eq_1) (And.intro (tev_eq @It6.eq_1) (And.intro (tev_eq @Im4.eq_1) (And.intro (tev_eq @If7.eq_1) (And.intro (tev_eq @Ib4.eq_1) (And.intro (tev_eq @Fr2.eq_1) (And.intro (tev_eq @Ix2.eq_1) (And.intro (tev_eq @Iq5.eq_1) (And.intro (tev_eq @Ij2.eq_1) (And.intro (tev_eq @Hs4.eq_1) (tev_eq @Gj6.eq_1))))))))))) := (And.intro (tev_eq @Jx5.eq_1) (And.intro (tev_eq @It6.eq_1) (And.intro (tev_eq @Im4.eq_1) (And.intro (tev_eq @If7.eq_1) (And.intro (tev_eq @Ib4.eq_1) (And.intro (tev_eq @Fr2.eq_1) (And.intro (tev_eq @Ix2.eq_1) (And.intro (tev_eq @Iq5.eq_1) (And.intro (tev_eq @Ij2.eq_1) (And.intro (tev_eq @Hs4.eq_1) (tev_eq @Gj6.eq_1)))))))))))
def Jx4 : T := (.yld 0 [.c (.s [42, 46])])
def It5 : T := (.yld 0 [.bin .add (.c (.s [42, 46])) (.v 0)])
def Im3 : T := (.ite (.bin .eql (.v 0) (.c (.s [46]))) Jx4 It5)
def If6 : T := (.ret [.c (.s []), .c (.b false)])
def Ib3 : T := (.ret [.v 1, .c (.b true)])
def Ix1 : T := (.ite (.ite (.ite (.un .not (.v 2)) (.c (.b true)) (.bin .eql (.sidx (.v 0) (.c (.i .i64 0))) (.c (.i .u8 42)))) (.c (.b true)) (.un .not (.v 3))) If6 Ib3)
def Iq4 : T := (.w (.call (some (.un .not (.ite (.un .not (.v 2)) (.c (.b true)) (.bin .eql (.sidx (.v 0) (.c (.i .i64 0))) (.c (.i .u8 42)))))) true As5 [.v 1] 1) Ix1)
def Fp3 : T := (.w (.call none true As5 [.v 0] 1) Iq4)
def Gj5 : T := (.w (.chk (.bin .add (.c (.s [42, 46])) (.v 0))) (.blk 0 Im3 Fp3))
theorem Jr3 : type_of% (And.intro (tev_eq @Jx4.eq_1) (And.intro (tev_eq @It5.eq_1) (And.intro (tev_eq @Im3.eq_1) (And.intro (tev_eq @If6.eq_1) (And.intro (tev_eq @Ib3.eq_1) (And.intro (tev_eq @Ix1.eq_1) (And.intro (tev_eq @Iq4.eq_1) (And.intro (tev_eq @Fp3.eq_1) (tev_eq @Gj5.eq_1))))))))) := (And.intro (tev_eq @Jx4.eq_1) (And.intro (tev_eq @It5.eq_1) (And.intro (tev_eq @Im3.eq_1) (And.intro (tev_eq @If6.eq_1) (And.intro (tev_eq @Ib3.eq_1) (And.intro (tev_eq @Ix1.eq_1) (And.intro (tev_eq @Iq4.eq_1) (And.intro (tev_eq @Fp3.eq_1) (tev_eq @Gj5.eq_1)))))))))
def Jx3 : T := (.ret [.c (.l 1 []), .c (.b true)])
def It4 : T := (.ret [.c (.l 1 []), .c (.b false)])
def Im2 : T := (.yld 1 [.v 1, .v 2, .bin .add (.v 3) (.c (.i .i64 1))])
def If5 : T := (.ret [.c (.l 1 []), .c (.b false)])
def Ib2 : T := (.w (.chk (.scal (.ssl (.v 0) (.v 2) (.v 3)))) (.yld 1 [.app 1 (.v 1) (.lit 1 [.ssl (.v 0) (.v 2) (.v 3)]), .bin .add (.v 3) (.c (.i .i64 1)), .bin .add (.v 3) (.c (.i .i64 1))]))
def Ix0 : T := (.w (.chk (.ite (.ite (.un .not (.un .not (.v 4))) (.bin .eql (.ssl (.v 0) (.v 2) (.v 3)) (.c (.s [42]))) (.c (.b false))) (.bin .gtr (.v 2) (.c (.i .i64 0))) (.c .u))) (.ite (.ite (.un .not (.v 4)) (.c (.b true)) (.ite (.bin .eql (.ssl (.v 0) (.v 2) (.v 3)) (.c (.s [42]))) (.bin .gtr (.v 2) (.c (.i .i64 0))) (.c (.b false)))) If5 Ib2))
def Iq3 : T := (.w (.call none true Df1 [.ssl (.v 0) (.v 2) (.v 3)] 1) Ix0)
def Ij1 : T := (.ite (.bin .neq (.sidx (.v 0) (.v 3)) (.c (.i .u8 46))) Im2 Iq3)
def Jh1 : T := (.ite (.bin .lss (.v 3) (.slen (.v 0))) Ij1 (.yld 0 [.v 1]))
def Kg6 : T := .loop 1 [.c (.l 1 []), .c (.i .i64 0), .c (.i .i64 0)] Jh1
def Hs3 : T := (.ret [.v 1, .c (.b true)])
def Hp5 : T := (.blk 0 Kg6 Hs3)
def Fx1 : T := (.ite (.ite (.ite (.bin .lss (.slen (.v 0)) (.c (.i .i64 2))) (.c (.b true)) (.bin .gtr (.slen (.v 0)) (.c (.i .i64 254)))) (.c (.b true)) (.bin .neq (.sidx (.v 0) (.bin .sub (.slen (.v 0)) (.c (.i .i64 1)))) (.c (.i .u8 46)))) It4 Hp5)
def Gj4 : T := (.ite (.bin .eql (.v 0) (.c (.s [46]))) Jx3 Fx1)
theorem Dw7 : type_of% (And.intro (tev_eq @Jx3.eq_1) (And.intro (tev_eq @It4.eq_1) (And.intro (tev_eq @Im2.eq_1) (And.intro (tev_eq @If5.eq_1) (And.intro (tev_eq @Ib2.eq_1) (And.intro (tev_eq @Ix0.eq_1) (And.intro (tev_eq @Iq3.eq_1) (And.intro (tev_eq @Ij1.eq_1) (And.intro (tev_eq @Jh1.eq_1) (And.intro (tev_eq @Hs3.eq_1) (And.intro (tev_eq @Hp5.eq_1) (And.intro (tev_eq @Fx1.eq_1) (tev_eq @Gj4.eq_1))))))))))))) := (And.intro (tev_eq @Jx3.eq_1) (And.intro (tev_eq @It4.eq_1) (And.intro (tev_eq @Im2.eq_1) (And.intro (tev_eq @If5.eq_1) (And.intro (tev_eq @Ib2.eq_1) (And.intro (tev_eq @Ix0.eq_1) (And.intro (tev_eq @Iq3.eq_1) (And.intro (tev_eq @Ij1.eq_1) (And.intro (tev_eq @Jh1.eq_1) (And.intro (tev_eq @Hs3.eq_1) (And.intro (tev_eq @Hp5.eq_1) (And.intro (tev_eq @Fx1.eq_1) (tev_eq @Gj4.eq_1)))))))))))))
def Jx2 : T := (.yld 1 [.bin .add (.v 2) (.c (.i .i64 1))])
def Fr1 : T := (.ite (.ite (.ite (.bin .lss (.v 2) (.len (.v 0))) (.bin .lss (.v 2) (.len (.v 1))) (.c (.b false))) (.bin .eql (.proj 0 (.idx 1 (.v 0) (.bin .sub (.bin .sub (.len (.v 0)) (.c (.i .i64 1))) (.v 2)))) (.proj 0 (.idx 1 (.v 1) (.bin .sub (.bin .sub (.len (.v 1)) (.c (.i .i64 1))) (.v 2))))) (.c (.b false))) Jx2 (.yld 0 [.v 2]))
def Hg9 : T := .loop 1 [.c (.i .i64 0)] Fr1
def Gj3 : T := (.blk 0 Hg9 (.ret [.v 2]))
theorem Jr2 : type_of% (And.intro (tev_eq @Jx2.eq_1) (And.intro (tev_eq @Fr1.eq_1) (tev_eq @Gj3.eq_1))) := (And.intro (tev_eq @Jx2.eq_1) (And.intro (tev_eq @Fr1.eq_1) (tev_eq @Gj3.eq_1)))
def Jx1 : T := (.ret [.ite (.bin .neq (.v 0) (.v 1)) (.v 2) (.c (.b false))])
def Gj2 : T := (.w (.call (some (.bin .neq (.v 0) (.v 1))) true By1 [.v 0, .v 1] 1) Jx1)
theorem Lf6 : type_of% (And.intro (tev_eq @Jx1.eq_1) (tev_eq @Gj2.eq_1)) := (And.intro (tev_eq @Jx1.eq_1) (tev_eq @Gj2.eq_1))
def Gj1 : T := (.w (.call none false As4 [.v 0] 2) (.ret [.v 1]))
theorem Mh0 : type_of% (tev_eq @Gj1.eq_1) := (tev_eq @Gj1.eq_1)
def Jx0 : T := (.ret [.c (.s []), .c (.b false)])
def It3 : T := (.ret [.v 3, .c (.b true)])
def Im1 : T := (.w (.call none true Gd8 [.lsl 1 (.v 1) (.c (.i .i64 1)) (.len (.v 1))] 1) It3)
def If4 : T := (.ite (.bin .eql (.len (.v 1)) (.c (.i .i64 0))) Jx0 Im1)
def Gj0 : T := (.w (.call none false As4 [.v 0] 2) If4)
theorem Lf5 : type_of% (And.intro (tev_eq @Jx0.eq_1) (And.intro (tev_eq @It3.eq_1) (And.intro (tev_eq @Im1.eq_1) (And.intro (tev_eq @If4.eq_1) (tev_eq @Gj0.eq_1))))) := (And.intro (tev_eq @Jx0.eq_1) (And.intro (tev_eq @It3.eq_1) (And.intro (tev_eq @Im1.eq_1) (And.intro (tev_eq @If4.eq_1) (tev_eq @Gj0.eq_1)))))
def Jw9 : T := (.yld 1 [.bin .add (.bin .add (.v 1) (.proj 0 (.idx 1 (.v 0) (.v 2)))) (.c (.s [46])), .bin .add (.v 2) (.c (.i .i64 1))])
def Jh0 : T := (.ite (.bin .lss (.v 2) (.len (.v 0))) Jw9 (.yld 0 [.v 1]))
def Hg8 : T := .loop 1 [.c (.s []), .c (.i .i64 0)] Jh0
def It2 : T := (.blk 0 Hg8 (.ret [.v 1]))
def Ft9 : T := (.ite (.bin .eql (.len (.v 0)) (.c (.i .i64 0))) (.ret [.c (.s [46])]) It2)
theorem Jr1 : type_of% (And.intro (tev_eq @Jw9.eq_1) (And.intro (tev_eq @Jh0.eq_1) (And.intro (tev_eq @It2.eq_1) (tev_eq @Ft9.eq_1)))) := (And.intro (tev_eq @Jw9.eq_1) (And.intro (tev_eq @Jh0.eq_1) (And.intro (tev_eq @It2.eq_1) (tev_eq @Ft9.eq_1))))
def Jw8 : T := (.yld 1 [.v 1, .bin .add (.v 2) (.c (.i .i64 1))])
def It1 : T := (.yld 2 [.app 16 (.v 5) (.lit 16 [.agg [.v 6, .c (.i .i64 0), .c (.i .i64 0), .c (.b false), .c (.i .u64 0), .c (.i .u64 0), .c (.s []), .c (.s []), .c (.s []), .c (.i .i64 0), .c (.i .i64 0), .c (.i .i64 0), .c (.i .i64 0), .c (.i .i64 0), .c (.i .i64 0), .c (.i .u64 0)]])])
def Im0 : T := (.yld 3 [.app 16 (.v 5) (.lit 16 [.agg [.v 6, .c (.i .i64 0), .c (.i .i64 0), .c (.b false), .c (.i .u64 0), .c (.i .u64 0), .c (.s []), .c (.s []), .c (.s []), .c (.i .i64 0), .c (.i .i64 0), .c (.i .i64 0), .c (.i .i64 0), .c (.i .i64 0), .c (.i .i64 0), .c (.i .u64 0)]]), .v 9, .bin .add (.v 7) (.c (.i .i64 1))])
def If3 : T := (.ite (.un .not (.v 10)) It1 Im0)
def Ib1 : T := (.w (.chk (.scal (.v 6))) (.w (.chk (.app 16 (.v 5) (.lit 16 [.agg [.v 6, .c (.i .i64 0), .c (.i .i64 0), .c (.b false), .c (.i .u64 0), .c (.i .u64 0), .c (.s []), .c (.s []), .c (.s []), .c (.i .i64 0), .c (.i .i64 0), .c (.i .i64 0), .c (.i .i64 0), .c (.i .i64 0), .c (.i .i64 0), .c (.i .u64 0)]]))) (.w (.call none true Gd9 [.v 6] 2) If3)))
def Iw9 : T := (.ite (.ite (.bin .leq (.v 7) (.c (.i .i64 255))) (.v 8) (.c (.b false))) Ib1 (.yld 2 [.v 5]))
def Dl8 : T := (.w (.call (some (.bin .leq (.v 7) (.c (.i .i64 255)))) true By1 [.v 6, .proj 0 (.v 0)] 1) Iw9)
def Hg1 : T := .loop 3 [.v 1, .proj 0 (.idx 16 (.proj 1 (.v 0)) (.v 2)), .c (.i .i64 0)] Dl8
def Iq2 : T := (.yld 1 [.v 5, .bin .add (.v 2) (.c (.i .i64 1))])
def Ij0 : T := (.blk 2 Hg1 Iq2)
def Hs2 : T := (.ite (.ite (.v 4) (.bin .neq (.v 3) (.proj 0 (.idx 16 (.proj 1 (.v 0)) (.v 2)))) (.c (.b false))) Jw8 Ij0)
def Hp4 : T := (.w (.call none true Ds8 [.sub 0 2 (.v 0), .proj 0 (.idx 16 (.proj 1 (.v 0)) (.v 2))] 2) Hs2)
def Jg9 : T := (.ite (.bin .lss (.v 2) (.len (.proj 1 (.v 0)))) Hp4 (.yld 0 [.v 1]))
def Kg5 : T := .loop 1 [.c (.l 16 []), .c (.i .i64 0)] Jg9
def Fx0 : T := (.w (.call none false Df0 [.v 1] 1) (.ret [.v 2]))
def Ft8 : T := (.w (.chk (.fit 2 (.v 0))) (.blk 0 Kg5 Fx0))
theorem Bb1 : type_of% (And.intro (tev_eq @Jw8.eq_1) (And.intro (tev_eq @It1.eq_1) (And.intro (tev_eq @Im0.eq_1) (And.intro (tev_eq @If3.eq_1) (And.intro (tev_eq @Ib1.eq_1) (And.intro (tev_eq @Iw9.eq_1) (And.intro (tev_eq @Dl8.eq_1) (And.intro (tev_eq @Iq2.eq_1) (And.intro (tev_eq @Ij0.eq_1) (And.intro (tev_eq @Hs2.eq_1) (And.intro (tev_eq @Hp4.eq_1) (And.intro (tev_eq @Jg9.eq_1) (And.intro (tev_eq @Fx0.eq_1) (tev_eq @Ft8.eq_1)))))))))))))) := (And.intro (tev_eq @Jw8.eq_1) (And.intro (tev_eq @It1.eq_1) (And.intro (tev_eq @Im0.eq_1) (And.intro (tev_eq @If3.eq_1) (And.intro (tev_eq @Ib1.eq_1) (And.intro (tev_eq @Iw9.eq_1) (And.intro (tev_eq @Dl8.eq_1) (And.intro (tev_eq @Iq2.eq_1) (And.intro (tev_eq @Ij0.eq_1) (And.intro (tev_eq @Hs2.eq_1) (And.intro (tev_eq @Hp4.eq_1) (And.intro (tev_eq @Jg9.eq_1) (And.intro (tev_eq @Fx0.eq_1) (tev_eq @Ft8.eq_1))))))))))))))
def Jw7 : T := (.yld 1 [.bin .add (.v 2) (.c (.i .i64 1))])
def It0 : T := (.ite (.bin .eql (.v 1) (.proj 0 (.idx 1 (.v 0) (.v 2)))) (.ret [.v 2]) Jw7)
def Jg8 : T := (.ite (.bin .lss (.v 2) (.len (.v 0))) It0 (.yld 0 []))
def Kg4 : T := .loop 1 [.c (.i .i64 0)] Jg8
def Ft7 : T := (.w (.chk (.len (.v 0))) (.blk 0 Kg4 (.ret [.c (.i .i64 (-1))])))
theorem Gm4 : type_of% (And.intro (tev_eq @Jw7.eq_1) (And.intro (tev_eq @It0.eq_1) (And.intro (tev_eq @Jg8.eq_1) (tev_eq @Ft7.eq_1)))) := (And.intro (tev_eq @Jw7.eq_1) (And.intro (tev_eq @It0.eq_1) (And.intro (tev_eq @Jg8.eq_1) (tev_eq @Ft7.eq_1))))
def Ft6 : T := (.w (.call none true Ck3 [.v 0, .v 1] 1) (.ret [.v 2]))
theorem Mg9 : type_of% (tev_eq @Ft6.eq_1) := (tev_eq @Ft6.eq_1)
def Ft5 : T := (.w (.call none false Dd9 [.v 0, .v 1, .c (.i .i64 0), .c (.i .i64 (-1))] 1) (.ret [.v 2]))
theorem Mg8 : type_of% (tev_eq @Ft5.eq_1) := (tev_eq @Ft5.eq_1)
def Jw6 : T := (.yld 1 [.bin .add (.v 1) (.c (.i .i64 1))])
def Is9 : T := (.w (.chk (.ite (.ite (.ite (.bin .lss (.sidx (.v 0) (.v 1)) (.c (.i .u8 97))) (.c (.b true)) (.bin .gtr (.sidx (.v 0) (.v 1)) (.c (.i .u8 122)))) (.un .not (.bin .lss (.sidx (.v 0) (.v 1)) (.c (.i .u8 48)))) (.c (.b false))) (.bin .gtr (.sidx (.v 0) (.v 1)) (.c (.i .u8 57))) (.c .u))) (.ite (.ite (.ite (.ite (.ite (.bin .lss (.sidx (.v 0) (.v 1)) (.c (.i .u8 97))) (.c (.b true)) (.bin .gtr (.sidx (.v 0) (.v 1)) (.c (.i .u8 122)))) (.ite (.bin .lss (.sidx (.v 0) (.v 1)) (.c (.i .u8 48))) (.c (.b true)) (.bin .gtr (.sidx (.v 0) (.v 1)) (.c (.i .u8 57)))) (.c (.b false))) (.bin .neq (.sidx (.v 0) (.v 1)) (.c (.i .u8 45))) (.c (.b false))) (.bin .neq (.sidx (.v 0) (.v 1)) (.c (.i .u8 95))) (.c (.b false))) (.ret [.c (.b false)]) Jw6))
def Fr0 : T := (.ite (.bin .lss (.v 1) (.slen (.v 0))) Is9 (.yld 0 []))
def Kg3 : T := .loop 1 [.c (.i .i64 0)] Fr0
def Il9 : T := (.w (.chk (.slen (.v 0))) (.blk 0 Kg3 (.ret [.c (.b true)])))
def Ft4 : T := (.ite (.ite (.bin .eql (.v 0) (.c (.s []))) (.c (.b true)) (.bin .gtr (.slen (.v 0)) (.c (.i .i64 63)))) (.ret [.c (.b false)]) Il9)
theorem Gm3 : type_of% (And.intro (tev_eq @Jw6.eq_1) (And.intro (tev_eq @Is9.eq_1) (And.intro (tev_eq @Fr0.eq_1) (And.intro (tev_eq @Il9.eq_1) (tev_eq @Ft4.eq_1))))) := (And.intro (tev_eq @Jw6.eq_1) (And.intro (tev_eq @Is9.eq_1) (And.intro (tev_eq @Fr0.eq_1) (And.intro (tev_eq @Il9.eq_1) (tev_eq @Ft4.eq_1)))))
def Jw5 : T := (.yld 1 [.bin .add (.v 2) (.c (.i .i64 1))])
def Is8 : T := (.ite (.v 3) (.ret [.v 2]) Jw5)
def Il8 : T := (.w (.clo none true (.v 1) [.sub 0 16 (.idx 16 (.v 0) (.v 2))] 1) Is8)
def Jg7 : T := (.ite (.bin .lss (.v 2) (.len (.v 0))) Il8 (.yld 0 []))
def Kg2 : T := .loop 1 [.c (.i .i64 0)] Jg7
def Ft3 : T := (.w (.chk (.len (.v 0))) (.blk 0 Kg2 (.ret [.c (.i .i64 (-1))])))
theorem Gm2 : type_of% (And.intro (tev_eq @Jw5.eq_1) (And.intro (tev_eq @Is8.eq_1) (And.intro (tev_eq @Il8.eq_1) (And.intro (tev_eq @Jg7.eq_1) (tev_eq @Ft3.eq_1))))) := (And.intro (tev_eq @Jw5.eq_1) (And.intro (tev_eq @Is8.eq_1) (And.intro (tev_eq @Il8.eq_1) (And.intro (tev_eq @Jg7.eq_1) (tev_eq @Ft3.eq_1)))))
def Ft2 : T := (.w (.chk (.len (.v 0))) (.w (.chk (.lit 16 [])) (.ret [.app 16 (.c (.l 16 [])) (.v 0)])))
theorem Mg7 : type_of% (tev_eq @Ft2.eq_1) := (tev_eq @Ft2.eq_1)
def Fc5 : T := (.ret [.bin .neq (.v 1) (.c (.s []))])
def Bt1 : T := (.w (.call none true Dd8 [.v 0] 1) Fc5)
theorem Ll5 : type_of% (And.intro (tev_eq @Fc5.eq_1) (tev_eq @Bt1.eq_1)) := (And.intro (tev_eq @Fc5.eq_1) (tev_eq @Bt1.eq_1))
def Fc4 : T := (.ret [.ite (.v 4) (.un .not (.proj 0 (.v 1))) (.c (.b false))])
def Es5 : T := (.w (.call none true Ck2 [.sub 0 3 (.v 1)] 1) Fc4)
def Eh9 : T := (.ret [.ite (.ite (.ite (.ite (.ite (.ite (.v 4) (.v 5) (.c (.b false))) (.v 6) (.c (.b false))) (.v 7) (.c (.b false))) (.v 8) (.c (.b false))) (.v 9) (.c (.b false))) (.v 10) (.c (.b false))])
def Ec9 : T := (.w (.chk (.ite (.ite (.ite (.ite (.ite (.ite (.v 4) (.v 5) (.c (.b false))) (.v 6) (.c (.b false))) (.v 7) (.c (.b false))) (.v 8) (.c (.b false))) (.v 9) (.c (.b false))) (.c .u) (.c .u))) (.w (.call (some (.ite (.ite (.ite (.ite (.ite (.v 4) (.v 5) (.c (.b false))) (.v 6) (.c (.b false))) (.v 7) (.c (.b false))) (.v 8) (.c (.b false))) (.v 9) (.c (.b false)))) true Ax3 [.proj 10 (.v 1), .c (.i .i64 2147483647)] 1) Eh9))
def Ez9 : T := (.w (.chk (.ite (.ite (.ite (.ite (.ite (.v 4) (.v 5) (.c (.b false))) (.v 6) (.c (.b false))) (.v 7) (.c (.b false))) (.v 8) (.c (.b false))) (.c .u) (.c .u))) (.w (.call (some (.ite (.ite (.ite (.ite (.v 4) (.v 5) (.c (.b false))) (.v 6) (.c (.b false))) (.v 7) (.c (.b false))) (.v 8) (.c (.b false)))) true Ax3 [.proj 9 (.v 1), .c (.i .i64 2147483647)] 1) Ec9))
def Ey3 : T := (.w (.chk (.ite (.ite (.ite (.ite (.v 4) (.v 5) (.c (.b false))) (.v 6) (.c (.b false))) (.v 7) (.c (.b false))) (.c .u) (.c .u))) (.w (.call (some (.ite (.ite (.ite (.v 4) (.v 5) (.c (.b false))) (.v 6) (.c (.b false))) (.v 7) (.c (.b false)))) true Ax3 [.proj 8 (.v 1), .c (.i .i64 2147483647)] 1) Ez9))
def Ew8 : T := (.w (.chk (.ite (.ite (.ite (.v 4) (.v 5) (.c (.b false))) (.v 6) (.c (.b false))) (.c .u) (.c .u))) (.w (.call (some (.ite (.ite (.v 4) (.v 5) (.c (.b false))) (.v 6) (.c (.b false)))) true Ax3 [.proj 7 (.v 1), .c (.i .i64 2147483647)] 1) Ey3))
def Ev7 : T := (.w (.chk (.ite (.ite (.v 4) (.v 5) (.c (.b false))) (.c .u) (.c .u))) (.w (.call (some (.ite (.v 4) (.v 5) (.c (.b false)))) true Dd6 [.proj 6 (.v 1)] 1) Ew8))
def Eq8 : T := (.w (.chk (.ite (.v 4) (.c .u) (.c .u))) (.w (.call (some (.v 4)) true Ar8 [.proj 4 (.v 1)] 1) Ev7))
def Eq1 : T := (.w (.call none true Ar8 [.proj 3 (.v 1)] 1) Eq8)
def Dq6 : T := (.ret [.ite (.v 4) (.v 5) (.c (.b false))])
def Dq0 : T := (.w (.chk (.ite (.v 4) (.c .u) (.c .u))) (.w (.call (some (.v 4)) true Ax3 [.proj 6 (.v 1), .c (.i .i64 65535)] 1) Dq6))
def Dk4 : T := (.w (.call none true Ar8 [.proj 3 (.v 1)] 1) Dq0)
def Dj8 : T := (.ret [.bin .leq (.slen (.proj 5 (.v 1))) (.c (.i .i64 255))])
def Dj4 : T := (.ret [.ite (.ite (.ite (.v 4) (.v 5) (.c (.b false))) (.v 6) (.c (.b false))) (.v 7) (.c (.b false))])
def Ct9 : T := (.w (.chk (.ite (.ite (.ite (.v 4) (.v 5) (.c (.b false))) (.v 6) (.c (.b false))) (.c .u) (.c .u))) (.w (.call (some (.ite (.ite (.v 4) (.v 5) (.c (.b false))) (.v 6) (.c (.b false)))) true Ax3 [.proj 8 (.v 1), .c (.i .i64 65535)] 1) Dj4))
def Ct5 : T := (.w (.chk (.ite (.ite (.v 4) (.v 5) (.c (.b false))) (.c .u) (.c .u))) (.w (.call (some (.ite (.v 4) (.v 5) (.c (.b false)))) true Ax3 [.proj 7 (.v 1), .c (.i .i64 65535)] 1) Ct9))
def Ct1 : T := (.w (.chk (.ite (.v 4) (.c .u) (.c .u))) (.w (.call (some (.v 4)) true Ax3 [.proj 6 (.v 1), .c (.i .i64 65535)] 1) Ct5))
def Cs7 : T := (.w (.call none true Ar8 [.proj 3 (.v 1)] 1) Ct1)
def Cs3 : T := (.ret [.ite (.ite (.ite (.v 4) (.v 5) (.c (.b false))) (.v 6) (.c (.b false))) (.v 7) (.c (.b false))])
def Cr9 : T := (.w (.chk (.ite (.ite (.ite (.v 4) (.v 5) (.c (.b false))) (.v 6) (.c (.b false))) (.c .u) (.c .u))) (.w (.call (some (.ite (.ite (.v 4) (.v 5) (.c (.b false))) (.v 6) (.c (.b false)))) true Bf4 [.proj 5 (.v 1)] 1) Cs3))
def Cr5 : T := (.w (.chk (.ite (.ite (.v 4) (.v 5) (.c (.b false))) (.c .u) (.c .u))) (.w (.call (some (.ite (.v 4) (.v 5) (.c (.b false)))) true Ax3 [.proj 8 (.v 1), .c (.i .i64 255)] 1) Cr9))
def Cr0 : T := (.w (.chk (.ite (.v 4) (.c .u) (.c .u))) (.w (.call (some (.v 4)) true Ax3 [.proj 7 (.v 1), .c (.i .i64 255)] 1) Cr5))
def Cp6 : T := (.w (.call none true Ax3 [.proj 6 (.v 1), .c (.i .i64 65535)] 1) Cr0)
def Cp1 : T := (.ret [.ite (.ite (.ite (.ite (.ite (.ite (.ite (.ite (.v 4) (.bin .neq (.proj 6 (.v 1)) (.c (.i .i64 46))) (.c (.b false))) (.v 5) (.c (.b false))) (.v 6) (.c (.b false))) (.v 7) (.c (.b false))) (.v 8) (.c (.b false))) (.v 9) (.c (.b false))) (.v 10) (.c (.b false))) (.v 11) (.c (.b false))])
def Cn7 : T := (.w (.chk (.ite (.ite (.ite (.ite (.ite (.ite (.ite (.ite (.v 4) (.bin .neq (.proj 6 (.v 1)) (.c (.i .i64 46))) (.c (.b false))) (.v 5) (.c (.b false))) (.v 6) (.c (.b false))) (.v 7) (.c (.b false))) (.v 8) (.c (.b false))) (.v 9) (.c (.b false))) (.v 10) (.c (.b false))) (.c .u) (.c .u))) (.w (.call (some (.ite (.ite (.ite (.ite (.ite (.ite (.ite (.v 4) (.bin .neq (.proj 6 (.v 1)) (.c (.i .i64 46))) (.c (.b false))) (.v 5) (.c (.b false))) (.v 6) (.c (.b false))) (.v 7) (.c (.b false))) (.v 8) (.c (.b false))) (.v 9) (.c (.b false))) (.v 10) (.c (.b false)))) true Bf4 [.proj 5 (.v 1)] 1) Cp1))
def Cn3 : T := (.w (.chk (.ite (.ite (.ite (.ite (.ite (.ite (.ite (.v 4) (.bin .neq (.proj 6 (.v 1)) (.c (.i .i64 46))) (.c (.b false))) (.v 5) (.c (.b false))) (.v 6) (.c (.b false))) (.v 7) (.c (.b false))) (.v 8) (.c (.b false))) (.v 9) (.c (.b false))) (.c .u) (.c .u))) (.w (.call (some (.ite (.ite (.ite (.ite (.ite (.ite (.v 4) (.bin .neq (.proj 6 (.v 1)) (.c (.i .i64 46))) (.c (.b false))) (.v 5) (.c (.b false))) (.v 6) (.c (.b false))) (.v 7) (.c (.b false))) (.v 8) (.c (.b false))) (.v 9) (.c (.b false)))) true Ar8 [.proj 3 (.v 1)] 1) Cn7))
def Cn0 : T := (.w (.chk (.ite (.ite (.ite (.ite (.ite (.ite (.v 4) (.bin .neq (.proj 6 (.v 1)) (.c (.i .i64 46))) (.c (.b false))) (.v 5) (.c (.b false))) (.v 6) (.c (.b false))) (.v 7) (.c (.b false))) (.v 8) (.c (.b false))) (.c .u) (.c .u))) (.w (.call (some (.ite (.ite (.ite (.ite (.ite (.v 4) (.bin .neq (.proj 6 (.v 1)) (.c (.i .i64 46))) (.c (.b false))) (.v 5) (.c (.b false))) (.v 6) (.c (.b false))) (.v 7) (.c (.b false))) (.v 8) (.c (.b false)))) true Ax3 [.proj 11 (.v 1), .c (.i .i64 65535)] 1) Cn3))
def Cm7 : T := (.w (.chk (.ite (.ite (.ite (.ite (.ite (.v 4) (.bin .neq (.proj 6 (.v 1)) (.c (.i .i64 46))) (.c (.b false))) (.v 5) (.c (.b false))) (.v 6) (.c (.b false))) (.v 7) (.c (.b false))) (.c .u) (.c .u))) (.w (.call (some (.ite (.ite (.ite (.ite (.v 4) (.bin .neq (.proj 6 (.v 1)) (.c (.i .i64 46))) (.c (.b false))) (.v 5) (.c (.b false))) (.v 6) (.c (.b false))) (.v 7) (.c (.b false)))) true Ax3 [.proj 10 (.v 1), .c (.i .i64 4294967295)] 1) Cn0))
def Cm4 : T := (.w (.chk (.ite (.ite (.ite (.ite (.v 4) (.bin .neq (.proj 6 (.v 1)) (.c (.i .i64 46))) (.c (.b false))) (.v 5) (.c (.b false))) (.v 6) (.c (.b false))) (.c .u) (.c .u))) (.w (.call (some (.ite (.ite (.ite (.v 4) (.bin .neq (.proj 6 (.v 1)) (.c (.i .i64 46))) (.c (.b false))) (.v 5) (.c (.b false))) (.v 6) (.c (.b false)))) true Ax3 [.proj 9 (.v 1), .c (.i .i64 4294967295)] 1) Cm7))
def Cm1 : T := (.w (.chk (.ite (.ite (.ite (.v 4) (.bin .neq (.proj 6 (.v 1)) (.c (.i .i64 46))) (.c (.b false))) (.v 5) (.c (.b false))) (.c .u) (.c .u))) (.w (.call (some (.ite (.ite (.v 4) (.bin .neq (.proj 6 (.v 1)) (.c (.i .i64 46))) (.c (.b false))) (.v 5) (.c (.b false)))) true Ax3 [.proj 8 (.v 1), .c (.i .i64 2147483647)] 1) Cm4))
def Cl8 : T := (.w (.call (some (.ite (.v 4) (.bin .neq (.proj 6 (.v 1)) (.c (.i .i64 46))) (.c (.b false)))) true Ax3 [.proj 7 (.v 1), .c (.i .i64 127)] 1) Cm1)
def Cl5 : T := (.w (.call none true Bj8 [.proj 6 (.v 1)] 1) Cl8)
def Cl2 : T := (.ret [.ite (.ite (.v 4) (.bin .neq (.proj 12 (.v 1)) (.c (.i .u64 0))) (.c (.b false))) (.v 5) (.c (.b false))])
def Ch9 : T := (.w (.call (some (.ite (.v 4) (.bin .neq (.proj 12 (.v 1)) (.c (.i .u64 0))) (.c (.b false)))) true Dd5 [.proj 12 (.v 1)] 1) Cl2)
def Ch6 : T := (.w (.call none true Bm0 [.proj 3 (.v 1)] 1) Ch9)
def Ch3 : T := (.ret [.ite (.ite (.ite (.ite (.bin .eql (.proj 6 (.v 1)) (.c (.i .i64 256))) (.c (.b true)) (.bin .eql (.proj 6 (.v 1)) (.c (.i .i64 257)))) (.bin .eql (.proj 7 (.v 1)) (.c (.i .i64 3))) (.c (.b false))) (.v 4) (.c (.b false))) (.v 5) (.c (.b false))])
def Ch0 : T := (.w (.chk (.ite (.ite (.ite (.ite (.bin .eql (.proj 6 (.v 1)) (.c (.i .i64 256))) (.c (.b true)) (.bin .eql (.proj 6 (.v 1)) (.c (.i .i64 257)))) (.bin .eql (.proj 7 (.v 1)) (.c (.i .i64 3))) (.c (.b false))) (.v 4) (.c (.b false))) (.c .u) (.c .u))) (.w (.call (some (.ite (.ite (.ite (.bin .eql (.proj 6 (.v 1)) (.c (.i .i64 256))) (.c (.b true)) (.bin .eql (.proj 6 (.v 1)) (.c (.i .i64 257)))) (.bin .eql (.proj 7 (.v 1)) (.c (.i .i64 3))) (.c (.b false))) (.v 4) (.c (.b false)))) true Bf4 [.proj 5 (.v 1)] 1) Ch3))
def Cg7 : T := (.w (.call (some (.ite (.ite (.bin .eql (.proj 6 (.v 1)) (.c (.i .i64 256))) (.c (.b true)) (.bin .eql (.proj 6 (.v 1)) (.c (.i .i64 257)))) (.bin .eql (.proj 7 (.v 1)) (.c (.i .i64 3))) (.c (.b false)))) true Ax3 [.proj 8 (.v 1), .c (.i .i64 255)] 1) Ch0)
def Cg4 : T := (.w (.call none true Ar8 [.proj 3 (.v 1)] 1) (.ret [.v 4]))
def Cg1 : T := (.ite (.bin .eql (.v 0) (.c (.i .i64 48))) Cg7 Cg4)
def Cf8 : T := (.ite (.bin .eql (.v 0) (.c (.i .i64 47))) Ch6 Cg1)
def Cf5 : T := (.ite (.bin .eql (.v 0) (.c (.i .i64 46))) Cl5 Cf8)
def Cf3 : T := (.ite (.bin .eql (.v 0) (.c (.i .i64 43))) Cp6 Cf5)
def Cf1 : T := (.ite (.bin .eql (.v 0) (.c (.i .i64 33))) Cs7 Cf3)
def Cd9 : T := (.ite (.bin .eql (.v 0) (.c (.i .i64 16))) Dj8 Cf1)
def Cd7 : T := (.ite (.bin .eql (.v 0) (.c (.i .i64 15))) Dk4 Cd9)
def Cd5 : T := (.ite (.bin .eql (.v 0) (.c (.i .i64 6))) Eq1 Cd7)
def Cd3 : T := (.ite (.bin .eql (.v 0) (.c (.i .i64 28))) (.ret [.proj 0 (.v 1)]) Cd5)
def Cd1 : T := (.ite (.bin .eql (.v 0) (.c (.i .i64 1))) Es5 Cd3)
def Cc9 : T := (.ite (.ite (.un .not (.v 2)) (.c (.b true)) (.eqs true true [.b, .i .u64, .i .u64, .s, .s, .s, .i .i64, .i .i64, .i .i64, .i .i64, .i .i64, .i .i64, .i .u64] (.v 3) (.sub 0 13 (.v 1)))) (.ret [.c (.b false)]) Cd1)
def Cc7 : T := (.w (.chk (.ite (.un .not (.un .not (.v 2))) (.c .u) (.c .u))) (.w (.call (some (.un .not (.un .not (.v 2)))) true Dd7 [.v 0, .sub 0 13 (.v 1)] 1) Cc9))
def Bt0 : T := (.w (.chk (.fit 13 (.v 1))) (.w (.call none true Bj8 [.v 0] 1) Cc7))
theorem Ab7 : type_of% (And.intro (tev_eq @Fc4.eq_1) (And.intro (tev_eq @Es5.eq_1) (And.intro (tev_eq @Eh9.eq_1) (And.intro (tev_eq @Ec9.eq_1) (And.intro (tev_eq @Ez9.eq_1) (And.intro (tev_eq @Ey3.eq_1) (And.intro (tev_eq @Ew8.eq_1) (And.intro (tev_eq @Ev7.eq_1) (And.intro (tev_eq @Eq8.eq_1) (And.intro (tev_eq @Eq1.eq_1) (And.intro (tev_eq @Dq6.eq_1) (And.intro (tev_eq @Dq0.eq_1) (And.intro (tev_eq @Dk4.eq_1) (And.intro (tev_eq @Dj8.eq_1) (And.intro (tev_eq @Dj4.eq_1) (And.intro (tev_eq @Ct9.eq_1) (And.intro (tev_eq @Ct5.eq_1) (And.intro (tev_eq @Ct1.eq_1) (And.intro (tev_eq @Cs7.eq_1) (And.intro (tev_eq @Cs3.eq_1) (And.intro (tev_eq @Cr9.eq_1) (And.intro (tev_eq @Cr5.eq_1) (And.intro (tev_eq @Cr0.eq_1) (And.intro (tev_eq @Cp6.eq_1) (And.intro (tev_eq @Cp1.eq_1) (And.intro (tev_eq @Cn7.eq_1) (And.intro (tev_eq @Cn3.eq_1) (And.intro (tev_eq @Cn0.eq_1) (And.intro (tev_eq @Cm7.eq_1) (And.intro (tev_eq @Cm4.eq_1) (And.intro (tev_eq @Cm1.eq_1) (And.intro (tev_eq @Cl8.eq_1) (And.intro (tev_eq @Cl5.eq_1) (And.intro (tev_eq @Cl2.eq_1) (And.intro (tev_eq @Ch9.eq_1) (And.intro (tev_eq @Ch6.eq_1) (And.intro (tev_eq @Ch3.eq_1) (And.intro (tev_eq @Ch0.eq_1) (And.intro (tev_eq @Cg7.eq_1) (And.intro (tev_eq @Cg4.eq_1) (And.intro (tev_eq @Cg1.eq_1) (And.intro (tev_eq @Cf8.eq_1) (And.intro (tev_eq @Cf5.eq_1) (And.intro (tev_eq @Cf3.eq_1) (And.intro (tev_eq @Cf1.eq_1) (And.intro (tev_eq @Cd9.eq_1) (And.intro (tev_eq @Cd7.eq_1) (And.intro (tev_eq @Cd5.eq_1) (And.intro (tev_eq @Cd3.eq_1) (And.intro (tev_eq @Cd1.eq_1) (And.intro (tev_eq @Cc9.eq_1) (And.intro (tev_eq @Cc7.eq_1) (tev_eq @Bt0.eq_1))))))))))))))))))))))))))))))))))))))))))))))))))))) := (And.intro (tev_eq @Fc4.eq_1) (And.intro (tev_eq @Es5.eq_1) (And.intro (tev_eq @Eh9.eq_1) (And.intro (tev_eq @Ec9.eq_1) (And.intro (tev_eq @Ez9.eq_1) (And.intro (tev_eq @Ey3.eq_1) (And.intro (tev_eq @Ew8.eq_1) (And.intro (tev_eq @Ev7.eq_1) (And.intro (tev_eq @Eq8.eq_1) (And.intro (tev_eq @Eq1.eq_1) (And.intro (tev_eq @Dq6.eq_1) (And.intro (tev_eq @Dq0.eq_1) (And.intro (tev_eq @Dk4.eq_1) (And.intro (tev_eq @Dj8.eq_1) (And.intro (tev_eq @Dj4.eq_1) (And.intro (tev_eq @Ct9.eq_1) (And.intro (tev_eq @Ct5.eq_1) (And.intro (tev_eq @Ct1.eq_1) (And.intro (tev_eq @Cs7.eq_1) (And.intro (tev_eq @Cs3.eq_1) (And.intro (tev_eq @Cr9.eq_1) (And.intro (tev_eq @Cr5.eq_1) (And.intro (tev_eq @Cr0.eq_1) (And.intro (tev_eq @Cp6.eq_1) (And.intro (tev_eq @Cp1.eq_1) (And.intro (tev_eq @Cn7.eq_1) (And.intro (tev_eq @Cn3.eq_1) (And.intro (tev_eq @Cn0.eq_1) (And.intro (tev_eq @Cm7.eq_1) (And.intro (tev_eq @Cm4.eq_1) (And.intro (tev_eq @Cm1.eq_1) (And.intro (tev_eq @Cl8.eq_1) (And.intro (tev_eq @Cl5.eq_1) (And.intro (tev_eq @Cl2.eq_1) (And.intro (tev_eq @Ch9.eq_1) (And.intro (tev_eq @Ch6.eq_1) (And.intro (tev_eq @Ch3.eq_1) (And.intro (tev_eq @Ch0.eq_1) (And.intro (tev_eq @Cg7.eq_1) (And.intro (tev_eq @Cg4.eq_1) (And.intro (tev_eq @Cg1.eq_1) (And.intro (tev_eq @Cf8.eq_1) (And.intro (tev_eq @Cf5.eq_1) (And.intro (tev_eq @Cf3.eq_1) (And.intro (tev_eq @Cf1.eq_1) (And.intro (tev_eq @Cd9.eq_1) (And.intro (tev_eq @Cd7.eq_1) (And.intro (tev_eq @Cd5.eq_1) (And.intro (tev_eq @Cd3.eq_1) (And.intro (tev_eq @Cd1.eq_1) (And.intro (tev_eq @Cc9.eq_1) (And.intro (tev_eq @Cc7.eq_1) (tev_eq @Bt0.eq_1)))))))))))))))))))))))))))))))))))))))))))))))))))))
def Fc3 : T := (.w (.call none true Dd3 [.proj 1 (.v 0), .agg [.proj 3 (.v 0), .proj 4 (.v 0), .proj 5 (.v 0), .proj 6 (.v 0), .proj 7 (.v 0), .proj 8 (.v 0), .proj 9 (.v 0), .proj 10 (.v 0), .proj 11 (.v 0), .proj 12 (.v 0), .proj 13 (.v 0), .proj 14 (.v 0), .proj 15 (.v 0)], .agg [.proj 3 (.v 1), .proj 4 (.v 1), .proj 5 (.v 1), .proj 6 (.v 1), .proj 7 (.v 1), .proj 8 (.v 1), .proj 9 (.v 1), .proj 10 (.v 1), .proj 11 (.v 1), .proj 12 (.v 1), .proj 13 (.v 1), .proj 14 (.v 1), .proj 15 (.v 1)]] 1) (.ret [.v 4]))
def Es4 : T := (.ite (.bin .neq (.v 3) (.c (.i .i64 0))) (.ret [.v 3]) Fc3)
def Eh8 : T := (.w (.call none true Dd4 [.proj 1 (.v 0), .proj 1 (.v 1)] 1) Es4)
def Ec8 : T := (.ite (.bin .neq (.v 2) (.c (.i .i64 0))) (.ret [.v 2]) Eh8)
def Bs9 : T := (.w (.chk (.fit 16 (.v 0))) (.w (.chk (.fit 16 (.v 1))) (.w (.call none true Ck1 [.proj 0 (.v 0), .proj 0 (.v 1)] 1) Ec8)))
theorem Ll4 : type_of% (And.intro (tev_eq @Fc3.eq_1) (And.intro (tev_eq @Es4.eq_1) (And.intro (tev_eq @Eh8.eq_1) (And.intro (tev_eq @Ec8.eq_1) (tev_eq @Bs9.eq_1))))) := (And.intro (tev_eq @Fc3.eq_1) (And.intro (tev_eq @Es4.eq_1) (And.intro (tev_eq @Eh8.eq_1) (And.intro (tev_eq @Ec8.eq_1) (tev_eq @Bs9.eq_1)))))
def Bs8 : T := (.ret [.ite (.ite (.bin .eql (.v 0) (.c (.i .i64 6))) (.c (.b true)) (.bin .eql (.v 0) (.c (.i .i64 5)))) (.c (.b true)) (.bin .eql (.v 0) (.c (.i .i64 39)))])
theorem Ll3 : type_of% (tev_eq @Bs8.eq_1) := (tev_eq @Bs8.eq_1)
def Bs7 : T := (.w (.call none true Ck0 [.v 0, .v 1] 1) (.ret [.v 2]))
theorem Ll2 : type_of% (tev_eq @Bs7.eq_1) := (tev_eq @Bs7.eq_1)
def Bs6 : T := (.w (.call none true Dd2 [.v 0, .v 1] 1) (.ret [.v 2]))
theorem Ll1 : type_of% (tev_eq @Bs6.eq_1) := (tev_eq @Bs6.eq_1)
def Fc2 : T := (.w (.chk (.scal (.proj 0 (.sub 0 16 (.idx 16 (.proj 1 (.v 0)) (.v 2)))))) (.yld 1 [.app 1 (.v 1) (.lit 1 [.proj 0 (.sub 0 16 (.idx 16 (.proj 1 (.v 0)) (.v 2)))]), .bin .add (.v 2) (.c (.i .i64 1))]))
def Es3 : T := (.yld 1 [.v 1, .bin .add (.v 2) (.c (.i .i64 1))])
def Eh7 : T := (.ite (.ite (.ite (.bin .eql (.proj 1 (.sub 0 16 (.idx 16 (.proj 1 (.v 0)) (.v 2)))) (.c (.i .i64 2))) (.bin .neq (.proj 0 (.sub 0 16 (.idx 16 (.proj 1 (.v 0)) (.v 2)))) (.proj 0 (.v 0))) (.c (.b false))) (.v 3) (.c (.b false))) Fc2 Es3)
def Ec7 : T := (.w (.chk (.fit 16 (.sub 0 16 (.idx 16 (.proj 1 (.v 0)) (.v 2))))) (.w (.call (some (.ite (.bin .eql (.proj 1 (.sub 0 16 (.idx 16 (.proj 1 (.v 0)) (.v 2)))) (.c (.i .i64 2))) (.bin .neq (.proj 0 (.sub 0 16 (.idx 16 (.proj 1 (.v 0)) (.v 2)))) (.proj 0 (.v 0))) (.c (.b false)))) true By3 [.proj 0 (.sub 0 16 (.idx 16 (.proj 1 (.v 0)) (.v 2))), .proj 0 (.v 0)] 1) Eh7))
def Ff0 : T := (.ite (.bin .lss (.v 2) (.len (.proj 1 (.v 0)))) Ec7 (.yld 0 [.v 1]))
def Hh8 : T := .loop 1 [.c (.l 1 []), .c (.i .i64 0)] Ff0
def Ez8 : T := (.w (.mcall Bf5 [.v 2]) (.ret [.v 3]))
def Ey2 : T := (.w (.mcall Bj7 [.v 1, .c (.f Al0 [])]) Ez8)
def Bs5 : T := (.w (.chk (.fit 2 (.v 0))) (.w (.chk (.len (.proj 1 (.v 0)))) (.blk 0 Hh8 Ey2)))
theorem Bm4 : type_of% (And.intro (tev_eq @Fc2.eq_1) (And.intro (tev_eq @Es3.eq_1) (And.intro (tev_eq @Eh7.eq_1) (And.intro (tev_eq @Ec7.eq_1) (And.intro (tev_eq @Ff0.eq_1) (And.intro (tev_eq @Ez8.eq_1) (And.intro (tev_eq @Ey2.eq_1) (tev_eq @Bs5.eq_1)))))))) := (And.intro (tev_eq @Fc2.eq_1) (And.intro (tev_eq @Es3.eq_1) (And.intro (tev_eq @Eh7.eq_1) (And.intro (tev_eq @Ec7.eq_1) (And.intro (tev_eq @Ff0.eq_1) (And.intro (tev_eq @Ez8.eq_1) (And.intro (tev_eq @Ey2.eq_1) (tev_eq @Bs5.eq_1))))))))
def Fc1 : T := (.w (.chk (.fit 16 (.sub 0 16 (.idx 16 (.v 0) (.v 2))))) (.w (.chk (.scal (.proj 0 (.sub 0 16 (.idx 16 (.v 0) (.v 2)))))) (.yld 1 [.app 1 (.v 1) (.lit 1 [.proj 0 (.sub 0 16 (.idx 16 (.v 0) (.v 2)))]), .bin .add (.v 2) (.c (.i .i64 1))])))
def Fd9 : T := (.ite (.bin .lss (.v 2) (.len (.v 0))) Fc1 (.yld 0 [.v 1]))
def Hh7 : T := .loop 1 [.c (.l 1 []), .c (.i .i64 0)] Fd9
def Es2 : T := (.w (.mcall Bf5 [.v 2]) (.ret [.v 3]))
def Eh6 : T := (.w (.mcall Bj7 [.v 1, .c (.f Al0 [])]) Es2)
def Bs4 : T := (.w (.chk (.len (.v 0))) (.blk 0 Hh7 Eh6))
theorem Gn7 : type_of% (And.intro (tev_eq @Fc1.eq_1) (And.intro (tev_eq @Fd9.eq_1) (And.intro (tev_eq @Es2.eq_1) (And.intro (tev_eq @Eh6.eq_1) (tev_eq @Bs4.eq_1))))) := (And.intro (tev_eq @Fc1.eq_1) (And.intro (tev_eq @Fd9.eq_1) (And.intro (tev_eq @Es2.eq_1) (And.intro (tev_eq @Eh6.eq_1) (tev_eq @Bs4.eq_1)))))
def Fc0 : T := (.ret [.ite (.bin .neq (.v 0) (.proj 0 (.v 1))) (.v 2) (.c (.b false))])
def Bs3 : T := (.w (.chk (.ite (.bin .neq (.v 0) (.proj 0 (.v 1))) (.proj 0 (.v 1)) (.c .u))) (.w (.call (some (.bin .neq (.v 0) (.proj 0 (.v 1)))) true By3 [.proj 0 (.v 1), .v 0] 1) Fc0))
theorem Kd4 : type_of% (And.intro (tev_eq @Fc0.eq_1) (tev_eq @Bs3.eq_1)) := (And.intro (tev_eq @Fc0.eq_1) (tev_eq @Bs3.eq_1))
def Fb9 : T := (.ret [.bin .geq (.v 2) (.c (.i .i64 0))])
def Bs2 : T := (.w (.call none true Dd1 [.v 0, .v 1] 1) Fb9)
theorem Ll0 : type_of% (And.intro (tev_eq @Fb9.eq_1) (tev_eq @Bs2.eq_1)) := (And.intro (tev_eq @Fb9.eq_1) (tev_eq @Bs2.eq_1))
def Fb8 : T := (.w (.call none true Bf3 [.v 0, .v 1] 1) (.ret [.v 4]))
def Es1 : T := (.yld 1 [.bin .add (.v 6) (.c (.i .i64 1))])
def Eh5 : T := (.ite (.bin .neq (.v 7) (.c (.i .i64 0))) (.ret [.v 7]) Es1)
def Ec6 : T := (.w (.call none true Bf3 [.proj 0 (.idx 1 (.v 4) (.bin .sub (.len (.v 4)) (.v 6))), .proj 0 (.idx 1 (.v 5) (.bin .sub (.len (.v 5)) (.v 6)))] 1) Eh5)
def Dv4 : T := (.ite (.ite (.bin .leq (.v 6) (.len (.v 4))) (.bin .leq (.v 6) (.len (.v 5))) (.c (.b false))) Ec6 (.yld 0 []))
def Dt8 : T := .loop 1 [.c (.i .i64 1)] Dv4
def Ez7 : T := (.ite (.bin .gtr (.len (.v 4)) (.len (.v 5))) (.ret [.c (.i .i64 1)]) (.ret [.c (.i .i64 0)]))
def Ey1 : T := (.ite (.bin .lss (.len (.v 4)) (.len (.v 5))) (.ret [.c (.i .i64 (-1))]) Ez7)
def Ew7 : T := (.blk 0 Dt8 Ey1)
def Ev6 : T := (.w (.call none false Cj9 [.v 1] 1) Ew7)
def Eq7 : T := (.w (.call none false Cj9 [.v 0] 1) Ev6)
def Eq0 : T := (.ite (.un .not (.v 2)) Fb8 Eq7)
def Dq5 : T := (.ite (.ite (.v 3) (.un .not (.v 2)) (.c (.b false))) (.ret [.c (.i .i64 1)]) Eq0)
def Dk9 : T := (.ite (.ite (.v 2) (.un .not (.v 3)) (.c (.b false))) (.ret [.c (.i .i64 (-1))]) Dq5)
def Dk3 : T := (.w (.call none true As5 [.v 1] 1) Dk9)
def Bs1 : T := (.w (.call none true As5 [.v 0] 1) Dk3)
theorem Bb4 : type_of% (And.intro (tev_eq @Fb8.eq_1) (And.intro (tev_eq @Es1.eq_1) (And.intro (tev_eq @Eh5.eq_1) (And.intro (tev_eq @Ec6.eq_1) (And.intro (tev_eq @Dv4.eq_1) (And.intro (tev_eq @Ez7.eq_1) (And.intro (tev_eq @Ey1.eq_1) (And.intro (tev_eq @Ew7.eq_1) (And.intro (tev_eq @Ev6.eq_1) (And.intro (tev_eq @Eq7.eq_1) (And.intro (tev_eq @Eq0.eq_1) (And.intro (tev_eq @Dq5.eq_1) (And.intro (tev_eq @Dk9.eq_1) (And.intro (tev_eq @Dk3.eq_1) (tev_eq @Bs1.eq_1))))))))))))))) := (And.intro (tev_eq @Fb8.eq_1) (And.intro (tev_eq @Es1.eq_1) (And.intro (tev_eq @Eh5.eq_1) (And.intro (tev_eq @Ec6.eq_1) (And.intro (tev_eq @Dv4.eq_1) (And.intro (tev_eq @Ez7.eq_1) (And.intro (tev_eq @Ey1.eq_1) (And.intro (tev_eq @Ew7.eq_1) (And.intro (tev_eq @Ev6.eq_1) (And.intro (tev_eq @Eq7.eq_1) (And.intro (tev_eq @Eq0.eq_1) (And.intro (tev_eq @Dq5.eq_1) (And.intro (tev_eq @Dk9.eq_1) (And.intro (tev_eq @Dk3.eq_1) (tev_eq @Bs1.eq_1)))))))))))))))
def Fb7 : T := (.w (.chk (.idx 1 (.lsl 1 (.v 5) (.v 1) (.len (.v 5))) (.v 4))) (.w (.chk (.bin .add (.v 1) (.c (.i .i64 0)))) (.w (.chk (.idx 1 (.v 5) (.v 3))) (.w (.chk (.scal (.proj 0 (.idx 1 (.v 5) (.bin .add (.v 1) (.v 4)))))) (.yld 3 [.bin .add (.v 3) (.c (.i .i64 1)), .bin .add (.v 4) (.c (.i .i64 1)), .set 1 (.v 5) (.v 3) 0 [.proj 0 (.idx 1 (.v 5) (.bin .add (.v 1) (.v 4)))]])))))
def Es0 : T := (.yld 3 [.v 3, .bin .add (.v 4) (.c (.i .i64 1)), .v 5])
def Eh4 : T := (.w (.chk (.idx 1 (.lsl 1 (.v 5) (.v 1) (.len (.v 5))) (.v 4))) (.w (.chk (.idx 1 (.lsl 1 (.v 5) (.v 1) (.len (.v 5))) (.bin .sub (.v 4) (.c (.i .i64 1))))) (.w (.chk (.bin .add (.v 1) (.c (.i .i64 0)))) (.ite (.bin .neq (.proj 0 (.idx 1 (.v 5) (.bin .add (.v 1) (.v 4)))) (.proj 0 (.idx 1 (.v 5) (.bin .add (.v 1) (.bin .sub (.v 4) (.c (.i .i64 1))))))) Fb7 Es0))))
def Dq8 : T := (.ite (.bin .lss (.v 4) (.bin .sub (.len (.v 5)) (.v 1))) Eh4 (.yld 2 [.v 3, .v 5]))
def Hg7 : T := .loop 3 [.v 1, .c (.i .i64 1), .v 2] Dq8
def Ec5 : T := (.w (.chk (.lsl 1 (.v 4) (.v 3) (.len (.v 4)))) (.ret [.lsl 1 (.app 1 (.lsl 1 (.v 4) (.c (.i .i64 0)) (.v 3)) (.rep 1 (.bin .sub (.len (.v 4)) (.v 3)) (.c (.s [])))) (.c (.i .i64 0)) (.v 3)]))
def Ez6 : T := (.w (.chk (.lsl 1 (.v 2) (.v 1) (.len (.v 2)))) (.blk 2 Hg7 Ec5))
def Ey0 : T := (.yld 1 [.bin .add (.v 1) (.c (.i .i64 1)), .v 2])
def Ew6 : T := (.ite (.bin .eql (.proj 0 (.idx 1 (.v 2) (.v 1))) (.proj 0 (.idx 1 (.v 2) (.bin .sub (.v 1) (.c (.i .i64 1)))))) Ez6 Ey0)
def Dv3 : T := (.ite (.bin .lss (.v 1) (.len (.v 2))) Ew6 (.yld 0 [.v 2]))
def Hh6 : T := .loop 1 [.c (.i .i64 1), .v 0] Dv3
def Ev5 : T := (.blk 0 Hh6 (.ret [.v 1]))
def Bs0 : T := (.ite (.bin .lss (.len (.v 0)) (.c (.i .i64 2))) (.ret [.v 0]) Ev5)
theorem At4 : type_of% (And.intro (tev_eq @Fb7.eq_1) (And.intro (tev_eq @Es0.eq_1) (And.intro (tev_eq @Eh4.eq_1) (And.intro (tev_eq @Dq8.eq_1) (And.intro (tev_eq @Ec5.eq_1) (And.intro (tev_eq @Ez6.eq_1) (And.intro (tev_eq @Ey0.eq_1) (And.intro (tev_eq @Ew6.eq_1) (And.intro (tev_eq @Dv3.eq_1) (And.intro (tev_eq @Ev5.eq_1) (tev_eq @Bs0.eq_1))))))))))) := (And.intro (tev_eq @Fb7.eq_1) (And.intro (tev_eq @Es0.eq_1) (And.intro (tev_eq @Eh4.eq_1) (And.intro (tev_eq @Dq8.eq_1) (And.intro (tev_eq @Ec5.eq_1) (And.intro (tev_eq @Ez6.eq_1) (And.intro (tev_eq @Ey0.eq_1) (And.intro (tev_eq @Ew6.eq_1) (And.intro (tev_eq @Dv3.eq_1) (And.intro (tev_eq @Ev5.eq_1) (tev_eq @Bs0.eq_1)))))))))))
def Fb6 : T := (.w (.chk (.idx 16 (.v 5) (.v 3))) (.w (.chk (.fit 16 (.sub 0 16 (.sub 0 16 (.idx 16 (.v 5) (.v 4)))))) (.yld 1 [.bin .add (.v 3) (.c (.i .i64 1)), .bin .add (.v 4) (.c (.i .i64 1)), .set 16 (.v 5) (.v 3) 0 [.proj 0 (.sub 0 16 (.sub 0 16 (.idx 16 (.v 5) (.v 4)))), .proj 1 (.sub 0 16 (.sub 0 16 (.idx 16 (.v 5) (.v 4)))), .proj 2 (.sub 0 16 (.sub 0 16 (.idx 16 (.v 5) (.v 4)))), .proj 3 (.sub 0 16 (.sub 0 16 (.idx 16 (.v 5) (.v 4)))), .proj 4 (.sub 0 16 (.sub 0 16 (.idx 16 (.v 5) (.v 4)))), .proj 5 (.sub 0 16 (.sub 0 16 (.idx 16 (.v 5) (.v 4)))), .proj 6 (.sub 0 16 (.sub 0 16 (.idx 16 (.v 5) (.v 4)))), .proj 7 (.sub 0 16 (.sub 0 16 (.idx 16 (.v 5) (.v 4)))), .proj 8 (.sub 0 16 (.sub 0 16 (.idx 16 (.v 5) (.v 4)))), .proj 9 (.sub 0 16 (.sub 0 16 (.idx 16 (.v 5) (.v 4)))), .proj 10 (.sub 0 16 (.sub 0 16 (.idx 16 (.v 5) (.v 4)))), .proj 11 (.sub 0 16 (.sub 0 16 (.idx 16 (.v 5) (.v 4)))), .proj 12 (.sub 0 16 (.sub 0 16 (.idx 16 (.v 5) (.v 4)))), .proj 13 (.sub 0 16 (.sub 0 16 (.idx 16 (.v 5) (.v 4)))), .proj 14 (.sub 0 16 (.sub 0 16 (.idx 16 (.v 5) (.v 4)))), .proj 15 (.sub 0 16 (.sub 0 16 (.idx 16 (.v 5) (.v 4))))]])))
def Er9 : T := (.yld 1 [.v 3, .bin .add (.v 4) (.c (.i .i64 1)), .v 5])
def Eh3 : T := (.ite (.un .not (.v 6)) Fb6 Er9)
def Ec4 : T := (.w (.chk (.fit 16 (.sub 0 16 (.idx 16 (.v 5) (.v 4))))) (.w (.clo none true (.v 1) [.sub 0 16 (.sub 0 16 (.idx 16 (.v 5) (.v 4)))] 1) Eh3))
def Fd8 : T := (.ite (.bin .lss (.v 4) (.len (.v 5))) Ec4 (.yld 0 [.v 3, .v 5]))
def Hh5 : T := .loop 1 [.v 2, .bin .add (.v 2) (.c (.i .i64 1)), .v 0] Fd8
def Ez5 : T := (.w (.chk (.lsl 16 (.v 4) (.v 3) (.len (.v 4)))) (.ret [.lsl 16 (.app 16 (.lsl 16 (.v 4) (.c (.i .i64 0)) (.v 3)) (.rep 16 (.bin .sub (.len (.v 4)) (.v 3)) (.agg [.c (.s []), .c (.i .i64 0), .c (.i .i64 0), .c (.b false), .c (.i .u64 0), .c (.i .u64 0), .c (.s []), .c (.s []), .c (.s []), .c (.i .i64 0), .c (.i .i64 0), .c (.i .i64 0), .c (.i .i64 0), .c (.i .i64 0), .c (.i .i64 0), .c (.i .u64 0)]))) (.c (.i .i64 0)) (.v 3)]))
def Ex9 : T := (.blk 0 Hh5 Ez5)
def Ew5 : T := (.ite (.bin .eql (.v 2) (.c (.i .i64 (-1)))) (.ret [.v 0]) Ex9)
def Br9 : T := (.w (.call none true Gd4 [.v 0, .v 1] 1) Ew5)
theorem Dx5 : type_of% (And.intro (tev_eq @Fb6.eq_1) (And.intro (tev_eq @Er9.eq_1) (And.intro (tev_eq @Eh3.eq_1) (And.intro (tev_eq @Ec4.eq_1) (And.intro (tev_eq @Fd8.eq_1) (And.intro (tev_eq @Ez5.eq_1) (And.intro (tev_eq @Ex9.eq_1) (And.intro (tev_eq @Ew5.eq_1) (tev_eq @Br9.eq_1))))))))) := (And.intro (tev_eq @Fb6.eq_1) (And.intro (tev_eq @Er9.eq_1) (And.intro (tev_eq @Eh3.eq_1) (And.intro (tev_eq @Ec4.eq_1) (And.intro (tev_eq @Fd8.eq_1) (And.intro (tev_eq @Ez5.eq_1) (And.intro (tev_eq @Ex9.eq_1) (And.intro (tev_eq @Ew5.eq_1) (tev_eq @Br9.eq_1)))))))))
def Br8 : T := (.w (.chk (.fit 16 (.v 0))) (.ret [.bin .neq (.proj 1 (.v 0)) (.proj 0 (.v 1))]))
theorem Lh9 : type_of% (tev_eq @Br8.eq_1) := (tev_eq @Br8.eq_1)
def Fb5 : T := (.yld 1 [.bin .add (.v 1) (.c (.i .i64 1))])
def Er8 : T := (.w (.chk (.ite (.ite (.un .not (.ite (.bin .geq (.sidx (.v 0) (.v 1)) (.c (.i .u8 97))) (.bin .leq (.sidx (.v 0) (.v 1)) (.c (.i .u8 122))) (.c (.b false)))) (.bin .geq (.sidx (.v 0) (.v 1)) (.c (.i .u8 48))) (.c (.b false))) (.bin .leq (.sidx (.v 0) (.v 1)) (.c (.i .u8 57))) (.c .u))) (.ite (.un .not (.ite (.ite (.ite (.ite (.bin .geq (.sidx (.v 0) (.v 1)) (.c (.i .u8 97))) (.bin .leq (.sidx (.v 0) (.v 1)) (.c (.i .u8 122))) (.c (.b false))) (.c (.b true)) (.ite (.bin .geq (.sidx (.v 0) (.v 1)) (.c (.i .u8 48))) (.bin .leq (.sidx (.v 0) (.v 1)) (.c (.i .u8 57))) (.c (.b false)))) (.c (.b true)) (.bin .eql (.sidx (.v 0) (.v 1)) (.c (.i .u8 45)))) (.c (.b true)) (.bin .eql (.sidx (.v 0) (.v 1)) (.c (.i .u8 95))))) (.ret [.c (.b false)]) Fb5))
def Fd7 : T := (.ite (.bin .lss (.v 1) (.slen (.v 0))) Er8 (.yld 0 []))
def Hh4 : T := .loop 1 [.c (.i .i64 0)] Fd7
def Eh2 : T := (.blk 0 Hh4 (.ret [.c (.b true)]))
def Ec3 : T := (.ite (.ite (.bin .lss (.slen (.v 0)) (.c (.i .i64 1))) (.c (.b true)) (.bin .gtr (.slen (.v 0)) (.c (.i .i64 63)))) (.ret [.c (.b false)]) Eh2)
def Br7 : T := (.ite (.bin .eql (.v 0) (.c (.s [42]))) (.ret [.c (.b true)]) Ec3)
theorem Gn6 : type_of% (And.intro (tev_eq @Fb5.eq_1) (And.intro (tev_eq @Er8.eq_1) (And.intro (tev_eq @Fd7.eq_1) (And.intro (tev_eq @Eh2.eq_1) (And.intro (tev_eq @Ec3.eq_1) (tev_eq @Br7.eq_1)))))) := (And.intro (tev_eq @Fb5.eq_1) (And.intro (tev_eq @Er8.eq_1) (And.intro (tev_eq @Fd7.eq_1) (And.intro (tev_eq @Eh2.eq_1) (And.intro (tev_eq @Ec3.eq_1) (tev_eq @Br7.eq_1))))))
def Fb4 : T := (.yld 3 [.bin .add (.v 3) (.c (.i .i64 1))])
def Er7 : T := (.ite (.ite (.bin .lss (.v 3) (.len (.v 1))) (.bin .lss (.v 4) (.c (.i .i64 0))) (.c (.b false))) Fb4 (.yld 2 [.v 3]))
def Fd1 : T := (.w (.chk (.ite (.bin .lss (.v 3) (.len (.v 1))) (.proj 0 (.idx 1 (.v 1) (.v 3))) (.c .u))) (.w (.chk (.ite (.bin .lss (.v 3) (.len (.v 1))) (.proj 0 (.idx 16 (.v 0) (.v 2))) (.c .u))) (.w (.call (some (.bin .lss (.v 3) (.len (.v 1)))) true Ck1 [.proj 0 (.idx 1 (.v 1) (.v 3)), .proj 0 (.idx 16 (.v 0) (.v 2))] 1) Er7)))
def Dt3 : T := .loop 3 [.c (.i .i64 0)] Fd1
def Eh1 : T := (.yld 1 [.v 1, .bin .add (.v 2) (.c (.i .i64 1))])
def Ec2 : T := (.w (.chk (.scal (.proj 0 (.idx 16 (.v 0) (.v 2))))) (.yld 1 [.app 1 (.app 1 (.app 1 (.c (.l 1 [])) (.lsl 1 (.v 1) (.c (.i .i64 0)) (.v 3))) (.lit 1 [.proj 0 (.idx 16 (.v 0) (.v 2))])) (.lsl 1 (.v 1) (.v 3) (.len (.v 1))), .bin .add (.v 2) (.c (.i .i64 1))]))
def Ez4 : T := (.ite (.ite (.bin .lss (.v 3) (.len (.v 1))) (.bin .eql (.proj 0 (.idx 1 (.v 1) (.v 3))) (.proj 0 (.idx 16 (.v 0) (.v 2)))) (.c (.b false))) Eh1 Ec2)
def Ex8 : T := (.blk 2 Dt3 Ez4)
def Fd6 : T := (.ite (.bin .lss (.v 2) (.len (.v 0))) Ex8 (.yld 0 [.v 1]))
def Hh3 : T := .loop 1 [.c (.l 1 []), .c (.i .i64 0)] Fd6
def Br6 : T := (.blk 0 Hh3 (.ret [.v 1]))
theorem Bw8 : type_of% (And.intro (tev_eq @Fb4.eq_1) (And.intro (tev_eq @Er7.eq_1) (And.intro (tev_eq @Fd1.eq_1) (And.intro (tev_eq @Eh1.eq_1) (And.intro (tev_eq @Ec2.eq_1) (And.intro (tev_eq @Ez4.eq_1) (And.intro (tev_eq @Ex8.eq_1) (And.intro (tev_eq @Fd6.eq_1) (tev_eq @Br6.eq_1))))))))) := (And.intro (tev_eq @Fb4.eq_1) (And.intro (tev_eq @Er7.eq_1) (And.intro (tev_eq @Fd1.eq_1) (And.intro (tev_eq @Eh1.eq_1) (And.intro (tev_eq @Ec2.eq_1) (And.intro (tev_eq @Ez4.eq_1) (And.intro (tev_eq @Ex8.eq_1) (And.intro (tev_eq @Fd6.eq_1) (tev_eq @Br6.eq_1)))))))))
def Br5 : T := (.ret [.ite (.bin .geq (.slen (.v 0)) (.slen (.v 1))) (.bin .eql (.ssl (.v 0) (.bin .sub (.slen (.v 0)) (.slen (.v 1))) (.slen (.v 0))) (.v 1)) (.c (.b false))])
theorem Kd3 : type_of% (tev_eq @Br5.eq_1) := (tev_eq @Br5.eq_1)
def Fb3 : T := (.w (.call none false Hd6 [.v 0, .v 3] 1) (.ret [.v 4]))
def Er6 : T := (.yld 0 [.bin .add (.v 4) (.c (.i .i64 1))])
def Eh0 : T := (.w (.call none true Dd0 [.v 0, .v 1] 1) Er6)
def Ec1 : T := (.ite (.bin .lss (.v 3) (.c (.i .i64 0))) Eh0 (.yld 0 [.v 3]))
def Ez3 : T := (.yld 0 [.v 5, .v 6, .v 7])
def Ex7 : T := (.w (.chk (.idx 1 (.v 6) (.v 7))) (.w (.chk (.scal (.ssl (.v 5) (.c (.i .i64 0)) (.bin .add (.v 8) (.v 2))))) (.yld 1 [.ssl (.v 5) (.bin .add (.v 8) (.slen (.v 1))) (.slen (.v 5)), .set 1 (.v 6) (.v 7) 0 [.ssl (.v 5) (.c (.i .i64 0)) (.bin .add (.v 8) (.v 2))], .bin .add (.v 7) (.c (.i .i64 1))])))
def Ew4 : T := (.ite (.bin .lss (.v 8) (.c (.i .i64 0))) Ez3 Ex7)
def Ev4 : T := (.w (.call none true Cj8 [.v 5, .v 1] 1) Ew4)
def Eq6 : T := (.yld 0 [.v 5, .v 6, .v 7])
def Dv2 : T := (.ite (.bin .lss (.v 7) (.bin .sub (.mn (.v 4) (.bin .add (.slen (.v 0)) (.c (.i .i64 1)))) (.c (.i .i64 1)))) Ev4 Eq6)
def Dt7 : T := .loop 1 [.v 0, .rep 1 (.mn (.v 4) (.bin .add (.slen (.v 0)) (.c (.i .i64 1)))) (.c (.s [])), .c (.i .i64 0)] Dv2
def Ek9 : T := (.w (.chk (.idx 1 (.v 6) (.v 7))) (.w (.chk (.scal (.v 5))) (.ret [.lsl 1 (.set 1 (.v 6) (.v 7) 0 [.v 5]) (.c (.i .i64 0)) (.bin .add (.v 7) (.c (.i .i64 1)))])))
def Dq4 : T := (.w (.chk (.bin .sub (.mn (.v 4) (.bin .add (.slen (.v 0)) (.c (.i .i64 1)))) (.c (.i .i64 1)))) (.blk 0 Dt7 Ek9))
def Dk8 : T := (.blk 0 Ec1 Dq4)
def Dk2 : T := (.ite (.bin .eql (.v 1) (.c (.s []))) Fb3 Dk8)
def Br4 : T := (.ite (.bin .eql (.v 3) (.c (.i .i64 0))) (.ret [.c (.l 1 [])]) Dk2)
theorem Gn5 : type_of% (And.intro (tev_eq @Fb3.eq_1) (And.intro (tev_eq @Er6.eq_1) (And.intro (tev_eq @Eh0.eq_1) (And.intro (tev_eq @Ec1.eq_1) (And.intro (tev_eq @Ez3.eq_1) (And.intro (tev_eq @Ex7.eq_1) (And.intro (tev_eq @Ew4.eq_1) (And.intro (tev_eq @Ev4.eq_1) (And.intro (tev_eq @Eq6.eq_1) (And.intro (tev_eq @Dv2.eq_1) (And.intro (tev_eq @Ek9.eq_1) (And.intro (tev_eq @Dq4.eq_1) (And.intro (tev_eq @Dk8.eq_1) (And.intro (tev_eq @Dk2.eq_1) (tev_eq @Br4.eq_1))))))))))))))) := (And.intro (tev_eq @Fb3.eq_1) (And.intro (tev_eq @Er6.eq_1) (And.intro (tev_eq @Eh0.eq_1) (And.intro (tev_eq @Ec1.eq_1) (And.intro (tev_eq @Ez3.eq_1) (And.intro (tev_eq @Ex7.eq_1) (And.intro (tev_eq @Ew4.eq_1) (And.intro (tev_eq @Ev4.eq_1) (And.intro (tev_eq @Eq6.eq_1) (And.intro (tev_eq @Dv2.eq_1) (And.intro (tev_eq @Ek9.eq_1) (And.intro (tev_eq @Dq4.eq_1) (And.intro (tev_eq @Dk8.eq_1) (And.intro (tev_eq @Dk2.eq_1) (tev_eq @Br4.eq_1)))))))))))))))
def Fb2 : T := (.ret [.c (.s [78, 83])])
def Er5 : T := (.ret [.c (.s [67, 78, 65, 77, 69])])
def Eg9 : T := (.ret [.c (.s [83, 79, 65])])
def Ec0 : T := (.ret [.c (.s [80, 84, 82])])
def Ez2 : T := (.ret [.c (.s [77, 88])])
def Ex6 : T := (.ret [.c (.s [84, 88, 84])])
def Ew3 : T := (.ret [.c (.s [65, 65, 65, 65])])
def Ev3 : T := (.ret [.c (.s [83, 82, 86])])
def Eq5 : T := (.ret [.c (.s [68, 78, 65, 77, 69])])
def Ek8 : T := (.ret [.c (.s [68, 83])])
def Dq3 : T := (.ret [.c (.s [82, 82, 83, 73, 71])])
def Dk7 : T := (.ret [.c (.s [78, 83, 69, 67])])
def Dk1 : T := (.ret [.c (.s [68, 78, 83, 75, 69, 89])])
def Dj7 : T := (.ite (.bin .eql (.v 0) (.c (.i .i64 48))) Dk1 (.ret [.c (.s [])]))
def Dj2 : T := (.ite (.bin .eql (.v 0) (.c (.i .i64 47))) Dk7 Dj7)
def Ct8 : T := (.ite (.bin .eql (.v 0) (.c (.i .i64 46))) Dq3 Dj2)
def Ct4 : T := (.ite (.bin .eql (.v 0) (.c (.i .i64 43))) Ek8 Ct8)
def Ct0 : T := (.ite (.bin .eql (.v 0) (.c (.i .i64 39))) Eq5 Ct4)
def Cs6 : T := (.ite (.bin .eql (.v 0) (.c (.i .i64 33))) Ev3 Ct0)
def Cs2 : T := (.ite (.bin .eql (.v 0) (.c (.i .i64 28))) Ew3 Cs6)
def Cr8 : T := (.ite (.bin .eql (.v 0) (.c (.i .i64 16))) Ex6 Cs2)
def Cr4 : T := (.ite (.bin .eql (.v 0) (.c (.i .i64 15))) Ez2 Cr8)
def Cp9 : T := (.ite (.bin .eql (.v 0) (.c (.i .i64 12))) Ec0 Cr4)
def Cp4 : T := (.ite (.bin .eql (.v 0) (.c (.i .i64 6))) Eg9 Cp9)
def Cp0 : T := (.ite (.bin .eql (.v 0) (.c (.i .i64 5))) Er5 Cp4)
def Cn6 : T := (.ite (.bin .eql (.v 0) (.c (.i .i64 2))) Fb2 Cp0)
def Br3 : T := (.ite (.bin .eql (.v 0) (.c (.i .i64 1))) (.ret [.c (.s [65])]) Cn6)
theorem Lh8 : type_of% (And.intro (tev_eq @Fb2.eq_1) (And.intro (tev_eq @Er5.eq_1) (And.intro (tev_eq @Eg9.eq_1) (And.intro (tev_eq @Ec0.eq_1) (And.intro (tev_eq @Ez2.eq_1) (And.intro (tev_eq @Ex6.eq_1) (And.intro (tev_eq @Ew3.eq_1) (And.intro (tev_eq @Ev3.eq_1) (And.intro (tev_eq @Eq5.eq_1) (And.intro (tev_eq @Ek8.eq_1) (And.intro (tev_eq @Dq3.eq_1) (And.intro (tev_eq @Dk7.eq_1) (And.intro (tev_eq @Dk1.eq_1) (And.intro (tev_eq @Dj7.eq_1) (And.intro (tev_eq @Dj2.eq_1) (And.intro (tev_eq @Ct8.eq_1) (And.intro (tev_eq @Ct4.eq_1) (And.intro (tev_eq @Ct0.eq_1) (And.intro (tev_eq @Cs6.eq_1) (And.intro (tev_eq @Cs2.eq_1) (And.intro (tev_eq @Cr8.eq_1) (And.intro (tev_eq @Cr4.eq_1) (And.intro (tev_eq @Cp9.eq_1) (And.intro (tev_eq @Cp4.eq_1) (And.intro (tev_eq @Cp0.eq_1) (And.intro (tev_eq @Cn6.eq_1) (tev_eq @Br3.eq_1))))))))))))))))))))))))))) := (And.intro (tev_eq @Fb2.eq_1) (And.intro (tev_eq @Er5.eq_1) (And.intro (tev_eq @Eg9.eq_1) (And.intro (tev_eq @Ec0.eq_1) (And.intro (tev_eq @Ez2.eq_1) (And.intro (tev_eq @Ex6.eq_1) (And.intro (tev_eq @Ew3.eq_1) (And.intro (tev_eq @Ev3.eq_1) (And.intro (tev_eq @Eq5.eq_1) (And.intro (tev_eq @Ek8.eq_1) (And.intro (tev_eq @Dq3.eq_1) (And.intro (tev_eq @Dk7.eq_1) (And.intro (tev_eq @Dk1.eq_1) (And.intro (tev_eq @Dj7.eq_1) (And.intro (tev_eq @Dj2.eq_1) (And.intro (tev_eq @Ct8.eq_1) (And.intro (tev_eq @Ct4.eq_1) (And.intro (tev_eq @Ct0.eq_1) (And.intro (tev_eq @Cs6.eq_1) (And.intro (tev_eq @Cs2.eq_1) (And.intro (tev_eq @Cr8.eq_1) (And.intro (tev_eq @Cr4.eq_1) (And.intro (tev_eq @Cp9.eq_1) (And.intro (tev_eq @Cp4.eq_1) (And.intro (tev_eq @Cp0.eq_1) (And.intro (tev_eq @Cn6.eq_1) (tev_eq @Br3.eq_1)))))))))))))))))))))))))))
def Fb1 : T := (.yld 0 [.bin .eql (.v 0) (.c (.i .i64 1)), .c (.b false), .c (.i .u64 0), .c (.i .u64 0), .c (.s []), .c (.s []), .c (.s []), .c (.i .i64 0), .c (.i .i64 0), .c (.i .i64 0), .c (.i .i64 0), .c (.i .i64 0), .c (.i .i64 0), .c (.i .u64 0)])
def Er4 : T := (.yld 0 [.bin .eql (.v 0) (.c (.i .i64 28)), .c (.b false), .c (.i .u64 0), .c (.i .u64 0), .c (.s []), .c (.s []), .c (.s []), .c (.i .i64 0), .c (.i .i64 0), .c (.i .i64 0), .c (.i .i64 0), .c (.i .i64 0), .c (.i .i64 0), .c (.i .u64 0)])
def Eg8 : T := (.ite (.bin .eql (.v 0) (.c (.i .i64 1))) Fb1 Er4)
def Eb9 : T := (.w (.chk (.fit 3 (.sub 0 3 (.v 1)))) (.ret [.agg [.proj 0 (.sub 0 3 (.v 1)), .proj 1 (.sub 0 3 (.v 1)), .proj 2 (.sub 0 3 (.v 1)), .c (.s []), .c (.s []), .c (.s []), .c (.i .i64 0), .c (.i .i64 0), .c (.i .i64 0), .c (.i .i64 0), .c (.i .i64 0), .c (.i .i64 0), .c (.i .u64 0)]]))
def Ez1 : T := (.yld 1 [.bin .eql (.v 0) (.c (.i .i64 2)), .v 3, .v 4, .v 5, .v 6, .v 7, .v 8, .v 9, .v 10, .v 11, .v 12, .v 13, .v 14, .v 15])
def Ex5 : T := (.yld 2 [.bin .eql (.v 0) (.c (.i .i64 5)), .v 3, .v 4, .v 5, .v 6, .v 7, .v 8, .v 9, .v 10, .v 11, .v 12, .v 13, .v 14, .v 15])
def Ew2 : T := (.yld 3 [.bin .eql (.v 0) (.c (.i .i64 12)), .v 3, .v 4, .v 5, .v 6, .v 7, .v 8, .v 9, .v 10, .v 11, .v 12, .v 13, .v 14, .v 15])
def Ev2 : T := (.yld 3 [.bin .eql (.v 0) (.c (.i .i64 39)), .v 3, .v 4, .v 5, .v 6, .v 7, .v 8, .v 9, .v 10, .v 11, .v 12, .v 13, .v 14, .v 15])
def Eq4 : T := (.ite (.bin .eql (.v 0) (.c (.i .i64 12))) Ew2 Ev2)
def Ek7 : T := (.yld 2 [.v 16, .v 17, .v 18, .v 19, .v 20, .v 21, .v 22, .v 23, .v 24, .v 25, .v 26, .v 27, .v 28, .v 29])
def Dq2 : T := (.blk 3 Eq4 Ek7)
def Dk6 : T := (.ite (.bin .eql (.v 0) (.c (.i .i64 5))) Ex5 Dq2)
def Dk0 : T := (.yld 1 [.v 16, .v 17, .v 18, .v 19, .v 20, .v 21, .v 22, .v 23, .v 24, .v 25, .v 26, .v 27, .v 28, .v 29])
def Dj6 : T := (.blk 2 Dk6 Dk0)
def Dj1 : T := (.ite (.bin .eql (.v 0) (.c (.i .i64 2))) Ez1 Dj6)
def Ct7 : T := (.w (.chk (.scal (.proj 3 (.v 1)))) (.ret [.agg [.c (.b false), .c (.i .u64 0), .c (.i .u64 0), .proj 3 (.v 1), .c (.s []), .c (.s []), .c (.i .i64 0), .c (.i .i64 0), .c (.i .i64 0), .c (.i .i64 0), .c (.i .i64 0), .c (.i .i64 0), .c (.i .u64 0)]]))
def Ct3 : T := (.w (.chk (.scal (.proj 3 (.v 1)))) (.w (.chk (.scal (.proj 4 (.v 1)))) (.w (.chk (.scal (.proj 6 (.v 1)))) (.w (.chk (.scal (.proj 7 (.v 1)))) (.w (.chk (.scal (.proj 8 (.v 1)))) (.w (.chk (.scal (.proj 9 (.v 1)))) (.w (.chk (.scal (.proj 10 (.v 1)))) (.ret [.agg [.c (.b false), .c (.i .u64 0), .c (.i .u64 0), .proj 3 (.v 1), .proj 4 (.v 1), .c (.s []), .proj 6 (.v 1), .proj 7 (.v 1), .proj 8 (.v 1), .proj 9 (.v 1), .proj 10 (.v 1), .c (.i .i64 0), .c (.i .u64 0)]]))))))))
def Cs9 : T := (.w (.chk (.scal (.proj 6 (.v 1)))) (.w (.chk (.scal (.proj 3 (.v 1)))) (.ret [.agg [.c (.b false), .c (.i .u64 0), .c (.i .u64 0), .proj 3 (.v 1), .c (.s []), .c (.s []), .proj 6 (.v 1), .c (.i .i64 0), .c (.i .i64 0), .c (.i .i64 0), .c (.i .i64 0), .c (.i .i64 0), .c (.i .u64 0)]])))
def Cs5 : T := (.w (.chk (.scal (.proj 5 (.v 1)))) (.ret [.agg [.c (.b false), .c (.i .u64 0), .c (.i .u64 0), .c (.s []), .c (.s []), .proj 5 (.v 1), .c (.i .i64 0), .c (.i .i64 0), .c (.i .i64 0), .c (.i .i64 0), .c (.i .i64 0), .c (.i .i64 0), .c (.i .u64 0)]]))
def Cs1 : T := (.w (.chk (.scal (.proj 6 (.v 1)))) (.w (.chk (.scal (.proj 7 (.v 1)))) (.w (.chk (.scal (.proj 8 (.v 1)))) (.w (.chk (.scal (.proj 3 (.v 1)))) (.ret [.agg [.c (.b false), .c (.i .u64 0), .c (.i .u64 0), .proj 3 (.v 1), .c (.s []), .c (.s []), .proj 6 (.v 1), .proj 7 (.v 1), .proj 8 (.v 1), .c (.i .i64 0), .c (.i .i64 0), .c (.i .i64 0), .c (.i .u64 0)]])))))
def Cr7 : T := (.yld 2 [.bin .eql (.v 0) (.c (.i .i64 43)), .v 17, .v 18, .v 19, .v 20, .v 21, .v 22, .v 23, .v 24, .v 25, .v 26, .v 27, .v 28, .v 29])
def Cr3 : T := (.yld 2 [.bin .eql (.v 0) (.c (.i .i64 48)), .v 17, .v 18, .v 19, .v 20, .v 21, .v 22, .v 23, .v 24, .v 25, .v 26, .v 27, .v 28, .v 29])
def Cp8 : T := (.ite (.bin .eql (.v 0) (.c (.i .i64 43))) Cr7 Cr3)
def Cp3 : T := (.w (.chk (.scal (.proj 6 (.v 1)))) (.w (.chk (.scal (.proj 7 (.v 1)))) (.w (.chk (.scal (.proj 8 (.v 1)))) (.w (.chk (.scal (.proj 5 (.v 1)))) (.ret [.agg [.c (.b false), .c (.i .u64 0), .c (.i .u64 0), .c (.s []), .c (.s []), .proj 5 (.v 1), .proj 6 (.v 1), .proj 7 (.v 1), .proj 8 (.v 1), .c (.i .i64 0), .c (.i .i64 0), .c (.i .i64 0), .c (.i .u64 0)]])))))
def Cn9 : T := (.w (.chk (.scal (.proj 6 (.v 1)))) (.w (.chk (.scal (.proj 7 (.v 1)))) (.w (.chk (.scal (.proj 8 (.v 1)))) (.w (.chk (.scal (.proj 9 (.v 1)))) (.w (.chk (.scal (.proj 10 (.v 1)))) (.w (.chk (.scal (.proj 11 (.v 1)))) (.w (.chk (.scal (.proj 3 (.v 1)))) (.w (.chk (.scal (.proj 5 (.v 1)))) (.ret [.agg [.c (.b false), .c (.i .u64 0), .c (.i .u64 0), .proj 3 (.v 1), .c (.s []), .proj 5 (.v 1), .proj 6 (.v 1), .proj 7 (.v 1), .proj 8 (.v 1), .proj 9 (.v 1), .proj 10 (.v 1), .proj 11 (.v 1), .c (.i .u64 0)]])))))))))
def Cn5 : T := (.yld 2 [.v 30, .v 31, .v 32, .v 33, .v 34, .v 35, .v 36, .v 37, .v 38, .v 39, .v 40, .v 41, .v 42, .v 43])
def Cn2 : T := (.ite (.bin .eql (.v 0) (.c (.i .i64 46))) Cn9 Cn5)
def Cm9 : T := (.ite (.v 30) Cp3 Cn2)
def Cm6 : T := (.yld 1 [.v 16, .v 45, .v 46, .v 47, .v 48, .v 49, .v 50, .v 51, .v 52, .v 53, .v 54, .v 55, .v 56, .v 57])
def Cm3 : T := (.blk 2 Cm9 Cm6)
def Cm0 : T := (.blk 2 Cp8 Cm3)
def Cl7 : T := (.ite (.bin .eql (.v 0) (.c (.i .i64 33))) Cs1 Cm0)
def Cl4 : T := (.ite (.bin .eql (.v 0) (.c (.i .i64 16))) Cs5 Cl7)
def Cl1 : T := (.ite (.bin .eql (.v 0) (.c (.i .i64 15))) Cs9 Cl4)
def Ch8 : T := (.ite (.bin .eql (.v 0) (.c (.i .i64 6))) Ct3 Cl1)
def Ch5 : T := (.ite (.v 16) Ct7 Ch8)
def Ch2 : T := (.yld 0 [.v 2, .v 31, .v 32, .v 33, .v 34, .v 35, .v 36, .v 37, .v 38, .v 39, .v 40, .v 41, .v 42, .v 43])
def Cg9 : T := (.blk 1 Ch5 Ch2)
def Cg6 : T := (.blk 1 Dj1 Cg9)
def Cg3 : T := (.ite (.v 2) Eb9 Cg6)
def Cg0 : T := (.w (.chk (.scal (.proj 3 (.v 1)))) (.w (.chk (.scal (.proj 12 (.v 1)))) (.ret [.agg [.c (.b false), .c (.i .u64 0), .c (.i .u64 0), .proj 3 (.v 1), .c (.s []), .c (.s []), .c (.i .i64 0), .c (.i .i64 0), .c (.i .i64 0), .c (.i .i64 0), .c (.i .i64 0), .c (.i .i64 0), .proj 12 (.v 1)]])))
def Cf7 : T := (.blk 0 Cg3 Cg0)
def Br2 : T := (.w (.chk (.fit 13 (.v 1))) (.blk 0 Eg8 Cf7))
theorem Lh7 : type_of% (And.intro (tev_eq @Fb1.eq_1) (And.intro (tev_eq @Er4.eq_1) (And.intro (tev_eq @Eg8.eq_1) (And.intro (tev_eq @Eb9.eq_1) (And.intro (tev_eq @Ez1.eq_1) (And.intro (tev_eq @Ex5.eq_1) (And.intro (tev_eq @Ew2.eq_1) (And.intro (tev_eq @Ev2.eq_1) (And.intro (tev_eq @Eq4.eq_1) (And.intro (tev_eq @Ek7.eq_1) (And.intro (tev_eq @Dq2.eq_1) (And.intro (tev_eq @Dk6.eq_1) (And.intro (tev_eq @Dk0.eq_1) (And.intro (tev_eq @Dj6.eq_1) (And.intro (tev_eq @Dj1.eq_1) (And.intro (tev_eq @Ct7.eq_1) (And.intro (tev_eq @Ct3.eq_1) (And.intro (tev_eq @Cs9.eq_1) (And.intro (tev_eq @Cs5.eq_1) (And.intro (tev_eq @Cs1.eq_1) (And.intro (tev_eq @Cr7.eq_1) (And.intro (tev_eq @Cr3.eq_1) (And.intro (tev_eq @Cp8.eq_1) (And.intro (tev_eq @Cp3.eq_1) (And.intro (tev_eq @Cn9.eq_1) (And.intro (tev_eq @Cn5.eq_1) (And.intro (tev_eq @Cn2.eq_1) (And.intro (tev_eq @Cm9.eq_1) (And.intro (tev_eq @Cm6.eq_1) (And.intro (tev_eq @Cm3.eq_1) (And.intro (tev_eq @Cm0.eq_1) (And.intro (tev_eq @Cl7.eq_1) (And.intro (tev_eq @Cl4.eq_1) (And.intro (tev_eq @Cl1.eq_1) (And.intro (tev_eq @Ch8.eq_1) (And.intro (tev_eq @Ch5.eq_1) (And.intro (tev_eq @Ch2.eq_1) (And.intro (tev_eq @Cg9.eq_1) (And.intro (tev_eq @Cg6.eq_1) (And.intro (tev_eq @Cg3.eq_1) (And.intro (tev_eq @Cg0.eq_1) (And.intro (tev_eq @Cf7.eq_1) (tev_eq @Br2.eq_1))))))))))))))))))))))))))))))))))))))))))) := (And.intro (tev_eq @Fb1.eq_1) (And.intro (tev_eq @Er4.eq_1) (And.intro (tev_eq @Eg8.eq_1) (And.intro (tev_eq @Eb9.eq_1) (And.intro (tev_eq @Ez1.eq_1) (And.intro (tev_eq @Ex5.eq_1) (And.intro (tev_eq @Ew2.eq_1) (And.intro (tev_eq @Ev2.eq_1) (And.intro (tev_eq @Eq4.eq_1) (And.intro (tev_eq @Ek7.eq_1) (And.intro (tev_eq @Dq2.eq_1) (And.intro (tev_eq @Dk6.eq_1) (And.intro (tev_eq @Dk0.eq_1) (And.intro (tev_eq @Dj6.eq_1) (And.intro (tev_eq @Dj1.eq_1) (And.intro (tev_eq @Ct7.eq_1) (And.intro (tev_eq @Ct3.eq_1) (And.intro (tev_eq @Cs9.eq_1) (And.intro (tev_eq @Cs5.eq_1) (And.intro (tev_eq @Cs1.eq_1) (And.intro (tev_eq @Cr7.eq_1) (And.intro (tev_eq @Cr3.eq_1) (And.intro (tev_eq @Cp8.eq_1) (And.intro (tev_eq @Cp3.eq_1) (And.intro (tev_eq @Cn9.eq_1) (And.intro (tev_eq @Cn5.eq_1) (And.intro (tev_eq @Cn2.eq_1) (And.intro (tev_eq @Cm9.eq_1) (And.intro (tev_eq @Cm6.eq_1) (And.intro (tev_eq @Cm3.eq_1) (And.intro (tev_eq @Cm0.eq_1) (And.intro (tev_eq @Cl7.eq_1) (And.intro (tev_eq @Cl4.eq_1) (And.intro (tev_eq @Cl1.eq_1) (And.intro (tev_eq @Ch8.eq_1) (And.intro (tev_eq @Ch5.eq_1) (And.intro (tev_eq @Ch2.eq_1) (And.intro (tev_eq @Cg9.eq_1) (And.intro (tev_eq @Cg6.eq_1) (And.intro (tev_eq @Cg3.eq_1) (And.intro (tev_eq @Cg0.eq_1) (And.intro (tev_eq @Cf7.eq_1) (tev_eq @Br2.eq_1)))))))))))))))))))))))))))))))))))))))))))
def Br1 : T := (.w (.chk (.fit 3 (.v 0))) (.w (.chk (.ite (.ite (.un .not (.proj 0 (.v 0))) (.bin .eql (.proj 1 (.v 0)) (.c (.i .u64 0))) (.c (.b false))) (.bin .lss (.proj 2 (.v 0)) (.c (.i .u64 4294967296))) (.c .u))) (.ret [.ite (.proj 0 (.v 0)) (.c (.b true)) (.ite (.bin .eql (.proj 1 (.v 0)) (.c (.i .u64 0))) (.bin .lss (.proj 2 (.v 0)) (.c (.i .u64 4294967296))) (.c (.b false)))])))
theorem Lh6 : type_of% (tev_eq @Br1.eq_1) := (tev_eq @Br1.eq_1)
def Fb0 : T := (.ret [.ite (.v 1) (.bin .neq (.sidx (.v 0) (.c (.i .i64 0))) (.c (.i .u8 42))) (.c (.b false))])
def Br0 : T := (.w (.call none true Bm0 [.v 0] 1) Fb0)
theorem Kd2 : type_of% (And.intro (tev_eq @Fb0.eq_1) (tev_eq @Br0.eq_1)) := (And.intro (tev_eq @Fb0.eq_1) (tev_eq @Br0.eq_1))
def Bp9 : T := (.ret [.ite (.bin .geq (.v 0) (.c (.i .i64 0))) (.bin .lss (.v 0) (.c (.i .i64 4294967296))) (.c (.b false))])
theorem Lh5 : type_of% (tev_eq @Bp9.eq_1) := (tev_eq @Bp9.eq_1)
def Bp8 : T := (.ret [.ite (.bin .geq (.v 0) (.c (.i .i64 0))) (.bin .leq (.v 0) (.v 1)) (.c (.b false))])
theorem Lh4 : type_of% (tev_eq @Bp8.eq_1) := (tev_eq @Bp8.eq_1)
def Bp7 : T := (.ret [.ite (.bin .geq (.slen (.v 0)) (.c (.i .i64 1))) (.bin .leq (.slen (.v 0)) (.c (.i .i64 255))) (.c (.b false))])
theorem Lh3 : type_of% (tev_eq @Bp7.eq_1) := (tev_eq @Bp7.eq_1)
def Fz9 : T := (.yld 1 [.bin .add (.v 1) (.c (.i .i64 1))])
def Er3 : T := (.ite (.ite (.bin .eql (.bin .and (.bin .shr (.v 0) (.conv .u64 (.v 1))) (.c (.i .u64 1))) (.c (.i .u64 1))) (.un .not (.v 2)) (.c (.b false))) (.ret [.c (.b false)]) Fz9)
def Eg7 : T := (.w (.call (some (.bin .eql (.bin .and (.bin .shr (.v 0) (.conv .u64 (.v 1))) (.c (.i .u64 1))) (.c (.i .u64 1)))) true Bj8 [.v 1] 1) Er3)
def Fd5 : T := (.ite (.bin .lss (.v 1) (.c (.i .i64 64))) Eg7 (.yld 0 []))
def Hh2 : T := .loop 1 [.c (.i .i64 0)] Fd5
def Bp6 : T := (.blk 0 Hh2 (.ret [.c (.b true)]))
theorem Gn4 : type_of% (And.intro (tev_eq @Fz9.eq_1) (And.intro (tev_eq @Er3.eq_1) (And.intro (tev_eq @Eg7.eq_1) (And.intro (tev_eq @Fd5.eq_1) (tev_eq @Bp6.eq_1))))) := (And.intro (tev_eq @Fz9.eq_1) (And.intro (tev_eq @Er3.eq_1) (And.intro (tev_eq @Eg7.eq_1) (And.intro (tev_eq @Fd5.eq_1) (tev_eq @Bp6.eq_1)))))
def Fz8 : T := (.w (.call none true Cj7 [.v 0, .v 1] 1) (.ret [.v 6]))
def Er2 : T := (.ite (.v 5) (.ret [.c (.i .i64 1)]) Fz8)
def Eg6 : T := (.ite (.v 3) (.ret [.c (.i .i64 (-1))]) Er2)
def Eb8 : T := (.w (.call none true Cj7 [.proj 0 (.idx 1 (.v 2) (.bin .sub (.bin .sub (.len (.v 2)) (.c (.i .i64 1))) (.v 6))), .proj 0 (.idx 1 (.v 4) (.bin .sub (.bin .sub (.len (.v 4)) (.c (.i .i64 1))) (.v 6)))] 1) (.ret [.v 7]))
def Ez0 : T := (.ite (.bin .gtr (.len (.v 2)) (.len (.v 4))) (.ret [.c (.i .i64 1)]) (.ret [.c (.i .i64 0)]))
def Ex4 : T := (.ite (.bin .lss (.len (.v 2)) (.len (.v 4))) (.ret [.c (.i .i64 (-1))]) Ez0)
def Ew1 : T := (.ite (.ite (.bin .lss (.v 6) (.len (.v 2))) (.bin .lss (.v 6) (.len (.v 4))) (.c (.b false))) Eb8 Ex4)
def Ev1 : T := (.w (.call none true Gf0 [.v 2, .v 4] 1) Ew1)
def Eq3 : T := (.ite (.ite (.un .not (.v 3)) (.c (.b true)) (.un .not (.v 5))) Eg6 Ev1)
def Ek6 : T := (.w (.call none false As4 [.v 1] 2) Eq3)
def Bp5 : T := (.w (.call none false As4 [.v 0] 2) Ek6)
theorem Dx3 : type_of% (And.intro (tev_eq @Fz8.eq_1) (And.intro (tev_eq @Er2.eq_1) (And.intro (tev_eq @Eg6.eq_1) (And.intro (tev_eq @Eb8.eq_1) (And.intro (tev_eq @Ez0.eq_1) (And.intro (tev_eq @Ex4.eq_1) (And.intro (tev_eq @Ew1.eq_1) (And.intro (tev_eq @Ev1.eq_1) (And.intro (tev_eq @Eq3.eq_1) (And.intro (tev_eq @Ek6.eq_1) (tev_eq @Bp5.eq_1))))))))))) := (And.intro (tev_eq @Fz8.eq_1) (And.intro (tev_eq @Er2.eq_1) (And.intro (tev_eq @Eg6.eq_1) (And.intro (tev_eq @Eb8.eq_1) (And.intro (tev_eq @Ez0.eq_1) (And.intro (tev_eq @Ex4.eq_1) (And.intro (tev_eq @Ew1.eq_1) (And.intro (tev_eq @Ev1.eq_1) (And.intro (tev_eq @Eq3.eq_1) (And.intro (tev_eq @Ek6.eq_1) (tev_eq @Bp5.eq_1)))))))))))
def Fz7 : T := (.ite (.bin .gtr (.v 0) (.v 1)) (.ret [.c (.i .i64 1)]) (.ret [.c (.i .i64 0)]))
def Bp4 : T := (.ite (.bin .lss (.v 0) (.v 1)) (.ret [.c (.i .i64 (-1))]) Fz7)
theorem Lh2 : type_of% (And.intro (tev_eq @Fz7.eq_1) (tev_eq @Bp4.eq_1)) := (And.intro (tev_eq @Fz7.eq_1) (tev_eq @Bp4.eq_1))
def Fz6 : T := (.ite (.bin .eql (.v 6) (.c (.i .i64 0))) (.ret [.c (.i .i64 1)]) (.ret [.c (.i .i64 0)]))
def Er1 : T := (.ite (.bin .eql (.v 4) (.c (.i .i64 0))) (.ret [.c (.i .i64 (-1))]) Fz6)
def Eg5 : T := (.ite (.bin .gtr (.v 3) (.v 5)) (.ret [.c (.i .i64 1)]) (.ret [.c (.i .i64 0)]))
def Eb7 : T := (.ite (.bin .lss (.v 3) (.v 5)) (.ret [.c (.i .i64 (-1))]) Eg5)
def Ey9 : T := (.ite (.ite (.bin .neq (.v 4) (.c (.i .i64 0))) (.c (.b true)) (.bin .neq (.v 6) (.c (.i .i64 0)))) Er1 Eb7)
def Ex3 : T := (.w (.call none true Cj6 [.v 0, .sub 0 13 (.v 2)] 2) Ey9)
def Bp3 : T := (.w (.chk (.fit 13 (.v 1))) (.w (.chk (.fit 13 (.v 2))) (.w (.call none true Cj6 [.v 0, .sub 0 13 (.v 1)] 2) Ex3)))
theorem Kd1 : type_of% (And.intro (tev_eq @Fz6.eq_1) (And.intro (tev_eq @Er1.eq_1) (And.intro (tev_eq @Eg5.eq_1) (And.intro (tev_eq @Eb7.eq_1) (And.intro (tev_eq @Ey9.eq_1) (And.intro (tev_eq @Ex3.eq_1) (tev_eq @Bp3.eq_1))))))) := (And.intro (tev_eq @Fz6.eq_1) (And.intro (tev_eq @Er1.eq_1) (And.intro (tev_eq @Eg5.eq_1) (And.intro (tev_eq @Eb7.eq_1) (And.intro (tev_eq @Ey9.eq_1) (And.intro (tev_eq @Ex3.eq_1) (tev_eq @Bp3.eq_1)))))))
def Bp2 : T := (.w (.call none true Fl3 [.v 0, .v 1] 1) (.ret [.v 2]))
theorem Lh1 : type_of% (tev_eq @Bp2.eq_1) := (tev_eq @Bp2.eq_1)
def Fz5 : T := (.ret [.ssl (.v 0) (.c (.i .i64 0)) (.bin .sub (.slen (.v 0)) (.slen (.v 1)))])
def Er0 : T := (.ite (.v 2) Fz5 (.ret [.v 0]))
def Bp1 : T := (.w (.call none true Ck3 [.v 0, .v 1] 1) Er0)
theorem Lh0 : type_of% (And.intro (tev_eq @Fz5.eq_1) (And.intro (tev_eq @Er0.eq_1) (tev_eq @Bp1.eq_1))) := (And.intro (tev_eq @Fz5.eq_1) (And.intro (tev_eq @Er0.eq_1) (tev_eq @Bp1.eq_1)))
def Fz4 : T := (.yld 1 [.bin .add (.v 2) (.c (.i .i64 1))])
def Ep9 : T := (.ite (.v 3) (.ret [.v 2]) Fz4)
def Eg4 : T := (.w (.clo none true (.v 1) [.proj 0 (.idx 1 (.v 0) (.v 2))] 1) Ep9)
def Fd4 : T := (.ite (.bin .lss (.v 2) (.len (.v 0))) Eg4 (.yld 0 []))
def Hh1 : T := .loop 1 [.c (.i .i64 0)] Fd4
def Bp0 : T := (.w (.chk (.len (.v 0))) (.blk 0 Hh1 (.ret [.c (.i .i64 (-1))])))
theorem Dx2 : type_of% (And.intro (tev_eq @Fz4.eq_1) (And.intro (tev_eq @Ep9.eq_1) (And.intro (tev_eq @Eg4.eq_1) (And.intro (tev_eq @Fd4.eq_1) (tev_eq @Bp0.eq_1))))) := (And.intro (tev_eq @Fz4.eq_1) (And.intro (tev_eq @Ep9.eq_1) (And.intro (tev_eq @Eg4.eq_1) (And.intro (tev_eq @Fd4.eq_1) (tev_eq @Bp0.eq_1)))))
def Bn9 : T := (.w (.call none true Dc9 [.v 0, .v 1] 1) (.ret [.v 2]))
theorem Lg9 : type_of% (tev_eq @Bn9.eq_1) := (tev_eq @Bn9.eq_1)
def Fz3 : T := (.w (.call none false Gd5 [.ssl (.v 0) (.c (.i .i64 0)) (.bin .sub (.slen (.v 0)) (.c (.i .i64 1))), .c (.s [46])] 1) (.ret [.v 2]))
def Ep8 : T := (.ite (.ite (.bin .eql (.v 0) (.c (.s [46]))) (.c (.b true)) (.un .not (.v 1))) (.ret [.c (.l 1 [])]) Fz3)
def Bn8 : T := (.w (.call (some (.un .not (.bin .eql (.v 0) (.c (.s [46]))))) true As5 [.v 0] 1) Ep8)
theorem Gn3 : type_of% (And.intro (tev_eq @Fz3.eq_1) (And.intro (tev_eq @Ep8.eq_1) (tev_eq @Bn8.eq_1))) := (And.intro (tev_eq @Fz3.eq_1) (And.intro (tev_eq @Ep8.eq_1) (tev_eq @Bn8.eq_1)))
def Lb8 : T := (.ite (.ite (.bin .lss (.v 1) (.c (.i .i64 0))) (.c (.b true)) (.bin .gtr (.v 1) (.v 2))) (.yld 0 [.v 2]) (.yld 0 [.v 1]))
def Lb4 : T := (.w (.chk (.idx 1 (.v 5) (.v 6))) (.w (.chk (.scal (.ssl (.v 4) (.c (.i .i64 0)) (.v 8)))) (.yld 1 [.ssl (.v 4) (.v 8) (.slen (.v 4)), .set 1 (.v 5) (.v 6) 0 [.ssl (.v 4) (.c (.i .i64 0)) (.v 8)], .bin .add (.v 6) (.c (.i .i64 1))])))
def Lb0 : T := (.w (.call none true Hd3 [.v 4] 2) Lb4)
def Ld3 : T := (.ite (.bin .lss (.v 6) (.bin .sub (.v 3) (.c (.i .i64 1)))) Lb0 (.yld 0 [.v 4, .v 5]))
def Lv2 : T := .loop 1 [.v 0, .rep 1 (.v 3) (.c (.s [])), .c (.i .i64 0)] Ld3
def Lz8 : T := (.w (.chk (.idx 1 (.v 5) (.bin .sub (.v 3) (.c (.i .i64 1))))) (.w (.chk (.scal (.v 4))) (.ret [.set 1 (.v 5) (.bin .sub (.v 3) (.c (.i .i64 1))) 0 [.v 4]])))
def Lz6 : T := (.ite (.bin .gtr (.v 3) (.c (.i .i64 0))) Lz8 (.ret [.v 5]))
def Lz4 : T := (.blk 0 Lv2 Lz6)
def Lz2 : T := (.blk 0 Lb8 Lz4)
def Kf0 : T := (.w (.call none true Fl2 [.v 0] 1) Lz2)
def Fz2 : T := (.ret [.bin .add (.v 2) (.c (.i .i64 1))])
def Ep7 : T := (.w (.call none true Fl2 [.v 0] 1) Fz2)
def Eg3 : T := (.w (.call none true Fl1 [.v 0, .sidx (.v 1) (.c (.i .i64 0))] 1) (.ret [.v 2]))
def Eb6 : T := (.yld 1 [.ssl (.v 2) (.bin .add (.v 4) (.slen (.v 1))) (.slen (.v 2)), .bin .add (.v 3) (.c (.i .i64 1))])
def Ey8 : T := (.ite (.bin .eql (.v 4) (.c (.i .i64 (-1)))) (.ret [.v 3]) Eb6)
def Fd3 : T := (.w (.call none true Cj8 [.v 2, .v 1] 1) Ey8)
def Lv1 : T := .loop 1 [.v 0, .c (.i .i64 0)] Fd3
def Ex2 : T := (.blk 0 Lv1 (.ret [.c .u]))
def Ew0 : T := (.ite (.bin .eql (.slen (.v 1)) (.c (.i .i64 1))) Eg3 Ex2)
def Bn7 : T := (.ite (.bin .eql (.slen (.v 1)) (.c (.i .i64 0))) Ep7 Ew0)
theorem Lg8 : type_of% (And.intro (tev_eq @Fz2.eq_1) (And.intro (tev_eq @Ep7.eq_1) (And.intro (tev_eq @Eg3.eq_1) (And.intro (tev_eq @Eb6.eq_1) (And.intro (tev_eq @Ey8.eq_1) (And.intro (tev_eq @Fd3.eq_1) (And.intro (tev_eq @Ex2.eq_1) (And.intro (tev_eq @Ew0.eq_1) (tev_eq @Bn7.eq_1))))))))) := (And.intro (tev_eq @Fz2.eq_1) (And.intro (tev_eq @Ep7.eq_1) (And.intro (tev_eq @Eg3.eq_1) (And.intro (tev_eq @Eb6.eq_1) (And.intro (tev_eq @Ey8.eq_1) (And.intro (tev_eq @Fd3.eq_1) (And.intro (tev_eq @Ex2.eq_1) (And.intro (tev_eq @Ew0.eq_1) (tev_eq @Bn7.eq_1)))))))))
def Bn6 : T := (.w (.call none true Dc8 [.v 0, .v 1] 1) (.ret [.v 2]))
theorem Lg7 : type_of% (tev_eq @Bn6.eq_1) := (tev_eq @Bn6.eq_1)
def Fz1 : T := (.ite (.bin .gtr (.v 0) (.v 1)) (.ret [.c (.i .i64 1)]) (.ret [.c (.i .i64 0)]))
def Bn5 : T := (.ite (.bin .lss (.v 0) (.v 1)) (.ret [.c (.i .i64 (-1))]) Fz1)
theorem Lg6 : type_of% (And.intro (tev_eq @Fz1.eq_1) (tev_eq @Bn5.eq_1)) := (And.intro (tev_eq @Fz1.eq_1) (tev_eq @Bn5.eq_1))
def Fz0 : T := (.ret [.c (.s []), .c (.i .i64 4)])
def Ep6 : T := (.ret [.c (.s []), .c (.i .i64 5)])
def Eg2 : T := (.yld 0 [.bin .eql (.v 0) (.c (.i .i64 1))])
def Eb5 : T := (.yld 0 [.bin .eql (.v 0) (.c (.i .i64 28))])
def Ey7 : T := (.ite (.bin .eql (.v 0) (.c (.i .i64 1))) Eg2 Eb5)
def Ex1 : T := (.w (.call none true Dc7 [.sub 0 3 (.v 1)] 2) (.ret [.v 5, .v 6]))
def Ev9 : T := (.ret [.bin .add (.bin .add (.bin .add (.bin .add (.bin .add (.bin .add (.v 5) (.v 6)) (.v 7)) (.v 8)) (.v 9)) (.v 10)) (.v 11), .c (.i .i64 0)])
def Ev0 : T := (.w (.chk (.bin .add (.bin .add (.bin .add (.bin .add (.bin .add (.v 5) (.v 6)) (.v 7)) (.v 8)) (.v 9)) (.v 10))) (.w (.call none true Aq9 [.proj 10 (.v 1), .c (.i .i64 4)] 1) Ev9))
def Eq2 : T := (.w (.chk (.bin .add (.bin .add (.bin .add (.bin .add (.v 5) (.v 6)) (.v 7)) (.v 8)) (.v 9))) (.w (.call none true Aq9 [.proj 9 (.v 1), .c (.i .i64 4)] 1) Ev0))
def Ek5 : T := (.w (.chk (.bin .add (.bin .add (.bin .add (.v 5) (.v 6)) (.v 7)) (.v 8))) (.w (.call none true Aq9 [.proj 8 (.v 1), .c (.i .i64 4)] 1) Eq2))
def Dq1 : T := (.w (.chk (.bin .add (.bin .add (.v 5) (.v 6)) (.v 7))) (.w (.call none true Aq9 [.proj 7 (.v 1), .c (.i .i64 4)] 1) Ek5))
def Dk5 : T := (.w (.chk (.bin .add (.v 5) (.v 6))) (.w (.call none true Aq9 [.proj 6 (.v 1), .c (.i .i64 4)] 1) Dq1))
def Dj9 : T := (.w (.call none true Am2 [.proj 4 (.v 1)] 1) Dk5)
def Dj5 : T := (.w (.call none true Am2 [.proj 3 (.v 1)] 1) Dj9)
def Dj0 : T := (.ret [.bin .add (.v 5) (.v 6), .c (.i .i64 0)])
def Ct6 : T := (.w (.call none true Am2 [.proj 3 (.v 1)] 1) Dj0)
def Ct2 : T := (.w (.call none true Aq9 [.proj 6 (.v 1), .c (.i .i64 2)] 1) Ct6)
def Cs8 : T := (.ret [.bin .add (.v 5) (.proj 5 (.v 1)), .c (.i .i64 0)])
def Cs4 : T := (.w (.call none true Aq9 [.slen (.proj 5 (.v 1)), .c (.i .i64 1)] 1) Cs8)
def Cs0 : T := (.ret [.bin .add (.bin .add (.bin .add (.v 5) (.v 6)) (.v 7)) (.v 8), .c (.i .i64 0)])
def Cr6 : T := (.w (.chk (.bin .add (.bin .add (.v 5) (.v 6)) (.v 7))) (.w (.call none true Am2 [.proj 3 (.v 1)] 1) Cs0))
def Cr2 : T := (.w (.chk (.bin .add (.v 5) (.v 6))) (.w (.call none true Aq9 [.proj 8 (.v 1), .c (.i .i64 2)] 1) Cr6))
def Cp7 : T := (.w (.call none true Aq9 [.proj 7 (.v 1), .c (.i .i64 2)] 1) Cr2)
def Cp2 : T := (.w (.call none true Aq9 [.proj 6 (.v 1), .c (.i .i64 2)] 1) Cp7)
def Cn8 : T := (.yld 1 [.bin .eql (.v 0) (.c (.i .i64 43))])
def Cn4 : T := (.yld 1 [.bin .eql (.v 0) (.c (.i .i64 48))])
def Cn1 : T := (.ite (.bin .eql (.v 0) (.c (.i .i64 43))) Cn8 Cn4)
def Cm8 : T := (.ret [.bin .add (.bin .add (.bin .add (.v 6) (.v 7)) (.v 8)) (.proj 5 (.v 1)), .c (.i .i64 0)])
def Cm5 : T := (.w (.chk (.bin .add (.v 6) (.v 7))) (.w (.call none true Aq9 [.proj 8 (.v 1), .c (.i .i64 1)] 1) Cm8))
def Cm2 : T := (.w (.call none true Aq9 [.proj 7 (.v 1), .c (.i .i64 1)] 1) Cm5)
def Cl9 : T := (.w (.call none true Aq9 [.proj 6 (.v 1), .c (.i .i64 2)] 1) Cm2)
def Cl6 : T := (.ret [.bin .add (.bin .add (.bin .add (.bin .add (.bin .add (.bin .add (.bin .add (.bin .add (.v 6) (.v 7)) (.v 8)) (.v 9)) (.v 10)) (.v 11)) (.v 12)) (.v 13)) (.proj 5 (.v 1)), .c (.i .i64 0)])
def Cl3 : T := (.w (.chk (.bin .add (.bin .add (.bin .add (.bin .add (.bin .add (.bin .add (.v 6) (.v 7)) (.v 8)) (.v 9)) (.v 10)) (.v 11)) (.v 12))) (.w (.call none true Am2 [.proj 3 (.v 1)] 1) Cl6))
def Cl0 : T := (.w (.chk (.bin .add (.bin .add (.bin .add (.bin .add (.bin .add (.v 6) (.v 7)) (.v 8)) (.v 9)) (.v 10)) (.v 11))) (.w (.call none true Aq9 [.proj 11 (.v 1), .c (.i .i64 2)] 1) Cl3))
def Ch7 : T := (.w (.chk (.bin .add (.bin .add (.bin .add (.bin .add (.v 6) (.v 7)) (.v 8)) (.v 9)) (.v 10))) (.w (.call none true Aq9 [.proj 10 (.v 1), .c (.i .i64 4)] 1) Cl0))
def Ch4 : T := (.w (.chk (.bin .add (.bin .add (.bin .add (.v 6) (.v 7)) (.v 8)) (.v 9))) (.w (.call none true Aq9 [.proj 9 (.v 1), .c (.i .i64 4)] 1) Ch7))
def Ch1 : T := (.w (.chk (.bin .add (.bin .add (.v 6) (.v 7)) (.v 8))) (.w (.call none true Aq9 [.proj 8 (.v 1), .c (.i .i64 4)] 1) Ch4))
def Cg8 : T := (.w (.chk (.bin .add (.v 6) (.v 7))) (.w (.call none true Aq9 [.proj 7 (.v 1), .c (.i .i64 1)] 1) Ch1))
def Cg5 : T := (.w (.call none true Aq9 [.c (.i .i64 253), .c (.i .i64 1)] 1) Cg8)
def Cg2 : T := (.w (.call none true Aq9 [.proj 6 (.v 1), .c (.i .i64 2)] 1) Cg5)
def Cf9 : T := (.ret [.bin .add (.bin .add (.bin .add (.v 7) (.v 8)) (.v 9)) (.v 6), .c (.i .i64 0)])
def Cf6 : T := (.w (.chk (.bin .add (.v 7) (.v 8))) (.w (.call none true Aq9 [.slen (.v 6), .c (.i .i64 1)] 1) Cf9))
def Cf4 : T := (.w (.call none true Aq9 [.c (.i .i64 0), .c (.i .i64 1)] 1) Cf6)
def Cf2 : T := (.w (.call none true Am2 [.proj 3 (.v 1)] 1) Cf4)
def Cf0 : T := (.w (.call none true Dc6 [.proj 12 (.v 1)] 1) Cf2)
def Cd8 : T := (.ite (.bin .eql (.v 0) (.c (.i .i64 47))) Cf0 (.yld 1 [.v 5]))
def Cd6 : T := (.ite (.bin .eql (.v 0) (.c (.i .i64 46))) Cg2 Cd8)
def Cd4 : T := (.ite (.v 5) Cl9 Cd6)
def Cd2 : T := (.blk 1 Cd4 (.yld 0 [.v 4]))
def Cd0 : T := (.blk 1 Cn1 Cd2)
def Cc8 : T := (.ite (.bin .eql (.v 0) (.c (.i .i64 33))) Cp2 Cd0)
def Cc6 : T := (.ite (.bin .eql (.v 0) (.c (.i .i64 16))) Cs4 Cc8)
def Cc5 : T := (.ite (.bin .eql (.v 0) (.c (.i .i64 15))) Ct2 Cc6)
def Cc4 : T := (.ite (.bin .eql (.v 0) (.c (.i .i64 6))) Dj5 Cc5)
def Cc3 : T := (.ite (.v 4) Ex1 Cc4)
def Cc2 : T := (.ret [.v 6, .c (.i .i64 0)])
def Cc1 : T := (.w (.call none true Am2 [.proj 3 (.v 1)] 1) Cc2)
def Cc0 : T := (.blk 0 Cc3 Cc1)
def Cb9 : T := (.blk 0 Ey7 Cc0)
def Cb8 : T := (.ite (.un .not (.v 3)) Ep6 Cb9)
def Cb7 : T := (.w (.call none true Ck7 [.v 0, .sub 0 13 (.v 1)] 1) Cb8)
def Cb6 : T := (.ite (.un .not (.v 2)) Fz0 Cb7)
def Bn4 : T := (.w (.chk (.fit 13 (.v 1))) (.w (.call none true Bj8 [.v 0] 1) Cb6))
theorem Ab6 : type_of% (And.intro (tev_eq @Fz0.eq_1) (And.intro (tev_eq @Ep6.eq_1) (And.intro (tev_eq @Eg2.eq_1) (And.intro (tev_eq @Eb5.eq_1) (And.intro (tev_eq @Ey7.eq_1) (And.intro (tev_eq @Ex1.eq_1) (And.intro (tev_eq @Ev9.eq_1) (And.intro (tev_eq @Ev0.eq_1) (And.intro (tev_eq @Eq2.eq_1) (And.intro (tev_eq @Ek5.eq_1) (And.intro (tev_eq @Dq1.eq_1) (And.intro (tev_eq @Dk5.eq_1) (And.intro (tev_eq @Dj9.eq_1) (And.intro (tev_eq @Dj5.eq_1) (And.intro (tev_eq @Dj0.eq_1) (And.intro (tev_eq @Ct6.eq_1) (And.intro (tev_eq @Ct2.eq_1) (And.intro (tev_eq @Cs8.eq_1) (And.intro (tev_eq @Cs4.eq_1) (And.intro (tev_eq @Cs0.eq_1) (And.intro (tev_eq @Cr6.eq_1) (And.intro (tev_eq @Cr2.eq_1) (And.intro (tev_eq @Cp7.eq_1) (And.intro (tev_eq @Cp2.eq_1) (And.intro (tev_eq @Cn8.eq_1) (And.intro (tev_eq @Cn4.eq_1) (And.intro (tev_eq @Cn1.eq_1) (And.intro (tev_eq @Cm8.eq_1) (And.intro (tev_eq @Cm5.eq_1) (And.intro (tev_eq @Cm2.eq_1) (And.intro (tev_eq @Cl9.eq_1) (And.intro (tev_eq @Cl6.eq_1) (And.intro (tev_eq @Cl3.eq_1) (And.intro (tev_eq @Cl0.eq_1) (And.intro (tev_eq @Ch7.eq_1) (And.intro (tev_eq @Ch4.eq_1) (And.intro (tev_eq @Ch1.eq_1) (And.intro (tev_eq @Cg8.eq_1) (And.intro (tev_eq @Cg5.eq_1) (And.intro (tev_eq @Cg2.eq_1) (And.intro (tev_eq @Cf9.eq_1) (And.intro (tev_eq @Cf6.eq_1) (And.intro (tev_eq @Cf4.eq_1) (And.intro (tev_eq @Cf2.eq_1) (And.intro (tev_eq @Cf0.eq_1) (And.intro (tev_eq @Cd8.eq_1) (And.intro (tev_eq @Cd6.eq_1) (And.intro (tev_eq @Cd4.eq_1) (And.intro (tev_eq @Cd2.eq_1) (And.intro (tev_eq @Cd0.eq_1) (And.intro (tev_eq @Cc8.eq_1) (And.intro (tev_eq @Cc6.eq_1) (And.intro (tev_eq @Cc5.eq_1) (And.intro (tev_eq @Cc4.eq_1) (And.intro (tev_eq @Cc3.eq_1) (And.intro (tev_eq @Cc2.eq_1) (And.intro (tev_eq @Cc1.eq_1) (And.intro (tev_eq @Cc0.eq_1) (And.intro (tev_eq @Cb9.eq_1) (And.intro (tev_eq @Cb8.eq_1) (And.intro (tev_eq @Cb7.eq_1) (And.intro (tev_eq @Cb6.eq_1) (tev_eq @Bn4.eq_1))))))))))))))))))))))))))))))))))))))))))))))))))))))))))))))) := (And.intro (tev_eq @Fz0.eq_1) (And.intro (tev_eq @Ep6.eq_1) (And.intro (tev_eq @Eg2.eq_1) (And.intro (tev_eq @Eb5.eq_1) (And.intro (tev_eq @Ey7.eq_1) (And.intro (tev_eq @Ex1.eq_1) (And.intro (tev_eq @Ev9.eq_1) (And.intro (tev_eq @Ev0.eq_1) (And.intro (tev_eq @Eq2.eq_1) (And.intro (tev_eq @Ek5.eq_1) (And.intro (tev_eq @Dq1.eq_1) (And.intro (tev_eq @Dk5.eq_1) (And.intro (tev_eq @Dj9.eq_1) (And.intro (tev_eq @Dj5.eq_1) (And.intro (tev_eq @Dj0.eq_1) (And.intro (tev_eq @Ct6.eq_1) (And.intro (tev_eq @Ct2.eq_1) (And.intro (tev_eq @Cs8.eq_1) (And.intro (tev_eq @Cs4.eq_1) (And.intro (tev_eq @Cs0.eq_1) (And.intro (tev_eq @Cr6.eq_1) (And.intro (tev_eq @Cr2.eq_1) (And.intro (tev_eq @Cp7.eq_1) (And.intro (tev_eq @Cp2.eq_1) (And.intro (tev_eq @Cn8.eq_1) (And.intro (tev_eq @Cn4.eq_1) (And.intro (tev_eq @Cn1.eq_1) (And.intro (tev_eq @Cm8.eq_1) (And.intro (tev_eq @Cm5.eq_1) (And.intro (tev_eq @Cm2.eq_1) (And.intro (tev_eq @Cl9.eq_1) (And.intro (tev_eq @Cl6.eq_1) (And.intro (tev_eq @Cl3.eq_1) (And.intro (tev_eq @Cl0.eq_1) (And.intro (tev_eq @Ch7.eq_1) (And.intro (tev_eq @Ch4.eq_1) (And.intro (tev_eq @Ch1.eq_1) (And.intro (tev_eq @Cg8.eq_1) (And.intro (tev_eq @Cg5.eq_1) (And.intro (tev_eq @Cg2.eq_1) (And.intro (tev_eq @Cf9.eq_1) (And.intro (tev_eq @Cf6.eq_1) (And.intro (tev_eq @Cf4.eq_1) (And.intro (tev_eq @Cf2.eq_1) (And.intro (tev_eq @Cf0.eq_1) (And.intro (tev_eq @Cd8.eq_1) (And.intro (tev_eq @Cd6.eq_1) (And.intro (tev_eq @Cd4.eq_1) (And.intro (tev_eq @Cd2.eq_1) (And.intro (tev_eq @Cd0.eq_1) (And.intro (tev_eq @Cc8.eq_1) (And.intro (tev_eq @Cc6.eq_1) (And.intro (tev_eq @Cc5.eq_1) (And.intro (tev_eq @Cc4.eq_1) (And.intro (tev_eq @Cc3.eq_1) (And.intro (tev_eq @Cc2.eq_1) (And.intro (tev_eq @Cc1.eq_1) (And.intro (tev_eq @Cc0.eq_1) (And.intro (tev_eq @Cb9.eq_1) (And.intro (tev_eq @Cb8.eq_1) (And.intro (tev_eq @Cb7.eq_1) (And.intro (tev_eq @Cb6.eq_1) (tev_eq @Bn4.eq_1)))))))))))))))))))))))))))))))))))))))))))))))))))))))))))))))
def Bn3 : T := (.w (.call none true Fl0 [.v 0, .v 1] 1) (.ret [.v 2]))
theorem Lg5 : type_of% (tev_eq @Bn3.eq_1) := (tev_eq @Bn3.eq_1)
def Kd9 : T := (.ret [.scal (.c .u)])
def Lb7 : T := (.ret [.conv .i32 (.sidx (.v 0) (.c (.i .i64 0))), .c (.i .i64 1)])
def Lb3 : T := (.w (.call none true Hd2 [.v 0] 2) (.ret [.v 1, .v 2]))
def Kd8 : T := (.ite (.ite (.bin .neq (.v 0) (.c (.s []))) (.bin .lss (.sidx (.v 0) (.c (.i .i64 0))) (.c (.i .u8 128))) (.c (.b false))) Lb7 Lb3)
def Fy9 : T := (.w (.call none true Ck0 [.v 0, .sidx (.v 1) (.c (.i .i64 0))] 1) (.ret [.v 2]))
def Ep5 : T := (.ite (.bin .geq (.slen (.v 1)) (.slen (.v 0))) (.ret [.c (.i .i64 (-1))]) (.ret [.scal (.c .u)]))
def Eg1 : T := (.ite (.bin .eql (.slen (.v 1)) (.c (.i .i64 1))) Fy9 Ep5)
def Bn2 : T := (.ite (.ite (.bin .eql (.slen (.v 1)) (.c (.i .i64 0))) (.c (.b true)) (.bin .eql (.v 1) (.v 0))) (.ret [.c (.i .i64 0)]) Eg1)
theorem Kd0 : type_of% (And.intro (tev_eq @Fy9.eq_1) (And.intro (tev_eq @Ep5.eq_1) (And.intro (tev_eq @Eg1.eq_1) (tev_eq @Bn2.eq_1)))) := (And.intro (tev_eq @Fy9.eq_1) (And.intro (tev_eq @Ep5.eq_1) (And.intro (tev_eq @Eg1.eq_1) (tev_eq @Bn2.eq_1))))
def Fy8 : T := (.ret [.c (.s []), .c (.i .i64 3)])
def Ep4 : T := (.ret [.bin .add (.v 2) (.v 3), .c (.i .i64 0)])
def Eg0 : T := (.w (.call none true Bf2 [.proj 2 (.v 0), .c (.i .i64 8)] 1) Ep4)
def Eb4 : T := (.w (.call none true Bf2 [.proj 1 (.v 0), .c (.i .i64 8)] 1) Eg0)
def Ey6 : T := (.ret [.v 2, .c (.i .i64 0)])
def Ex0 : T := (.w (.call none true Bf2 [.proj 2 (.v 0), .c (.i .i64 4)] 1) Ey6)
def Ev8 : T := (.ite (.proj 0 (.v 0)) Eb4 Ex0)
def Eq9 : T := (.ite (.un .not (.v 1)) Fy8 Ev8)
def Bn1 : T := (.w (.chk (.fit 3 (.v 0))) (.w (.call none true Ck2 [.sub 0 3 (.v 0)] 1) Eq9))
theorem Lg4 : type_of% (And.intro (tev_eq @Fy8.eq_1) (And.intro (tev_eq @Ep4.eq_1) (And.intro (tev_eq @Eg0.eq_1) (And.intro (tev_eq @Eb4.eq_1) (And.intro (tev_eq @Ey6.eq_1) (And.intro (tev_eq @Ex0.eq_1) (And.intro (tev_eq @Ev8.eq_1) (And.intro (tev_eq @Eq9.eq_1) (tev_eq @Bn1.eq_1))))))))) := (And.intro (tev_eq @Fy8.eq_1) (And.intro (tev_eq @Ep4.eq_1) (And.intro (tev_eq @Eg0.eq_1) (And.intro (tev_eq @Eb4.eq_1) (And.intro (tev_eq @Ey6.eq_1) (And.intro (tev_eq @Ex0.eq_1) (And.intro (tev_eq @Ev8.eq_1) (And.intro (tev_eq @Eq9.eq_1) (tev_eq @Bn1.eq_1)))))))))
def Fy7 : T := (.yld 1 [.bin .add (.v 2) (.bin .add (.v 4) (.proj 0 (.idx 1 (.v 1) (.v 3)))), .bin .add (.v 3) (.c (.i .i64 1))])
def Ep3 : T := (.w (.call none true Aq9 [.slen (.proj 0 (.idx 1 (.v 1) (.v 3))), .c (.i .i64 1)] 1) Fy7)
def Dv1 : T := (.ite (.bin .lss (.v 3) (.len (.v 1))) Ep3 (.yld 0 [.v 2]))
def Dt6 : T := .loop 1 [.c (.s []), .c (.i .i64 0)] Dv1
def Ef9 : T := (.ret [.bin .add (.v 2) (.v 3)])
def Eb3 : T := (.w (.call none true Aq9 [.c (.i .i64 0), .c (.i .i64 1)] 1) Ef9)
def Ey5 : T := (.blk 0 Dt6 Eb3)
def Bn0 : T := (.w (.call none false Bl9 [.v 0] 1) Ey5)
theorem Gn2 : type_of% (And.intro (tev_eq @Fy7.eq_1) (And.intro (tev_eq @Ep3.eq_1) (And.intro (tev_eq @Dv1.eq_1) (And.intro (tev_eq @Ef9.eq_1) (And.intro (tev_eq @Eb3.eq_1) (And.intro (tev_eq @Ey5.eq_1) (tev_eq @Bn0.eq_1))))))) := (And.intro (tev_eq @Fy7.eq_1) (And.intro (tev_eq @Ep3.eq_1) (And.intro (tev_eq @Dv1.eq_1) (And.intro (tev_eq @Ef9.eq_1) (And.intro (tev_eq @Eb3.eq_1) (And.intro (tev_eq @Ey5.eq_1) (tev_eq @Bn0.eq_1)))))))
def Fy6 : T := (.yld 3 [.bin .quo (.v 4) (.c (.i .i64 256)), .bin .add (.v 5) (.c (.i .i64 1))])
def Fd0 : T := (.ite (.bin .lss (.v 5) (.v 3)) Fy6 (.yld 2 [.v 4]))
def Hg6 : T := .loop 3 [.v 0, .c (.i .i64 0)] Fd0
def Ep2 : T := (.w (.chk (.scal (.conv .u8 (.bin .rem (.v 4) (.c (.i .i64 256)))))) (.yld 1 [.app 1 (.v 2) (.lit 1 [.conv .u8 (.bin .rem (.v 4) (.c (.i .i64 256)))]), .bin .sub (.v 3) (.c (.i .i64 1))]))
def Ef8 : T := (.blk 2 Hg6 Ep2)
def Dv0 : T := (.ite (.bin .geq (.v 3) (.c (.i .i64 0))) Ef8 (.yld 0 [.v 2]))
def Dt5 : T := .loop 1 [.c (.l 1 []), .bin .sub (.v 1) (.c (.i .i64 1))] Dv0
def Bm9 : T := (.blk 0 Dt5 (.ret [.b2s (.v 2)]))
theorem Dx1 : type_of% (And.intro (tev_eq @Fy6.eq_1) (And.intro (tev_eq @Fd0.eq_1) (And.intro (tev_eq @Ep2.eq_1) (And.intro (tev_eq @Ef8.eq_1) (And.intro (tev_eq @Dv0.eq_1) (tev_eq @Bm9.eq_1)))))) := (And.intro (tev_eq @Fy6.eq_1) (And.intro (tev_eq @Fd0.eq_1) (And.intro (tev_eq @Ep2.eq_1) (And.intro (tev_eq @Ef8.eq_1) (And.intro (tev_eq @Dv0.eq_1) (tev_eq @Bm9.eq_1))))))
def Fy5 : T := (.yld 3 [.bin .add (.bin .mul (.v 4) (.c (.i .i64 2))) (.conv .i64 (.bin .and (.bin .shr (.v 0) (.conv .u64 (.bin .add (.bin .mul (.v 3) (.c (.i .i64 8))) (.v 5)))) (.c (.i .u64 1)))), .bin .add (.v 5) (.c (.i .i64 1))])
def Fc9 : T := (.ite (.bin .lss (.v 5) (.c (.i .i64 8))) Fy5 (.yld 2 [.v 4]))
def Hg5 : T := .loop 3 [.c (.i .i64 0), .c (.i .i64 0)] Fc9
def Ep1 : T := (.yld 1 [.app 1 (.v 1) (.lit 1 [.conv .u8 (.v 4)]), .bin .add (.v 3) (.c (.i .i64 1)), .bin .add (.v 3) (.c (.i .i64 1))])
def Ef7 : T := (.yld 1 [.app 1 (.v 1) (.lit 1 [.conv .u8 (.v 4)]), .v 2, .bin .add (.v 3) (.c (.i .i64 1))])
def Eb2 : T := (.w (.chk (.scal (.conv .u8 (.v 4)))) (.ite (.bin .neq (.v 4) (.c (.i .i64 0))) Ep1 Ef7))
def Ey4 : T := (.blk 2 Hg5 Eb2)
def Fd2 : T := (.ite (.bin .lss (.v 3) (.c (.i .i64 8))) Ey4 (.yld 0 [.v 1, .v 2]))
def Hh0 : T := .loop 1 [.c (.l 1 []), .c (.i .i64 0), .c (.i .i64 0)] Fd2
def Ew9 : T := (.ret [.b2s (.lsl 1 (.v 1) (.c (.i .i64 0)) (.v 2))])
def Bm8 : T := (.blk 0 Hh0 Ew9)
theorem Bm3 : type_of% (And.intro (tev_eq @Fy5.eq_1) (And.intro (tev_eq @Fc9.eq_1) (And.intro (tev_eq @Ep1.eq_1) (And.intro (tev_eq @Ef7.eq_1) (And.intro (tev_eq @Eb2.eq_1) (And.intro (tev_eq @Ey4.eq_1) (And.intro (tev_eq @Fd2.eq_1) (And.intro (tev_eq @Ew9.eq_1) (tev_eq @Bm8.eq_1))))))))) := (And.intro (tev_eq @Fy5.eq_1) (And.intro (tev_eq @Fc9.eq_1) (And.intro (tev_eq @Ep1.eq_1) (And.intro (tev_eq @Ef7.eq_1) (And.intro (tev_eq @Eb2.eq_1) (And.intro (tev_eq @Ey4.eq_1) (And.intro (tev_eq @Fd2.eq_1) (And.intro (tev_eq @Ew9.eq_1) (tev_eq @Bm8.eq_1)))))))))
def Lb6 : T := (.ret [.c (.i .i32 65533), .c (.i .i64 0)])
def Lb2 : T := (.w (.chk (.sidx (.v 0) (.c (.i .i64 0)))) (.ret [.scal (.c .u)]))
def Kd7 : T := (.ite (.bin .lss (.slen (.v 0)) (.c (.i .i64 1))) Lb6 Lb2)
def Fy4 : T := (.yld 3 [.bin .quo (.v 4) (.c (.i .u64 256)), .bin .add (.v 5) (.c (.i .i64 1))])
def Fc8 : T := (.ite (.bin .lss (.v 5) (.v 3)) Fy4 (.yld 2 [.v 4]))
def Hg4 : T := .loop 3 [.v 0, .c (.i .i64 0)] Fc8
def Ep0 : T := (.w (.chk (.scal (.conv .u8 (.bin .rem (.v 4) (.c (.i .u64 256)))))) (.yld 1 [.app 1 (.v 2) (.lit 1 [.conv .u8 (.bin .rem (.v 4) (.c (.i .u64 256)))]), .bin .sub (.v 3) (.c (.i .i64 1))]))
def Ef6 : T := (.blk 2 Hg4 Ep0)
def Dq9 : T := (.ite (.bin .geq (.v 3) (.c (.i .i64 0))) Ef6 (.yld 0 [.v 2]))
def Dt4 : T := .loop 1 [.c (.l 1 []), .bin .sub (.v 1) (.c (.i .i64 1))] Dq9
def Bm7 : T := (.blk 0 Dt4 (.ret [.b2s (.v 2)]))
theorem Dx0 : type_of% (And.intro (tev_eq @Fy4.eq_1) (And.intro (tev_eq @Fc8.eq_1) (And.intro (tev_eq @Ep0.eq_1) (And.intro (tev_eq @Ef6.eq_1) (And.intro (tev_eq @Dq9.eq_1) (tev_eq @Bm7.eq_1)))))) := (And.intro (tev_eq @Fy4.eq_1) (And.intro (tev_eq @Fc8.eq_1) (And.intro (tev_eq @Ep0.eq_1) (And.intro (tev_eq @Ef6.eq_1) (And.intro (tev_eq @Dq9.eq_1) (tev_eq @Bm7.eq_1))))))

abbrev sg : Nat → Option Nat := (Hf4 [(31, 56), (40, 56), (45, 824633737216), (93, 1099511627986), (98, 56), (99, 1099511627888), (101, 1099511627889), (117, 1099511627794), (119, 1099511627795), (120, 1099511627889), (135, 1099511627888), (161, 1099511627986), (173, 1099511627888), (174, 1099511627888), (181, 1099511627794), (200, 1099511627888), (219, 1099511627888)])
theorem k_u5 : FOK Go.Proofs.Tryz.prog sg n_u5 ⟨2, 0, t_u5⟩ :=
 ⟨Go.Proofs.Tryz.f5, {  }, by kernel_rfl, by kernel_rfl, by kernel_rfl, Nat.le_of_ble_eq_true (by kernel_rfl), by kernel_rfl, Aj4 (by kernel_rfl)⟩
theorem Nb2 : FOK Go.Proofs.Tryz.prog sg Hf0 ⟨1, 0, Gy2⟩ :=
 ⟨Go.Proofs.Tryz.f10, {  }, by kernel_rfl, by kernel_rfl, by kernel_rfl, Nat.le_of_ble_eq_true (by kernel_rfl), by kernel_rfl, Aj4 (by kernel_rfl)⟩
theorem Nb1 : FOK Go.Proofs.Tryz.prog sg Hd9 ⟨2, 0, Gy1⟩ :=
 ⟨Go.Proofs.Tryz.f12, {  }, by kernel_rfl, by kernel_rfl, by kernel_rfl, Nat.le_of_ble_eq_true (by kernel_rfl), by kernel_rfl, Aj4 (by kernel_rfl)⟩
theorem Nb0 : FOK Go.Proofs.Tryz.prog sg Hd8 ⟨2, 0, Gy0⟩ :=
 ⟨Go.Proofs.Tryz.f13, { own := [77826], loops := [(0, ⟨rg [(2, 1), (5, 9), (17, 127)], [.ta 15 16000015 56 16, .t 16]⟩)], blks := [(0, ⟨rg [(2, 1), (5, 9), (16, 128)], [.ta 15 16000015 56 16]⟩)], conds := [(79, ⟨[], [.t 9]⟩)] }, by kernel_rfl, by kernel_rfl, by kernel_rfl, Nat.le_of_ble_eq_true (by kernel_rfl), by kernel_rfl, Aj4 (by kernel_rfl)⟩
theorem Nz9 : FOK Go.Proofs.Tryz.prog sg Hd7 ⟨2, 0, Gx9⟩ :=
 ⟨Go.Proofs.Tryz.f14, { own := [8194], loops := [(0, ⟨rg [(4, 2), (8, 53)], [.ta 6 16000006 31 5, .ta 7 16000007 9 1, .c 1 0]⟩)], blks := [(0, ⟨rg [(4, 5), (12, 49)], [.c 1 0]⟩)] }, by kernel_rfl, by kernel_rfl, by kernel_rfl, Nat.le_of_ble_eq_true (by kernel_rfl), by kernel_rfl, Aj4 (by kernel_rfl)⟩
theorem Nz8 : FOK Go.Proofs.Tryz.prog sg Kv9 ⟨0, 0, Lm1⟩ :=
 ⟨Go.Proofs.Tryz.f15, {  }, by kernel_rfl, by kernel_rfl, by kernel_rfl, Nat.le_of_ble_eq_true (by kernel_rfl), by kernel_rfl, Aj4 (by kernel_rfl)⟩
theorem Nz7 : FOK Go.Proofs.Tryz.prog sg Hd5 ⟨2, 0, Gx8⟩ :=
 ⟨Go.Proofs.Tryz.f16, { own := [8194], loops := [(0, ⟨rg [(4, 2), (9, 57)], [.ta 6 16000006 33 5, .ta 7 16000007 9 1, .t 8]⟩), (2, ⟨rg [(4, 2), (46, 14)], [.t 10]⟩)], blks := [(0, ⟨rg [(2, 4), (7, 59)], [.ta 6 16000006 33 5]⟩), (2, ⟨rg [(4, 2), (10, 1), (46, 14)], []⟩)] }, by kernel_rfl, by kernel_rfl, by kernel_rfl, Nat.le_of_ble_eq_true (by kernel_rfl), by kernel_rfl, Aj4 (by kernel_rfl)⟩
theorem Nz6 : FOK Go.Proofs.Tryz.prog sg Gg3 ⟨2, 0, Gx7⟩ :=
 ⟨Go.Proofs.Tryz.f17, { own := [36865], loops := [(1, ⟨rg [(3, 1), (5, 1), (7, 1), (11, 48), (62, 88)], [.t 9, .t 61, .ca 36866 14 34359438 56 16]⟩)], blks := [(1, ⟨rg [(3, 1), (5, 1), (7, 1), (9, 1), (11, 139)], [.ca 36866 14 34359438 56 16]⟩)], conds := [(67, ⟨[69], [.t 67, .ca 36866 14 34359438 56 16]⟩)] }, by kernel_rfl, by kernel_rfl, by kernel_rfl, Nat.le_of_ble_eq_true (by kernel_rfl), by kernel_rfl, Aj4 (by kernel_rfl)⟩
theorem Nz5 : FOK Go.Proofs.Tryz.prog sg Hd4 ⟨2, 0, Gx6⟩ :=
 ⟨Go.Proofs.Tryz.f18, { conds := [(66, ⟨rg [(68, 23)], [.c 32770 15, .c 32770 16]⟩), (77, ⟨[], [.t 77, .c 32770 15, .c 32770 16]⟩), (83, ⟨rg [(85, 6)], [.c 32770 16]⟩), (93, ⟨[94], [.c 32770 2]⟩)] }, by kernel_rfl, by kernel_rfl, by kernel_rfl, Nat.le_of_ble_eq_true (by kernel_rfl), by kernel_rfl, Aj4 (by kernel_rfl)⟩
theorem Nz4 : FOK Go.Proofs.Tryz.prog sg Ds9 ⟨2, 0, Gx5⟩ :=
 ⟨Go.Proofs.Tryz.f19, { loops := [(0, ⟨rg [(4, 1), (11, 15)], [.t 5]⟩)], blks := [(0, ⟨rg [(4, 2), (11, 15)], []⟩)] }, by kernel_rfl, by kernel_rfl, by kernel_rfl, Nat.le_of_ble_eq_true (by kernel_rfl), by kernel_rfl, Aj4 (by kernel_rfl)⟩
theorem Nz3 : FOK Go.Proofs.Tryz.prog sg By3 ⟨2, 0, Gx4⟩ :=
 ⟨Go.Proofs.Tryz.f23, {  }, by kernel_rfl, by kernel_rfl, by kernel_rfl, Nat.le_of_ble_eq_true (by kernel_rfl), by kernel_rfl, Aj4 (by kernel_rfl)⟩
theorem Nz2 : FOK Go.Proofs.Tryz.prog sg Gg2 ⟨1, 0, Gx3⟩ :=
 ⟨Go.Proofs.Tryz.f24, {  }, by kernel_rfl, by kernel_rfl, by kernel_rfl, Nat.le_of_ble_eq_true (by kernel_rfl), by kernel_rfl, Aj4 (by kernel_rfl)⟩
theorem Nz1 : FOK Go.Proofs.Tryz.prog sg Hd1 ⟨1, 0, Gx2⟩ :=
 ⟨Go.Proofs.Tryz.f25, { loops := [(0, ⟨rg [(2, 1), (15, 24)], [.t 3]⟩), (2, ⟨rg [(2, 1), (39, 14)], [.t 4]⟩), (4, ⟨rg [(2, 1), (6, 1), (75, 42)], [.t 5]⟩)], blks := [(0, ⟨rg [(2, 2), (15, 24)], []⟩), (2, ⟨rg [(2, 1), (4, 1), (39, 14)], []⟩), (4, ⟨rg [(2, 1), (5, 2), (75, 42)], []⟩)] }, by kernel_rfl, by kernel_rfl, by kernel_rfl, Nat.le_of_ble_eq_true (by kernel_rfl), by kernel_rfl, Aj4 (by kernel_rfl)⟩
theorem Nz0 : FOK Go.Proofs.Tryz.prog sg Gg1 ⟨2, 0, Gx1⟩ :=
 ⟨Go.Proofs.Tryz.f26, { loops := [(0, ⟨rg [(8, 1), (13, 41)], [.t 6, .t 12]⟩)], blks := [(0, ⟨rg [(8, 1), (12, 42)], [.t 6]⟩)] }, by kernel_rfl, by kernel_rfl, by kernel_rfl, Nat.le_of_ble_eq_true (by kernel_rfl), by kernel_rfl, Aj4 (by kernel_rfl)⟩
theorem Ny9 : FOK Go.Proofs.Tryz.prog sg By2 ⟨3, 0, Gx0⟩ :=
 ⟨Go.Proofs.Tryz.f27, {  }, by kernel_rfl, by kernel_rfl, by kernel_rfl, Nat.le_of_ble_eq_true (by kernel_rfl), by kernel_rfl, Aj4 (by kernel_rfl)⟩
theorem Ny8 : FOK Go.Proofs.Tryz.prog sg Hd0 ⟨2, 0, Gw9⟩ :=
 ⟨Go.Proofs.Tryz.f28, { loops := [(0, ⟨rg [(5, 1), (7, 5), (13, 41)], [.t 6, .c 1 0, .c 1 1, .c 1 2, .c 1 3, .c 1 4]⟩)], blks := [(0, ⟨rg [(5, 7), (13, 41)], [.c 1 0, .c 1 1, .c 1 2, .c 1 3, .c 1 4]⟩)], conds := [(47, ⟨[], [.t 10]⟩)] }, by kernel_rfl, by kernel_rfl, by kernel_rfl, Nat.le_of_ble_eq_true (by kernel_rfl), by kernel_rfl, Aj4 (by kernel_rfl)⟩
theorem Ny7 : FOK Go.Proofs.Tryz.prog sg Hc9 ⟨2, 0, Gw8⟩ :=
 ⟨Go.Proofs.Tryz.f29, {  }, by kernel_rfl, by kernel_rfl, by kernel_rfl, Nat.le_of_ble_eq_true (by kernel_rfl), by kernel_rfl, Aj4 (by kernel_rfl)⟩
theorem Ny6 : FOK Go.Proofs.Tryz.prog sg Gg0 ⟨2, 0, Gw7⟩ :=
 ⟨Go.Proofs.Tryz.f30, {  }, by kernel_rfl, by kernel_rfl, by kernel_rfl, Nat.le_of_ble_eq_true (by kernel_rfl), by kernel_rfl, Aj4 (by kernel_rfl)⟩
theorem Ny5 : FOK Go.Proofs.Tryz.prog sg Gf9 ⟨2, 0, Gw6⟩ :=
 ⟨Go.Proofs.Tryz.f31, { loops := [(0, ⟨rg [(2, 1), (4, 1), (7, 2), (12, 13)], [.ta 5 16000005 56 16, .t 11]⟩)], blks := [(0, ⟨rg [(2, 1), (4, 1), (7, 18)], [.ta 5 16000005 56 16]⟩)] }, by kernel_rfl, by kernel_rfl, by kernel_rfl, Nat.le_of_ble_eq_true (by kernel_rfl), by kernel_rfl, Aj4 (by kernel_rfl)⟩
theorem Ny4 : FOK Go.Proofs.Tryz.prog sg Hc8 ⟨2, 0, Gw5⟩ :=
 ⟨Go.Proofs.Tryz.f32, { own := [20482], loops := [(0, ⟨rg [(2, 1), (5, 3), (10, 29), (41, 17)], [.ta 9 16000009 56 16, .t 40]⟩)], blks := [(0, ⟨rg [(2, 1), (5, 3), (10, 48)], [.ta 9 16000009 56 16]⟩)] }, by kernel_rfl, by kernel_rfl, by kernel_rfl, Nat.le_of_ble_eq_true (by kernel_rfl), by kernel_rfl, Aj4 (by kernel_rfl)⟩
theorem Ny3 : FOK Go.Proofs.Tryz.prog sg By1 ⟨2, 0, Gw4⟩ :=
 ⟨Go.Proofs.Tryz.f33, {  }, by kernel_rfl, by kernel_rfl, by kernel_rfl, Nat.le_of_ble_eq_true (by kernel_rfl), by kernel_rfl, Aj4 (by kernel_rfl)⟩
theorem Ny2 : FOK Go.Proofs.Tryz.prog sg Ds8 ⟨2, 0, Gw3⟩ :=
 ⟨Go.Proofs.Tryz.f34, { loops := [(0, ⟨rg [(8, 43)], [.t 6, .t 7]⟩)], blks := [(0, ⟨rg [(7, 44)], [.t 6]⟩)] }, by kernel_rfl, by kernel_rfl, by kernel_rfl, Nat.le_of_ble_eq_true (by kernel_rfl), by kernel_rfl, Aj4 (by kernel_rfl)⟩
theorem Ny1 : FOK Go.Proofs.Tryz.prog sg Bv9 ⟨3, 0, Gw2⟩ :=
 ⟨Go.Proofs.Tryz.f35, {  }, by kernel_rfl, by kernel_rfl, by kernel_rfl, Nat.le_of_ble_eq_true (by kernel_rfl), by kernel_rfl, Aj4 (by kernel_rfl)⟩
theorem Ny0 : FOK Go.Proofs.Tryz.prog sg Hc7 ⟨2, 0, Gw1⟩ :=
 ⟨Go.Proofs.Tryz.f36, { loops := [(0, ⟨rg [(4, 2), (7, 26)], [.t 1, .t 6]⟩)], blks := [(0, ⟨rg [(1, 1), (4, 29)], []⟩)] }, by kernel_rfl, by kernel_rfl, by kernel_rfl, Nat.le_of_ble_eq_true (by kernel_rfl), by kernel_rfl, Aj4 (by kernel_rfl)⟩
theorem Nx9 : FOK Go.Proofs.Tryz.prog sg Hc6 ⟨3, 0, Gw0⟩ :=
 ⟨Go.Proofs.Tryz.f37, {  }, by kernel_rfl, by kernel_rfl, by kernel_rfl, Nat.le_of_ble_eq_true (by kernel_rfl), by kernel_rfl, Aj4 (by kernel_rfl)⟩
theorem Nx8 : FOK Go.Proofs.Tryz.prog sg Hc5 ⟨2, 0, Gv9⟩ :=
 ⟨Go.Proofs.Tryz.f38, { loops := [(0, ⟨rg [(4, 1), (9, 12)], [.t 6]⟩)], blks := [(0, ⟨rg [(4, 1), (6, 1), (9, 12)], []⟩)] }, by kernel_rfl, by kernel_rfl, by kernel_rfl, Nat.le_of_ble_eq_true (by kernel_rfl), by kernel_rfl, Aj4 (by kernel_rfl)⟩
theorem Nx7 : FOK Go.Proofs.Tryz.prog sg Gf8 ⟨2, 0, Gv8⟩ :=
 ⟨Go.Proofs.Tryz.f39, { loops := [(0, ⟨rg [(7, 64)], [.ta 5 16000005 56 16, .t 6, .c 0 0, .c 0 1, .c 0 2, .c 0 3, .c 0 4]⟩)], blks := [(0, ⟨rg [(6, 65)], [.ta 5 16000005 56 16, .c 0 0, .c 0 1, .c 0 2, .c 0 3, .c 0 4]⟩)] }, by kernel_rfl, by kernel_rfl, by kernel_rfl, Nat.le_of_ble_eq_true (by kernel_rfl), by kernel_rfl, Aj4 (by kernel_rfl)⟩
theorem Nx6 : FOK Go.Proofs.Tryz.prog sg Gf7 ⟨2, 0, Gv7⟩ :=
 ⟨Go.Proofs.Tryz.f40, { loops := [(0, ⟨rg [(4, 1), (7, 24)], [.ta 5 16000005 56 16, .t 6]⟩)], blks := [(0, ⟨rg [(2, 1), (4, 1), (6, 25)], [.ta 5 16000005 56 16]⟩)] }, by kernel_rfl, by kernel_rfl, by kernel_rfl, Nat.le_of_ble_eq_true (by kernel_rfl), by kernel_rfl, Aj4 (by kernel_rfl)⟩
theorem Nx5 : FOK Go.Proofs.Tryz.prog sg Hc4 ⟨2, 0, Gv6⟩ :=
 ⟨Go.Proofs.Tryz.f41, { loops := [(0, ⟨rg [(11, 32)], [.t 6, .t 8]⟩)], blks := [(0, ⟨rg [(8, 1), (11, 32)], [.t 6]⟩)] }, by kernel_rfl, by kernel_rfl, by kernel_rfl, Nat.le_of_ble_eq_true (by kernel_rfl), by kernel_rfl, Aj4 (by kernel_rfl)⟩
theorem Nx4 : FOK Go.Proofs.Tryz.prog sg Hc3 ⟨1, 0, Gv5⟩ :=
 ⟨Go.Proofs.Tryz.f42, { conds := [(26, ⟨[27, 28], [.t 6]⟩)] }, by kernel_rfl, by kernel_rfl, by kernel_rfl, Nat.le_of_ble_eq_true (by kernel_rfl), by kernel_rfl, Aj4 (by kernel_rfl)⟩
theorem Nx3 : FOK Go.Proofs.Tryz.prog sg Cy6 ⟨2, 0, Gv4⟩ :=
 ⟨Go.Proofs.Tryz.f43, {  }, by kernel_rfl, by kernel_rfl, by kernel_rfl, Nat.le_of_ble_eq_true (by kernel_rfl), by kernel_rfl, Aj4 (by kernel_rfl)⟩
theorem Nx2 : FOK Go.Proofs.Tryz.prog sg Hc2 ⟨1, 0, Gv3⟩ :=
 ⟨Go.Proofs.Tryz.f44, {  }, by kernel_rfl, by kernel_rfl, by kernel_rfl, Nat.le_of_ble_eq_true (by kernel_rfl), by kernel_rfl, Aj4 (by kernel_rfl)⟩
theorem Nx1 : FOK Go.Proofs.Tryz.prog sg Dc5 ⟨2, 0, Gv2⟩ :=
 ⟨Go.Proofs.Tryz.f45, { own := [4109] }, by kernel_rfl, by kernel_rfl, by kernel_rfl, Nat.le_of_ble_eq_true (by kernel_rfl), by kernel_rfl, Aj4 (by kernel_rfl)⟩
theorem Nx0 : FOK Go.Proofs.Tryz.prog sg Hc1 ⟨2, 0, Gv1⟩ :=
 ⟨Go.Proofs.Tryz.f46, { loops := [(0, ⟨rg [(4, 1), (7, 3), (13, 22)], [.ta 5 16000005 56 16, .t 12]⟩)], blks := [(0, ⟨rg [(2, 1), (4, 1), (7, 28)], [.ta 5 16000005 56 16]⟩)] }, by kernel_rfl, by kernel_rfl, by kernel_rfl, Nat.le_of_ble_eq_true (by kernel_rfl), by kernel_rfl, Aj4 (by kernel_rfl)⟩
theorem Nw9 : FOK Go.Proofs.Tryz.prog sg Gf6 ⟨1, 0, Gv0⟩ :=
 ⟨Go.Proofs.Tryz.f47, { loops := [(0, ⟨rg [(2, 1), (5, 2), (10, 33)], [.ta 3 16000003 9 1, .t 9]⟩)], blks := [(0, ⟨rg [(2, 1), (5, 38)], [.ta 3 16000003 9 1]⟩)] }, by kernel_rfl, by kernel_rfl, by kernel_rfl, Nat.le_of_ble_eq_true (by kernel_rfl), by kernel_rfl, Aj4 (by kernel_rfl)⟩
theorem Nw8 : FOK Go.Proofs.Tryz.prog sg Hc0 ⟨2, 0, Gq9⟩ :=
 ⟨Go.Proofs.Tryz.f48, { loops := [(0, ⟨rg [(4, 1), (7, 1), (11, 15)], [.ta 5 16000005 56 16, .t 10]⟩)], blks := [(0, ⟨rg [(2, 1), (4, 1), (7, 19)], [.ta 5 16000005 56 16]⟩)] }, by kernel_rfl, by kernel_rfl, by kernel_rfl, Nat.le_of_ble_eq_true (by kernel_rfl), by kernel_rfl, Aj4 (by kernel_rfl)⟩
theorem Nw7 : FOK Go.Proofs.Tryz.prog sg Dc4 ⟨2, 0, Gq8⟩ :=
 ⟨Go.Proofs.Tryz.f49, {  }, by kernel_rfl, by kernel_rfl, by kernel_rfl, Nat.le_of_ble_eq_true (by kernel_rfl), by kernel_rfl, Aj4 (by kernel_rfl)⟩
theorem Nw6 : FOK Go.Proofs.Tryz.prog sg Hb9 ⟨2, 0, Gq7⟩ :=
 ⟨Go.Proofs.Tryz.f50, { loops := [(0, ⟨rg [(4, 1), (7, 74)], [.t 1, .ta 5 16000005 56 16, .t 6]⟩)], blks := [(0, ⟨rg [(1, 1), (4, 1), (6, 75)], [.ta 5 16000005 56 16]⟩)], conds := [(34, ⟨rg [(4, 1), (7, 74)], [.ta 5 16000005 56 16]⟩), (55, ⟨rg [(1, 1), (4, 1), (7, 74)], [.ta 5 16000005 56 16]⟩)] }, by kernel_rfl, by kernel_rfl, by kernel_rfl, Nat.le_of_ble_eq_true (by kernel_rfl), by kernel_rfl, Aj4 (by kernel_rfl)⟩
theorem Nw5 : FOK Go.Proofs.Tryz.prog sg Hb8 ⟨2, 0, Gq6⟩ :=
 ⟨Go.Proofs.Tryz.f51, { loops := [(0, ⟨rg [(4, 1), (7, 35)], [.ta 5 16000005 56 16, .t 6]⟩)], blks := [(0, ⟨rg [(2, 1), (4, 1), (6, 36)], [.ta 5 16000005 56 16]⟩)] }, by kernel_rfl, by kernel_rfl, by kernel_rfl, Nat.le_of_ble_eq_true (by kernel_rfl), by kernel_rfl, Aj4 (by kernel_rfl)⟩
theorem Nw4 : FOK Go.Proofs.Tryz.prog sg Gf5 ⟨1, 0, Gq5⟩ :=
 ⟨Go.Proofs.Tryz.f52, { loops := [(0, ⟨rg [(2, 1), (5, 56)], [.ta 3 16000003 9 1, .t 4]⟩), (2, ⟨rg [(29, 20)], [.t 6, .t 7]⟩)], blks := [(0, ⟨rg [(2, 1), (4, 57)], [.ta 3 16000003 9 1]⟩), (2, ⟨rg [(7, 1), (29, 20)], [.t 6]⟩)] }, by kernel_rfl, by kernel_rfl, by kernel_rfl, Nat.le_of_ble_eq_true (by kernel_rfl), by kernel_rfl, Aj4 (by kernel_rfl)⟩
theorem Nw3 : FOK Go.Proofs.Tryz.prog sg Hb7 ⟨1, 0, Gq4⟩ :=
 ⟨Go.Proofs.Tryz.f53, {  }, by kernel_rfl, by kernel_rfl, by kernel_rfl, Nat.le_of_ble_eq_true (by kernel_rfl), by kernel_rfl, Aj4 (by kernel_rfl)⟩
theorem Nw2 : FOK Go.Proofs.Tryz.prog sg Hb6 ⟨2, 0, Gq3⟩ :=
 ⟨Go.Proofs.Tryz.f54, { loops := [(0, ⟨rg [(4, 1), (7, 23)], [.ta 5 16000005 56 16, .t 6]⟩)], blks := [(0, ⟨rg [(2, 1), (4, 1), (6, 24)], [.ta 5 16000005 56 16]⟩)] }, by kernel_rfl, by kernel_rfl, by kernel_rfl, Nat.le_of_ble_eq_true (by kernel_rfl), by kernel_rfl, Aj4 (by kernel_rfl)⟩
theorem Nw1 : FOK Go.Proofs.Tryz.prog sg As5 ⟨1, 0, Gq2⟩ :=
 ⟨Go.Proofs.Tryz.f55, { loops := [(0, ⟨rg [(2, 3), (23, 16)], [.t 22]⟩)], blks := [(0, ⟨rg [(2, 3), (22, 17)], []⟩)] }, by kernel_rfl, by kernel_rfl, by kernel_rfl, Nat.le_of_ble_eq_true (by kernel_rfl), by kernel_rfl, Aj4 (by kernel_rfl)⟩
theorem Nw0 : FOK Go.Proofs.Tryz.prog sg Gf4 ⟨2, 0, Gq1⟩ :=
 ⟨Go.Proofs.Tryz.f65, {  }, by kernel_rfl, by kernel_rfl, by kernel_rfl, Nat.le_of_ble_eq_true (by kernel_rfl), by kernel_rfl, Aj4 (by kernel_rfl)⟩
theorem Nv9 : FOK Go.Proofs.Tryz.prog sg Bm0 ⟨1, 0, Gq0⟩ :=
 ⟨Go.Proofs.Tryz.f66, {  }, by kernel_rfl, by kernel_rfl, by kernel_rfl, Nat.le_of_ble_eq_true (by kernel_rfl), by kernel_rfl, Aj4 (by kernel_rfl)⟩
theorem Nv8 : FOK Go.Proofs.Tryz.prog sg Dc3 ⟨3, 0, Gk9⟩ :=
 ⟨Go.Proofs.Tryz.f67, { loops := [(0, ⟨rg [(6, 1), (9, 30)], [.ta 7 16000007 56 16, .t 8]⟩)], blks := [(0, ⟨rg [(6, 1), (8, 31)], [.ta 7 16000007 56 16]⟩)] }, by kernel_rfl, by kernel_rfl, by kernel_rfl, Nat.le_of_ble_eq_true (by kernel_rfl), by kernel_rfl, Aj4 (by kernel_rfl)⟩
theorem Nv7 : FOK Go.Proofs.Tryz.prog sg Hb5 ⟨1, 0, Gk8⟩ :=
 ⟨Go.Proofs.Tryz.f68, {  }, by kernel_rfl, by kernel_rfl, by kernel_rfl, Nat.le_of_ble_eq_true (by kernel_rfl), by kernel_rfl, Aj4 (by kernel_rfl)⟩
theorem Nv6 : FOK Go.Proofs.Tryz.prog sg Hb4 ⟨2, 0, Gk7⟩ :=
 ⟨Go.Proofs.Tryz.f69, { loops := [(0, ⟨rg [(4, 1), (11, 15)], [.t 5]⟩)], blks := [(0, ⟨rg [(4, 2), (11, 15)], []⟩)] }, by kernel_rfl, by kernel_rfl, by kernel_rfl, Nat.le_of_ble_eq_true (by kernel_rfl), by kernel_rfl, Aj4 (by kernel_rfl)⟩
theorem Nv5 : FOK Go.Proofs.Tryz.prog sg Hb3 ⟨1, 0, Gk6⟩ :=
 ⟨Go.Proofs.Tryz.f70, { loops := [(0, ⟨rg [(2, 1), (5, 79)], [.ta 3 16000003 56 16, .t 4]⟩), (2, ⟨rg [(13, 18)], [.t 5]⟩)], blks := [(0, ⟨rg [(2, 1), (4, 80)], [.ta 3 16000003 56 16]⟩), (2, ⟨rg [(13, 18)], [.t 5]⟩)], conds := [(57, ⟨rg [(2, 1), (5, 79)], [.ta 3 16000003 56 16]⟩)] }, by kernel_rfl, by kernel_rfl, by kernel_rfl, Nat.le_of_ble_eq_true (by kernel_rfl), by kernel_rfl, Aj4 (by kernel_rfl)⟩
theorem Nv4 : FOK Go.Proofs.Tryz.prog sg Gf3 ⟨3, 0, Gk5⟩ :=
 ⟨Go.Proofs.Tryz.f71, {  }, by kernel_rfl, by kernel_rfl, by kernel_rfl, Nat.le_of_ble_eq_true (by kernel_rfl), by kernel_rfl, Aj4 (by kernel_rfl)⟩
theorem Nv3 : FOK Go.Proofs.Tryz.prog sg Hb2 ⟨2, 0, Gk4⟩ :=
 ⟨Go.Proofs.Tryz.f72, { loops := [(0, ⟨rg [(4, 1), (6, 68)], [.t 5]⟩)], blks := [(0, ⟨rg [(4, 70)], []⟩)] }, by kernel_rfl, by kernel_rfl, by kernel_rfl, Nat.le_of_ble_eq_true (by kernel_rfl), by kernel_rfl, Aj4 (by kernel_rfl)⟩
theorem Nv2 : FOK Go.Proofs.Tryz.prog sg Hb1 ⟨2, 0, Gk3⟩ :=
 ⟨Go.Proofs.Tryz.f73, { loops := [(0, ⟨rg [(4, 1), (7, 1), (30, 49)], [.t 6]⟩)], blks := [(0, ⟨rg [(4, 1), (6, 2), (30, 49)], []⟩)] }, by kernel_rfl, by kernel_rfl, by kernel_rfl, Nat.le_of_ble_eq_true (by kernel_rfl), by kernel_rfl, Aj4 (by kernel_rfl)⟩
theorem Nv1 : FOK Go.Proofs.Tryz.prog sg Hb0 ⟨3, 0, Gk2⟩ :=
 ⟨Go.Proofs.Tryz.f74, { loops := [(0, ⟨rg [(6, 1), (9, 1), (13, 19)], [.ta 7 16000007 56 16, .t 12]⟩)], blks := [(0, ⟨rg [(6, 1), (9, 23)], [.ta 7 16000007 56 16]⟩)] }, by kernel_rfl, by kernel_rfl, by kernel_rfl, Nat.le_of_ble_eq_true (by kernel_rfl), by kernel_rfl, Aj4 (by kernel_rfl)⟩
theorem Nv0 : FOK Go.Proofs.Tryz.prog sg Ds7 ⟨1, 0, Gk1⟩ :=
 ⟨Go.Proofs.Tryz.f75, {  }, by kernel_rfl, by kernel_rfl, by kernel_rfl, Nat.le_of_ble_eq_true (by kernel_rfl), by kernel_rfl, Aj4 (by kernel_rfl)⟩
theorem Nq9 : FOK Go.Proofs.Tryz.prog sg Hz9 ⟨3, 0, Gk0⟩ :=
 ⟨Go.Proofs.Tryz.f76, { conds := [(39, ⟨[40, 41, 42], [.t 8]⟩), (47, ⟨[48], [.t 9]⟩)] }, by kernel_rfl, by kernel_rfl, by kernel_rfl, Nat.le_of_ble_eq_true (by kernel_rfl), by kernel_rfl, Aj4 (by kernel_rfl)⟩
theorem Nq8 : FOK Go.Proofs.Tryz.prog sg Gf2 ⟨1, 0, Gj9⟩ :=
 ⟨Go.Proofs.Tryz.f77, { loops := [(0, ⟨rg [(2, 1), (6, 7), (16, 33)], [.ta 3 16000003 9 1, .t 15]⟩), (2, ⟨rg [(2, 1), (6, 2), (9, 4), (16, 33)], [.ta 3 16000003 9 1, .t 8]⟩)], blks := [(0, ⟨rg [(1, 2), (4, 1), (6, 43)], [.ta 3 16000003 9 1]⟩), (2, ⟨rg [(2, 1), (6, 7), (16, 33)], [.ta 3 16000003 9 1]⟩)] }, by kernel_rfl, by kernel_rfl, by kernel_rfl, Nat.le_of_ble_eq_true (by kernel_rfl), by kernel_rfl, Aj4 (by kernel_rfl)⟩
theorem Nq7 : FOK Go.Proofs.Tryz.prog sg Gf1 ⟨2, 0, Gj8⟩ :=
 ⟨Go.Proofs.Tryz.f78, { own := [12289] }, by kernel_rfl, by kernel_rfl, by kernel_rfl, Nat.le_of_ble_eq_true (by kernel_rfl), by kernel_rfl, Aj4 (by kernel_rfl)⟩
theorem Nq6 : FOK Go.Proofs.Tryz.prog sg Hz8 ⟨1, 0, Gj7⟩ :=
 ⟨Go.Proofs.Tryz.f79, {  }, by kernel_rfl, by kernel_rfl, by kernel_rfl, Nat.le_of_ble_eq_true (by kernel_rfl), by kernel_rfl, Aj4 (by kernel_rfl)⟩
theorem Nq5 : FOK Go.Proofs.Tryz.prog sg Hz7 ⟨2, 0, Gj6⟩ :=
 ⟨Go.Proofs.Tryz.f80, { loops := [(0, ⟨rg [(4, 2), (14, 13)], [.t 1]⟩)], blks := [(0, ⟨rg [(4, 2), (14, 13)], [.t 1]⟩)] }, by kernel_rfl, by kernel_rfl, by kernel_rfl, Nat.le_of_ble_eq_true (by kernel_rfl), by kernel_rfl, Aj4 (by kernel_rfl)⟩
theorem Nq4 : FOK Go.Proofs.Tryz.prog sg Hz6 ⟨1, 0, Gj5⟩ :=
 ⟨Go.Proofs.Tryz.f81, { conds := [(8, ⟨[], [.t 4]⟩)] }, by kernel_rfl, by kernel_rfl, by kernel_rfl, Nat.le_of_ble_eq_true (by kernel_rfl), by kernel_rfl, Aj4 (by kernel_rfl)⟩
theorem Nq3 : FOK Go.Proofs.Tryz.prog sg As4 ⟨1, 0, Gj4⟩ :=
 ⟨Go.Proofs.Tryz.f82, { loops := [(0, ⟨rg [(2, 2), (7, 51)], [.ta 4 16000004 9 1, .t 5, .t 6]⟩)], blks := [(0, ⟨rg [(2, 2), (5, 53)], [.ta 4 16000004 9 1]⟩)] }, by kernel_rfl, by kernel_rfl, by kernel_rfl, Nat.le_of_ble_eq_true (by kernel_rfl), by kernel_rfl, Aj4 (by kernel_rfl)⟩
theorem Nq2 : FOK Go.Proofs.Tryz.prog sg Gf0 ⟨2, 0, Gj3⟩ :=
 ⟨Go.Proofs.Tryz.f83, { loops := [(0, ⟨rg [(6, 31)], [.t 5]⟩)], blks := [(0, ⟨rg [(6, 31)], [.t 5]⟩)] }, by kernel_rfl, by kernel_rfl, by kernel_rfl, Nat.le_of_ble_eq_true (by kernel_rfl), by kernel_rfl, Aj4 (by kernel_rfl)⟩
theorem Nq1 : FOK Go.Proofs.Tryz.prog sg Cy5 ⟨2, 0, Gj2⟩ :=
 ⟨Go.Proofs.Tryz.f84, {  }, by kernel_rfl, by kernel_rfl, by kernel_rfl, Nat.le_of_ble_eq_true (by kernel_rfl), by kernel_rfl, Aj4 (by kernel_rfl)⟩
theorem Nq0 : FOK Go.Proofs.Tryz.prog sg Bl9 ⟨1, 0, Gj1⟩ :=
 ⟨Go.Proofs.Tryz.f85, {  }, by kernel_rfl, by kernel_rfl, by kernel_rfl, Nat.le_of_ble_eq_true (by kernel_rfl), by kernel_rfl, Aj4 (by kernel_rfl)⟩
theorem Nk9 : FOK Go.Proofs.Tryz.prog sg Gd9 ⟨1, 0, Gj0⟩ :=
 ⟨Go.Proofs.Tryz.f86, {  }, by kernel_rfl, by kernel_rfl, by kernel_rfl, Nat.le_of_ble_eq_true (by kernel_rfl), by kernel_rfl, Aj4 (by kernel_rfl)⟩
theorem Nk8 : FOK Go.Proofs.Tryz.prog sg Gd8 ⟨1, 0, Ft9⟩ :=
 ⟨Go.Proofs.Tryz.f87, { loops := [(0, ⟨rg [(8, 13)], [.t 3, .t 4]⟩)], blks := [(0, ⟨rg [(4, 1), (8, 13)], [.t 3]⟩)] }, by kernel_rfl, by kernel_rfl, by kernel_rfl, Nat.le_of_ble_eq_true (by kernel_rfl), by kernel_rfl, Aj4 (by kernel_rfl)⟩
theorem Nk7 : FOK Go.Proofs.Tryz.prog sg Gd7 ⟨1, 0, Ft8⟩ :=
 ⟨Go.Proofs.Tryz.f88, { loops := [(0, ⟨rg [(2, 1), (5, 56)], [.ta 3 16000003 56 16, .t 4]⟩), (2, ⟨rg [(2, 1), (6, 2), (9, 52)], [.ta 3 16000003 56 16, .t 5, .t 8]⟩)], blks := [(0, ⟨rg [(1, 2), (4, 57)], [.ta 3 16000003 56 16]⟩), (2, ⟨rg [(2, 1), (5, 56)], [.ta 3 16000003 56 16]⟩)] }, by kernel_rfl, by kernel_rfl, by kernel_rfl, Nat.le_of_ble_eq_true (by kernel_rfl), by kernel_rfl, Aj4 (by kernel_rfl)⟩
theorem Nk6 : FOK Go.Proofs.Tryz.prog sg Hz5 ⟨2, 0, Ft7⟩ :=
 ⟨Go.Proofs.Tryz.f89, { loops := [(0, ⟨rg [(4, 2), (9, 10)], [.t 8]⟩)], blks := [(0, ⟨rg [(4, 2), (8, 11)], []⟩)] }, by kernel_rfl, by kernel_rfl, by kernel_rfl, Nat.le_of_ble_eq_true (by kernel_rfl), by kernel_rfl, Aj4 (by kernel_rfl)⟩
theorem Nk5 : FOK Go.Proofs.Tryz.prog sg Gd6 ⟨2, 0, Ft6⟩ :=
 ⟨Go.Proofs.Tryz.f90, {  }, by kernel_rfl, by kernel_rfl, by kernel_rfl, Nat.le_of_ble_eq_true (by kernel_rfl), by kernel_rfl, Aj4 (by kernel_rfl)⟩
theorem Nk4 : FOK Go.Proofs.Tryz.prog sg Gd5 ⟨2, 0, Ft5⟩ :=
 ⟨Go.Proofs.Tryz.f91, {  }, by kernel_rfl, by kernel_rfl, by kernel_rfl, Nat.le_of_ble_eq_true (by kernel_rfl), by kernel_rfl, Aj4 (by kernel_rfl)⟩
theorem Nk3 : FOK Go.Proofs.Tryz.prog sg Hz4 ⟨1, 0, Ft4⟩ :=
 ⟨Go.Proofs.Tryz.f92, { loops := [(0, ⟨rg [(2, 3), (15, 28)], [.t 14]⟩)], blks := [(0, ⟨rg [(2, 3), (14, 29)], []⟩)] }, by kernel_rfl, by kernel_rfl, by kernel_rfl, Nat.le_of_ble_eq_true (by kernel_rfl), by kernel_rfl, Aj4 (by kernel_rfl)⟩
theorem Nk2 : FOK Go.Proofs.Tryz.prog sg Gd4 ⟨2, 0, Ft3⟩ :=
 ⟨Go.Proofs.Tryz.f95, { loops := [(0, ⟨rg [(4, 2), (9, 10)], [.t 8]⟩)], blks := [(0, ⟨rg [(4, 2), (8, 11)], []⟩)] }, by kernel_rfl, by kernel_rfl, by kernel_rfl, Nat.le_of_ble_eq_true (by kernel_rfl), by kernel_rfl, Aj4 (by kernel_rfl)⟩
theorem Nk1 : FOK Go.Proofs.Tryz.prog sg Hz3 ⟨1, 0, Ft2⟩ :=
 ⟨Go.Proofs.Tryz.f98, {  }, by kernel_rfl, by kernel_rfl, by kernel_rfl, Nat.le_of_ble_eq_true (by kernel_rfl), by kernel_rfl, Aj4 (by kernel_rfl)⟩
theorem Mb1 : FOK Go.Proofs.Tryz.prog sg Bj8 ⟨1, 0, Bt1⟩ :=
 ⟨Go.Proofs.Tryz.f107, {  }, by kernel_rfl, by kernel_rfl, by kernel_rfl, Nat.le_of_ble_eq_true (by kernel_rfl), by kernel_rfl, Aj4 (by kernel_rfl)⟩
theorem Mb0 : FOK Go.Proofs.Tryz.prog sg Ck7 ⟨2, 0, Bt0⟩ :=
 ⟨Go.Proofs.Tryz.f108, {  }, by kernel_rfl, by kernel_rfl, by kernel_rfl, Nat.le_of_ble_eq_true (by kernel_rfl), by kernel_rfl, Aj4 (by kernel_rfl)⟩
theorem Mz9 : FOK Go.Proofs.Tryz.prog sg Ck6 ⟨2, 0, Bs9⟩ :=
 ⟨Go.Proofs.Tryz.f109, {  }, by kernel_rfl, by kernel_rfl, by kernel_rfl, Nat.le_of_ble_eq_true (by kernel_rfl), by kernel_rfl, Aj4 (by kernel_rfl)⟩
theorem Mz8 : FOK Go.Proofs.Tryz.prog sg Df8 ⟨1, 0, Bs8⟩ :=
 ⟨Go.Proofs.Tryz.f110, {  }, by kernel_rfl, by kernel_rfl, by kernel_rfl, Nat.le_of_ble_eq_true (by kernel_rfl), by kernel_rfl, Aj4 (by kernel_rfl)⟩
theorem Mz7 : FOK Go.Proofs.Tryz.prog sg Df7 ⟨2, 0, Bs7⟩ :=
 ⟨Go.Proofs.Tryz.f111, {  }, by kernel_rfl, by kernel_rfl, by kernel_rfl, Nat.le_of_ble_eq_true (by kernel_rfl), by kernel_rfl, Aj4 (by kernel_rfl)⟩
theorem Mz6 : FOK Go.Proofs.Tryz.prog sg Df6 ⟨2, 0, Bs6⟩ :=
 ⟨Go.Proofs.Tryz.f112, {  }, by kernel_rfl, by kernel_rfl, by kernel_rfl, Nat.le_of_ble_eq_true (by kernel_rfl), by kernel_rfl, Aj4 (by kernel_rfl)⟩
theorem Mz5 : FOK Go.Proofs.Tryz.prog sg Df5 ⟨1, 0, Bs5⟩ :=
 ⟨Go.Proofs.Tryz.f113, { loops := [(0, ⟨rg [(2, 1), (5, 2), (10, 30)], [.ta 3 16000003 9 1, .t 9]⟩)], blks := [(0, ⟨rg [(1, 2), (5, 35)], [.ta 3 16000003 9 1]⟩)] }, by kernel_rfl, by kernel_rfl, by kernel_rfl, Nat.le_of_ble_eq_true (by kernel_rfl), by kernel_rfl, Aj4 (by kernel_rfl)⟩
theorem Mz4 : FOK Go.Proofs.Tryz.prog sg Df4 ⟨1, 0, Bs4⟩ :=
 ⟨Go.Proofs.Tryz.f114, { loops := [(0, ⟨rg [(2, 1), (5, 1), (9, 13)], [.ta 3 16000003 9 1, .t 8]⟩)], blks := [(0, ⟨rg [(2, 1), (5, 17)], [.ta 3 16000003 9 1]⟩)] }, by kernel_rfl, by kernel_rfl, by kernel_rfl, Nat.le_of_ble_eq_true (by kernel_rfl), by kernel_rfl, Aj4 (by kernel_rfl)⟩
theorem Mz3 : FOK Go.Proofs.Tryz.prog sg Ck5 ⟨1, 1, Bs3⟩ :=
 ⟨Go.Proofs.Tryz.f115, {  }, by kernel_rfl, by kernel_rfl, by kernel_rfl, Nat.le_of_ble_eq_true (by kernel_rfl), by kernel_rfl, Aj4 (by kernel_rfl)⟩
theorem Mz2 : FOK Go.Proofs.Tryz.prog sg Df3 ⟨2, 0, Bs2⟩ :=
 ⟨Go.Proofs.Tryz.f116, {  }, by kernel_rfl, by kernel_rfl, by kernel_rfl, Nat.le_of_ble_eq_true (by kernel_rfl), by kernel_rfl, Aj4 (by kernel_rfl)⟩
theorem Mz1 : FOK Go.Proofs.Tryz.prog sg Al0 ⟨2, 0, Bs1⟩ :=
 ⟨Go.Proofs.Tryz.f118, { loops := [(1, ⟨rg [(4, 1), (10, 1), (37, 30)], [.t 9]⟩)], blks := [(1, ⟨rg [(4, 1), (9, 2), (37, 30)], []⟩)] }, by kernel_rfl, by kernel_rfl, by kernel_rfl, Nat.le_of_ble_eq_true (by kernel_rfl), by kernel_rfl, Aj4 (by kernel_rfl)⟩
theorem Mz0 : FOK Go.Proofs.Tryz.prog sg Bf5 ⟨1048577, 0, Bs0⟩ :=
 ⟨Go.Proofs.Tryz.f119, { own := [28674, 57346, 61442], loops := [(0, ⟨rg [(2, 1), (4, 2), (10, 50)], [.t 3, .ac 987654321 9 1]⟩), (2, ⟨rg [(29, 25)], [.t 3, .t 5, .ac 987654321 9 1]⟩)], blks := [(0, ⟨rg [(2, 4), (10, 50)], [.ac 987654321 9 1]⟩), (2, ⟨rg [(5, 1), (29, 25)], [.t 3, .ac 987654321 9 1]⟩)] }, by kernel_rfl, by kernel_rfl, by kernel_rfl, Nat.le_of_ble_eq_true (by kernel_rfl), by kernel_rfl, Aj4 (by kernel_rfl)⟩
theorem My9 : FOK Go.Proofs.Tryz.prog sg Df2 ⟨1048578, 0, Br9⟩ :=
 ⟨Go.Proofs.Tryz.f120, { own := [45058, 49154], loops := [(0, ⟨rg [(7, 1), (16, 20)], [.t 5, .t 6, .ac 987654321 56 16]⟩)], blks := [(0, ⟨rg [(6, 2), (16, 20)], [.t 5, .ac 987654321 56 16]⟩)] }, by kernel_rfl, by kernel_rfl, by kernel_rfl, Nat.le_of_ble_eq_true (by kernel_rfl), by kernel_rfl, Aj4 (by kernel_rfl)⟩
theorem My8 : FOK Go.Proofs.Tryz.prog sg Ck4 ⟨1, 1, Br8⟩ :=
 ⟨Go.Proofs.Tryz.f121, {  }, by kernel_rfl, by kernel_rfl, by kernel_rfl, Nat.le_of_ble_eq_true (by kernel_rfl), by kernel_rfl, Aj4 (by kernel_rfl)⟩
theorem My7 : FOK Go.Proofs.Tryz.prog sg Df1 ⟨1, 0, Br7⟩ :=
 ⟨Go.Proofs.Tryz.f122, { loops := [(0, ⟨rg [(2, 1), (4, 1), (15, 32)], [.t 3]⟩)], blks := [(0, ⟨rg [(2, 3), (15, 32)], []⟩)] }, by kernel_rfl, by kernel_rfl, by kernel_rfl, Nat.le_of_ble_eq_true (by kernel_rfl), by kernel_rfl, Aj4 (by kernel_rfl)⟩
theorem My6 : FOK Go.Proofs.Tryz.prog sg Df0 ⟨1, 0, Br6⟩ :=
 ⟨Go.Proofs.Tryz.f123, { loops := [(0, ⟨rg [(2, 1), (5, 63)], [.ta 3 16000003 9 1, .t 4]⟩), (2, ⟨rg [(13, 19)], [.t 5]⟩)], blks := [(0, ⟨rg [(2, 1), (4, 64)], [.ta 3 16000003 9 1]⟩), (2, ⟨rg [(13, 19)], [.t 5]⟩)] }, by kernel_rfl, by kernel_rfl, by kernel_rfl, Nat.le_of_ble_eq_true (by kernel_rfl), by kernel_rfl, Aj4 (by kernel_rfl)⟩
theorem My5 : FOK Go.Proofs.Tryz.prog sg Ck3 ⟨2, 0, Br5⟩ :=
 ⟨Go.Proofs.Tryz.f124, {  }, by kernel_rfl, by kernel_rfl, by kernel_rfl, Nat.le_of_ble_eq_true (by kernel_rfl), by kernel_rfl, Aj4 (by kernel_rfl)⟩
theorem My4 : FOK Go.Proofs.Tryz.prog sg Dd9 ⟨4, 0, Br4⟩ :=
 ⟨Go.Proofs.Tryz.f125, { loops := [(0, ⟨rg [(8, 1), (11, 55)], [.t 0, .ta 9 16000009 9 1, .t 10]⟩)], blks := [(0, ⟨rg [(3, 1), (8, 1), (11, 55)], [.t 0, .ta 9 16000009 9 1, .t 10]⟩)], conds := [(20, ⟨rg [(21, 4)], [.t 3]⟩)] }, by kernel_rfl, by kernel_rfl, by kernel_rfl, Nat.le_of_ble_eq_true (by kernel_rfl), by kernel_rfl, Aj4 (by kernel_rfl)⟩
theorem My3 : FOK Go.Proofs.Tryz.prog sg Dd8 ⟨1, 0, Br3⟩ :=
 ⟨Go.Proofs.Tryz.f141, {  }, by kernel_rfl, by kernel_rfl, by kernel_rfl, Nat.le_of_ble_eq_true (by kernel_rfl), by kernel_rfl, Aj4 (by kernel_rfl)⟩
theorem My2 : FOK Go.Proofs.Tryz.prog sg Dd7 ⟨2, 0, Br2⟩ :=
 ⟨Go.Proofs.Tryz.f142, { conds := [(6, ⟨[], [.t 6, .c 1 0, .c 1 1, .c 1 2, .c 1 3, .c 1 4, .c 1 5, .c 1 6, .c 1 7, .c 1 8, .c 1 9, .c 1 10, .c 1 11, .c 1 12]⟩), (12, ⟨[], [.t 12, .c 1 0, .c 1 1, .c 1 2, .c 1 3, .c 1 4, .c 1 5, .c 1 6, .c 1 7, .c 1 8, .c 1 9, .c 1 10, .c 1 11, .c 1 12]⟩), (60, ⟨[], [.t 60, .c 1 0, .c 1 1, .c 1 2, .c 1 3, .c 1 4, .c 1 5, .c 1 6, .c 1 7, .c 1 8, .c 1 9, .c 1 10, .c 1 11, .c 1 12]⟩)] }, by kernel_rfl, by kernel_rfl, by kernel_rfl, Nat.le_of_ble_eq_true (by kernel_rfl), by kernel_rfl, Aj4 (by kernel_rfl)⟩
theorem My1 : FOK Go.Proofs.Tryz.prog sg Ck2 ⟨1, 0, Br1⟩ :=
 ⟨Go.Proofs.Tryz.f143, {  }, by kernel_rfl, by kernel_rfl, by kernel_rfl, Nat.le_of_ble_eq_true (by kernel_rfl), by kernel_rfl, Aj4 (by kernel_rfl)⟩
theorem My0 : FOK Go.Proofs.Tryz.prog sg Ar8 ⟨1, 0, Br0⟩ :=
 ⟨Go.Proofs.Tryz.f144, {  }, by kernel_rfl, by kernel_rfl, by kernel_rfl, Nat.le_of_ble_eq_true (by kernel_rfl), by kernel_rfl, Aj4 (by kernel_rfl)⟩
theorem Mx9 : FOK Go.Proofs.Tryz.prog sg Dd6 ⟨1, 0, Bp9⟩ :=
 ⟨Go.Proofs.Tryz.f145, {  }, by kernel_rfl, by kernel_rfl, by kernel_rfl, Nat.le_of_ble_eq_true (by kernel_rfl), by kernel_rfl, Aj4 (by kernel_rfl)⟩
theorem Mx8 : FOK Go.Proofs.Tryz.prog sg Ax3 ⟨2, 0, Bp8⟩ :=
 ⟨Go.Proofs.Tryz.f146, {  }, by kernel_rfl, by kernel_rfl, by kernel_rfl, Nat.le_of_ble_eq_true (by kernel_rfl), by kernel_rfl, Aj4 (by kernel_rfl)⟩
theorem Mx7 : FOK Go.Proofs.Tryz.prog sg Bf4 ⟨1, 0, Bp7⟩ :=
 ⟨Go.Proofs.Tryz.f147, {  }, by kernel_rfl, by kernel_rfl, by kernel_rfl, Nat.le_of_ble_eq_true (by kernel_rfl), by kernel_rfl, Aj4 (by kernel_rfl)⟩
theorem Mx6 : FOK Go.Proofs.Tryz.prog sg Dd5 ⟨1, 0, Bp6⟩ :=
 ⟨Go.Proofs.Tryz.f148, { loops := [(0, ⟨rg [(2, 1), (4, 15)], [.t 3]⟩)], blks := [(0, ⟨rg [(2, 17)], []⟩)] }, by kernel_rfl, by kernel_rfl, by kernel_rfl, Nat.le_of_ble_eq_true (by kernel_rfl), by kernel_rfl, Aj4 (by kernel_rfl)⟩
theorem Mx5 : FOK Go.Proofs.Tryz.prog sg Ck1 ⟨2, 0, Bp5⟩ :=
 ⟨Go.Proofs.Tryz.f149, {  }, by kernel_rfl, by kernel_rfl, by kernel_rfl, Nat.le_of_ble_eq_true (by kernel_rfl), by kernel_rfl, Aj4 (by kernel_rfl)⟩
theorem Mx4 : FOK Go.Proofs.Tryz.prog sg Dd4 ⟨2, 0, Bp4⟩ :=
 ⟨Go.Proofs.Tryz.f150, {  }, by kernel_rfl, by kernel_rfl, by kernel_rfl, Nat.le_of_ble_eq_true (by kernel_rfl), by kernel_rfl, Aj4 (by kernel_rfl)⟩
theorem Mx3 : FOK Go.Proofs.Tryz.prog sg Dd3 ⟨3, 0, Bp3⟩ :=
 ⟨Go.Proofs.Tryz.f151, {  }, by kernel_rfl, by kernel_rfl, by kernel_rfl, Nat.le_of_ble_eq_true (by kernel_rfl), by kernel_rfl, Aj4 (by kernel_rfl)⟩
theorem Mx2 : FOK Go.Proofs.Tryz.prog sg Ck0 ⟨2, 0, Bp2⟩ :=
 ⟨Go.Proofs.Tryz.f152, {  }, by kernel_rfl, by kernel_rfl, by kernel_rfl, Nat.le_of_ble_eq_true (by kernel_rfl), by kernel_rfl, Aj4 (by kernel_rfl)⟩
theorem Mx1 : FOK Go.Proofs.Tryz.prog sg Dd2 ⟨2, 0, Bp1⟩ :=
 ⟨Go.Proofs.Tryz.f153, {  }, by kernel_rfl, by kernel_rfl, by kernel_rfl, Nat.le_of_ble_eq_true (by kernel_rfl), by kernel_rfl, Aj4 (by kernel_rfl)⟩
theorem Mx0 : FOK Go.Proofs.Tryz.prog sg Dd1 ⟨2, 0, Bp0⟩ :=
 ⟨Go.Proofs.Tryz.f154, { loops := [(0, ⟨rg [(4, 2), (9, 10)], [.t 8]⟩)], blks := [(0, ⟨rg [(4, 2), (8, 11)], []⟩)] }, by kernel_rfl, by kernel_rfl, by kernel_rfl, Nat.le_of_ble_eq_true (by kernel_rfl), by kernel_rfl, Aj4 (by kernel_rfl)⟩
theorem Mw9 : FOK Go.Proofs.Tryz.prog sg Bf3 ⟨2, 0, Bn9⟩ :=
 ⟨Go.Proofs.Tryz.f156, {  }, by kernel_rfl, by kernel_rfl, by kernel_rfl, Nat.le_of_ble_eq_true (by kernel_rfl), by kernel_rfl, Aj4 (by kernel_rfl)⟩
theorem Mw8 : FOK Go.Proofs.Tryz.prog sg Cj9 ⟨1, 0, Bn8⟩ :=
 ⟨Go.Proofs.Tryz.f157, {  }, by kernel_rfl, by kernel_rfl, by kernel_rfl, Nat.le_of_ble_eq_true (by kernel_rfl), by kernel_rfl, Aj4 (by kernel_rfl)⟩
theorem Mw7 : FOK Go.Proofs.Tryz.prog sg Hd6 ⟨2, 0, Kf0⟩ :=
 ⟨Go.Proofs.Tryz.f158, { loops := [(0, ⟨rg [(4, 2), (8, 42)], [.t 0, .ta 6 16000006 9 1, .t 7]⟩)], blks := [(0, ⟨rg [(4, 2), (7, 43)], [.t 0, .ta 6 16000006 9 1]⟩)], conds := [(18, ⟨[19], [.t 1]⟩)] }, by kernel_rfl, by kernel_rfl, by kernel_rfl, Nat.le_of_ble_eq_true (by kernel_rfl), by kernel_rfl, Aj4 (by kernel_rfl)⟩
theorem Mw6 : FOK Go.Proofs.Tryz.prog sg Dd0 ⟨2, 0, Bn7⟩ :=
 ⟨Go.Proofs.Tryz.f159, { loops := [(0, ⟨rg [(4, 1), (6, 1), (20, 14)], [.t 0, .t 5]⟩)], blks := [(0, ⟨rg [(0, 1), (4, 3), (20, 14)], []⟩)] }, by kernel_rfl, by kernel_rfl, by kernel_rfl, Nat.le_of_ble_eq_true (by kernel_rfl), by kernel_rfl, Aj4 (by kernel_rfl)⟩
theorem Mw5 : FOK Go.Proofs.Tryz.prog sg Cj8 ⟨2, 0, Bn6⟩ :=
 ⟨Go.Proofs.Tryz.f160, {  }, by kernel_rfl, by kernel_rfl, by kernel_rfl, Nat.le_of_ble_eq_true (by kernel_rfl), by kernel_rfl, Aj4 (by kernel_rfl)⟩
theorem Mw4 : FOK Go.Proofs.Tryz.prog sg Cj7 ⟨2, 0, Bn5⟩ :=
 ⟨Go.Proofs.Tryz.f178, {  }, by kernel_rfl, by kernel_rfl, by kernel_rfl, Nat.le_of_ble_eq_true (by kernel_rfl), by kernel_rfl, Aj4 (by kernel_rfl)⟩
theorem Mw3 : FOK Go.Proofs.Tryz.prog sg Cj6 ⟨2, 0, Bn4⟩ :=
 ⟨Go.Proofs.Tryz.f179, { conds := [(15, ⟨[], [.t 15]⟩), (87, ⟨[], [.t 87]⟩)] }, by kernel_rfl, by kernel_rfl, by kernel_rfl, Nat.le_of_ble_eq_true (by kernel_rfl), by kernel_rfl, Aj4 (by kernel_rfl)⟩
theorem Mw2 : FOK Go.Proofs.Tryz.prog sg Dc9 ⟨2, 0, Bn3⟩ :=
 ⟨Go.Proofs.Tryz.f189, {  }, by kernel_rfl, by kernel_rfl, by kernel_rfl, Nat.le_of_ble_eq_true (by kernel_rfl), by kernel_rfl, Aj4 (by kernel_rfl)⟩
theorem Mw1 : FOK Go.Proofs.Tryz.prog sg Fl2 ⟨1, 0, Kd9⟩ :=
 ⟨Go.Proofs.Tryz.f190, { loops := [(0, ⟨rg [(5, 4)], [.t 2]⟩)], blks := [(0, ⟨rg [(5, 4)], [.t 2]⟩)], bots := [1] }, by kernel_rfl, by kernel_rfl, by kernel_rfl, Nat.le_of_ble_eq_true (by kernel_rfl), by kernel_rfl, Aj4 (by kernel_rfl)⟩
theorem Mw0 : FOK Go.Proofs.Tryz.prog sg Hd3 ⟨1, 0, Kd8⟩ :=
 ⟨Go.Proofs.Tryz.f191, {  }, by kernel_rfl, by kernel_rfl, by kernel_rfl, Nat.le_of_ble_eq_true (by kernel_rfl), by kernel_rfl, Aj4 (by kernel_rfl)⟩
theorem Mv9 : FOK Go.Proofs.Tryz.prog sg Dc8 ⟨2, 0, Bn2⟩ :=
 ⟨Go.Proofs.Tryz.f193, { loops := [(1, ⟨rg [(4, 1), (11, 3), (57, 86)], [.t 8, .t 10]⟩)], blks := [(1, ⟨rg [(4, 1), (8, 1), (10, 4), (57, 86)], []⟩)], conds := [(64, ⟨rg [(4, 1), (11, 1), (65, 13)], [.t 8]⟩)], bots := [8] }, by kernel_rfl, by kernel_rfl, by kernel_rfl, Nat.le_of_ble_eq_true (by kernel_rfl), by kernel_rfl, Aj4 (by kernel_rfl)⟩
theorem Mv8 : FOK Go.Proofs.Tryz.prog sg Dc7 ⟨1, 0, Bn1⟩ :=
 ⟨Go.Proofs.Tryz.f206, {  }, by kernel_rfl, by kernel_rfl, by kernel_rfl, Nat.le_of_ble_eq_true (by kernel_rfl), by kernel_rfl, Aj4 (by kernel_rfl)⟩
theorem Mv7 : FOK Go.Proofs.Tryz.prog sg Am2 ⟨1, 0, Bn0⟩ :=
 ⟨Go.Proofs.Tryz.f207, { loops := [(0, ⟨rg [(8, 19)], [.t 3, .t 5]⟩)], blks := [(0, ⟨rg [(5, 1), (8, 19)], [.t 3]⟩)] }, by kernel_rfl, by kernel_rfl, by kernel_rfl, Nat.le_of_ble_eq_true (by kernel_rfl), by kernel_rfl, Aj4 (by kernel_rfl)⟩
theorem Mv6 : FOK Go.Proofs.Tryz.prog sg Aq9 ⟨2, 0, Bm9⟩ :=
 ⟨Go.Proofs.Tryz.f208, { loops := [(0, ⟨rg [(4, 1), (7, 24)], [.ta 5 16000005 5 1, .t 6]⟩), (2, ⟨rg [(16, 7)], [.t 7, .t 8]⟩)], blks := [(0, ⟨rg [(4, 1), (6, 25)], [.ta 5 16000005 5 1]⟩), (2, ⟨rg [(8, 1), (16, 7)], [.t 7]⟩)] }, by kernel_rfl, by kernel_rfl, by kernel_rfl, Nat.le_of_ble_eq_true (by kernel_rfl), by kernel_rfl, Aj4 (by kernel_rfl)⟩
theorem Mv5 : FOK Go.Proofs.Tryz.prog sg Dc6 ⟨1, 0, Bm8⟩ :=
 ⟨Go.Proofs.Tryz.f209, { loops := [(0, ⟨rg [(2, 1), (6, 35)], [.ta 3 16000003 5 1, .t 4, .t 5]⟩), (2, ⟨rg [(12, 16)], [.t 6, .t 7]⟩)], blks := [(0, ⟨rg [(2, 1), (5, 36)], [.ta 3 16000003 5 1, .t 4]⟩), (2, ⟨rg [(7, 1), (12, 16)], [.t 6]⟩)] }, by kernel_rfl, by kernel_rfl, by kernel_rfl, Nat.le_of_ble_eq_true (by kernel_rfl), by kernel_rfl, Aj4 (by kernel_rfl)⟩
theorem Mv4 : FOK Go.Proofs.Tryz.prog sg Hd2 ⟨1, 0, Kd7⟩ :=
 ⟨Go.Proofs.Tryz.f214, { bots := [5] }, by kernel_rfl, by kernel_rfl, by kernel_rfl, Nat.le_of_ble_eq_true (by kernel_rfl), by kernel_rfl, Aj4 (by kernel_rfl)⟩
theorem Mv3 : FOK Go.Proofs.Tryz.prog sg Bf2 ⟨2, 0, Bm7⟩ :=
 ⟨Go.Proofs.Tryz.f222, { loops := [(0, ⟨rg [(4, 1), (7, 24)], [.ta 5 16000005 5 1, .t 6]⟩), (2, ⟨rg [(16, 7)], [.t 7, .t 8]⟩)], blks := [(0, ⟨rg [(4, 1), (6, 25)], [.ta 5 16000005 5 1]⟩), (2, ⟨rg [(8, 1), (16, 7)], [.t 7]⟩)] }, by kernel_rfl, by kernel_rfl, by kernel_rfl, Nat.le_of_ble_eq_true (by kernel_rfl), by kernel_rfl, Aj4 (by kernel_rfl)⟩
def tabL : List (Nat × FT) := [(n_u5, ⟨2, 0, t_u5⟩), (Hf0, ⟨1, 0, Gy2⟩), (Hd9, ⟨2, 0, Gy1⟩), (Hd8, ⟨2, 0, Gy0⟩), (Hd7, ⟨2, 0, Gx9⟩), (Kv9, ⟨0, 0, Lm1⟩), (Hd5, ⟨2, 0, Gx8⟩), (Gg3, ⟨2, 0, Gx7⟩), (Hd4, ⟨2, 0, Gx6⟩), (Ds9, ⟨2, 0, Gx5⟩), (By3, ⟨2, 0, Gx4⟩), (Gg2, ⟨1, 0, Gx3⟩), (Hd1, ⟨1, 0, Gx2⟩), (Gg1, ⟨2, 0, Gx1⟩), (By2, ⟨3, 0, Gx0⟩), (Hd0, ⟨2, 0, Gw9⟩), (Hc9, ⟨2, 0, Gw8⟩), (Gg0, ⟨2, 0, Gw7⟩), (Gf9, ⟨2, 0, Gw6⟩), (Hc8, ⟨2, 0, Gw5⟩), (By1, ⟨2, 0, Gw4⟩), (Ds8, ⟨2, 0, Gw3⟩), (Bv9, ⟨3, 0, Gw2⟩), (Hc7, ⟨2, 0, Gw1⟩), (Hc6, ⟨3, 0, Gw0⟩), (Hc5, ⟨2, 0, Gv9⟩), (Gf8, ⟨2, 0, Gv8⟩), (Gf7, ⟨2, 0, Gv7⟩), (Hc4, ⟨2, 0, Gv6⟩), (Hc3, ⟨1, 0, Gv5⟩), (Cy6, ⟨2, 0, Gv4⟩), (Hc2, ⟨1, 0, Gv3⟩), (Dc5, ⟨2, 0, Gv2⟩), (Hc1, ⟨2, 0, Gv1⟩), (Gf6, ⟨1, 0, Gv0⟩), (Hc0, ⟨2, 0, Gq9⟩), (Dc4, ⟨2, 0, Gq8⟩), (Hb9, ⟨2, 0, Gq7⟩), (Hb8, ⟨2, 0, Gq6⟩), (Gf5, ⟨1, 0, Gq5⟩), (Hb7, ⟨1, 0, Gq4⟩), (Hb6, ⟨2, 0, Gq3⟩), (As5, ⟨1, 0, Gq2⟩), (Gf4, ⟨2, 0, Gq1⟩), (Bm0, ⟨1, 0, Gq0⟩), (Dc3, ⟨3, 0, Gk9⟩), (Hb5, ⟨1, 0, Gk8⟩), (Hb4, ⟨2, 0, Gk7⟩), (Hb3, ⟨1, 0, Gk6⟩), (Gf3, ⟨3, 0, Gk5⟩), (Hb2, ⟨2, 0, Gk4⟩), (Hb1, ⟨2, 0, Gk3⟩), (Hb0, ⟨3, 0, Gk2⟩), (Ds7, ⟨1, 0, Gk1⟩), (Hz9, ⟨3, 0, Gk0⟩), (Gf2, ⟨1, 0, Gj9⟩), (Gf1, ⟨2, 0, Gj8⟩), (Hz8, ⟨1, 0, Gj7⟩), (Hz7, ⟨2, 0, Gj6⟩), (Hz6, ⟨1, 0, Gj5⟩), (As4, ⟨1, 0, Gj4⟩), (Gf0, ⟨2, 0, Gj3⟩), (Cy5, ⟨2, 0, Gj2⟩), (Bl9, ⟨1, 0, Gj1⟩), (Gd9, ⟨1, 0, Gj0⟩), (Gd8, ⟨1, 0, Ft9⟩), (Gd7, ⟨1, 0, Ft8⟩), (Hz5, ⟨2, 0, Ft7⟩), (Gd6, ⟨2, 0, Ft6⟩), (Gd5, ⟨2, 0, Ft5⟩), (Hz4, ⟨1, 0, Ft4⟩), (Gd4, ⟨2, 0, Ft3⟩), (Hz3, ⟨1, 0, Ft2⟩), (Bj8, ⟨1, 0, Bt1⟩), (Ck7, ⟨2, 0, Bt0⟩), (Ck6, ⟨2, 0, Bs9⟩), (Df8, ⟨1, 0, Bs8⟩), (Df7, ⟨2, 0, Bs7⟩), (Df6, ⟨2, 0, Bs6⟩), (Df5, ⟨1, 0, Bs5⟩), (Df4, ⟨1, 0, Bs4⟩), (Ck5, ⟨1, 1, Bs3⟩), (Df3, ⟨2, 0, Bs2⟩), (Al0, ⟨2, 0, Bs1⟩), (Bf5, ⟨1048577, 0, Bs0⟩), (Df2, ⟨1048578, 0, Br9⟩), (Ck4, ⟨1, 1, Br8⟩), (Df1, ⟨1, 0, Br7⟩), (Df0, ⟨1, 0, Br6⟩), (Ck3, ⟨2, 0, Br5⟩), (Dd9, ⟨4, 0, Br4⟩), (Dd8, ⟨1, 0, Br3⟩), (Dd7, ⟨2, 0, Br2⟩), (Ck2, ⟨1, 0, Br1⟩), (Ar8, ⟨1, 0, Br0⟩), (Dd6, ⟨1, 0, Bp9⟩), (Ax3, ⟨2, 0, Bp8⟩), (Bf4, ⟨1, 0, Bp7⟩), (Dd5, ⟨1, 0, Bp6⟩), (Ck1, ⟨2, 0, Bp5⟩), (Dd4, ⟨2, 0, Bp4⟩), (Dd3, ⟨3, 0, Bp3⟩), (Ck0, ⟨2, 0, Bp2⟩), (Dd2, ⟨2, 0, Bp1⟩), (Dd1, ⟨2, 0, Bp0⟩), (Bf3, ⟨2, 0, Bn9⟩), (Cj9, ⟨1, 0, Bn8⟩), (Hd6, ⟨2, 0, Kf0⟩), (Dd0, ⟨2, 0, Bn7⟩), (Cj8, ⟨2, 0, Bn6⟩), (Cj7, ⟨2, 0, Bn5⟩), (Cj6, ⟨2, 0, Bn4⟩), (Dc9, ⟨2, 0, Bn3⟩), (Fl2, ⟨1, 0, Kd9⟩), (Hd3, ⟨1, 0, Kd8⟩), (Dc8, ⟨2, 0, Bn2⟩), (Dc7, ⟨1, 0, Bn1⟩), (Am2, ⟨1, 0, Bn0⟩), (Aq9, ⟨2, 0, Bm9⟩), (Dc6, ⟨1, 0, Bm8⟩), (Hd2, ⟨1, 0, Kd7⟩), (Bf2, ⟨2, 0, Bm7⟩)]
def tab : Nat → Option FT := lkF tabL
theorem Ll9 : Tab Go.Proofs.Tryz.prog sg tab := Lm0 tabL ⟨k_u5, Nb2, Nb1, Nb0, Nz9, Nz8, Nz7, Nz6, Nz5, Nz4, Nz3, Nz2, Nz1, Nz0, Ny9, Ny8, Ny7, Ny6, Ny5, Ny4, Ny3, Ny2, Ny1, Ny0, Nx9, Nx8, Nx7, Nx6, Nx5, Nx4, Nx3, Nx2, Nx1, Nx0, Nw9, Nw8, Nw7, Nw6, Nw5, Nw4, Nw3, Nw2, Nw1, Nw0, Nv9, Nv8, Nv7, Nv6, Nv5, Nv4, Nv3, Nv2, Nv1, Nv0, Nq9, Nq8, Nq7, Nq6, Nq5, Nq4, Nq3, Nq2, Nq1, Nq0, Nk9, Nk8, Nk7, Nk6, Nk5, Nk4, Nk3, Nk2, Nk1, Mb1, Mb0, Mz9, Mz8, Mz7, Mz6, Mz5, Mz4, Mz3, Mz2, Mz1, Mz0, My9, My8, My7, My6, My5, My4, My3, My2, My1, My0, Mx9, Mx8, Mx7, Mx6, Mx5, Mx4, Mx3, Mx2, Mx1, Mx0, Mw9, Mw8, Mw7, Mw6, Mw5, Mw4, Mw3, Mw2, Mw1, Mw0, Mv9, Mv8, Mv7, Mv6, Mv5, Mv4, Mv3, trivial⟩ (Jf4 (Aw4 (by kernel_rfl) (Aw4 (by kernel_rfl) (Aw4 (by kernel_rfl) (Aw4 (by kernel_rfl) (Aw4 (by kernel_rfl) (Aw4 (by kernel_rfl) (Aw4 (by kernel_rfl) (Aw4 (by kernel_rfl) (Aw4 (by kernel_rfl) (Aw4 (by kernel_rfl) (Aw4 (by kernel_rfl) (Aw4 (by kernel_rfl) (Aw4 (by kernel_rfl) (Aw4 (by kernel_rfl) (Aw4 (by kernel_rfl) (Aw4 (by kernel_rfl) (Aw4 (by kernel_rfl) Kb5))))))))))))))))))
theorem Kt0 : SOK Go.Proofs.Tryz.prog sg Bj7 ⟨false, 9, 1, [Al0]⟩ :=
 ⟨by kernel_rfl, by kernel_rfl, Ks7, ⟨Go.Proofs.Tryz.f117, by kernel_rfl, by kernel_rfl, by kernel_rfl⟩, (fun g hg => by
  simp only [List.mem_cons, List.mem_nil_iff, or_false] at hg
  rcases hg with rfl
  ·exact ⟨Go.Proofs.Tryz.f118, by kernel_rfl, by kernel_rfl, by kernel_rfl⟩)⟩
def Dp6 : List (Nat × SK) := [(Bj7, ⟨false, 9, 1, [Al0]⟩)]
def Gr2 : SK := ⟨false, 9, 1, [Al0]⟩
theorem Kt1 : lkS Dp6 Bj7 = some Gr2 := by kernel_rfl
theorem Ks6 : tab Bj7 = none := by kernel_rfl
theorem Jt6 : SOKs Go.Proofs.Tryz.prog sg Dp6 := ⟨Kt0, trivial⟩
def exts : List (Nat × XK) := [(Fl3, .indexS), (Fl1, .countS), (Fl0, .cmpS)]
theorem Lw5 : XOKs Go.Proofs.Tryz.prog exts := ⟨⟨Go.Proofs.Tryz.f180, by kernel_rfl, by kernel_rfl, by kernel_rfl, by kernel_rfl, by kernel_rfl⟩, ⟨Go.Proofs.Tryz.f192, by kernel_rfl, by kernel_rfl, by kernel_rfl, by kernel_rfl, by kernel_rfl⟩, ⟨Go.Proofs.Tryz.f213, by kernel_rfl, by kernel_rfl, by kernel_rfl, by kernel_rfl, by kernel_rfl⟩, trivial⟩
theorem Mc3 (fn : Fns) (hC : Contract Go.Proofs.Tryz.prog sg fn) : Contract Go.Proofs.Tryz.prog sg (Aw8 exts Dp6 fn) := Hm6 Lw5 (Fn0 (by kernel_rfl)) Jt6 fn hC
noncomputable def S : Fns := sem tab (Aw8 exts Dp6)
theorem Lp6 {args rs : List PV} (h : XK.run .indexS args = some rs) : S Fl3 args.length args = some rs := Cw9 (by kernel_rfl) (by kernel_rfl) (by kernel_rfl) h
theorem Lp4 {args rs : List PV} (h : XK.run .countS args = some rs) : S Fl1 args.length args = some rs := Cw9 (by kernel_rfl) (by kernel_rfl) (by kernel_rfl) h
theorem Ln8 {args rs : List PV} (h : XK.run .cmpS args = some rs) : S Fl0 args.length args = some rs := Cw9 (by kernel_rfl) (by kernel_rfl) (by kernel_rfl) h
theorem ext_mono : Ab4 (Aw8 exts Dp6) := (As9 exts Dp6)
variable {N : Nat} {args rs : List PV}
theorem s_u5 (hl : args.length = 2) (h : t_u5.ev S N args = some (.ret rs)) : S n_u5 2 args = some rs := Aj5 ext_mono (ft := ⟨2, 0, t_u5⟩) (by kernel_rfl) rfl hl h
theorem Nj1 (hl : args.length = 1) (h : Gy2.ev S N args = some (.ret rs)) : S Hf0 1 args = some rs := Aj5 ext_mono (ft := ⟨1, 0, Gy2⟩) (by kernel_rfl) rfl hl h
theorem Nj0 (hl : args.length = 2) (h : Gy1.ev S N args = some (.ret rs)) : S Hd9 2 args = some rs := Aj5 ext_mono (ft := ⟨2, 0, Gy1⟩) (by kernel_rfl) rfl hl h
theorem Mt9 (hl : args.length = 2) (h : Gy0.ev S N args = some (.ret rs)) : S Hd8 2 args = some rs := Aj5 ext_mono (ft := ⟨2, 0, Gy0⟩) (by kernel_rfl) rfl hl h
theorem Mt8 (hl : args.length = 2) (h : Gx9.ev S N args = some (.ret rs)) : S Hd7 2 args = some rs := Aj5 ext_mono (ft := ⟨2, 0, Gx9⟩) (by kernel_rfl) rfl hl h
theorem Mt7 (hl : args.length = 2) (h : Gx8.ev S N args = some (.ret rs)) : S Hd5 2 args = some rs := Aj5 ext_mono (ft := ⟨2, 0, Gx8⟩) (by kernel_rfl) rfl hl h
theorem Mt6 (hl : args.length = 2) (h : Gx7.ev S N args = some (.ret rs)) : S Gg3 2 args = some rs := Aj5 ext_mono (ft := ⟨2, 0, Gx7⟩) (by kernel_rfl) rfl hl h
theorem Mt5 (hl : args.length = 2) (h : Gx6.ev S N args = some (.ret rs)) : S Hd4 2 args = some rs := Aj5 ext_mono (ft := ⟨2, 0, Gx6⟩) (by kernel_rfl) rfl hl h
theorem Mt4 (hl : args.length = 2) (h : Gx5.ev S N args = some (.ret rs)) : S Ds9 2 args = some rs := Aj5 ext_mono (ft := ⟨2, 0, Gx5⟩) (by kernel_rfl) rfl hl h
theorem Mt3 (hl : args.length = 2) (h : Gx4.ev S N args = some (.ret rs)) : S By3 2 args = some rs := Aj5 ext_mono (ft := ⟨2, 0, Gx4⟩) (by kernel_rfl) rfl hl h
theorem Mt2 (hl : args.length = 1) (h : Gx3.ev S N args = some (.ret rs)) : S Gg2 1 args = some rs := Aj5 ext_mono (ft := ⟨1, 0, Gx3⟩) (by kernel_rfl) rfl hl h
theorem Mt1 (hl : args.length = 1) (h : Gx2.ev S N args = some (.ret rs)) : S Hd1 1 args = some rs := Aj5 ext_mono (ft := ⟨1, 0, Gx2⟩) (by kernel_rfl) rfl hl h
theorem Mt0 (hl : args.length = 2) (h : Gx1.ev S N args = some (.ret rs)) : S Gg1 2 args = some rs := Aj5 ext_mono (ft := ⟨2, 0, Gx1⟩) (by kernel_rfl) rfl hl h
theorem Ln6 (hl : args.length = 3) (h : Gx0.ev S N args = some (.ret rs)) : S By2 3 args = some rs := Aj5 ext_mono (ft := ⟨3, 0, Gx0⟩) (by kernel_rfl) rfl hl h
theorem Ms9 (hl : args.length = 2) (h : Gw9.ev S N args = some (.ret rs)) : S Hd0 2 args = some rs := Aj5 ext_mono (ft := ⟨2, 0, Gw9⟩) (by kernel_rfl) rfl hl h
theorem Ms8 (hl : args.length = 2) (h : Gw8.ev S N args = some (.ret rs)) : S Hc9 2 args = some rs := Aj5 ext_mono (ft := ⟨2, 0, Gw8⟩) (by kernel_rfl) rfl hl h
theorem Ms7 (hl : args.length = 2) (h : Gw7.ev S N args = some (.ret rs)) : S Gg0 2 args = some rs := Aj5 ext_mono (ft := ⟨2, 0, Gw7⟩) (by kernel_rfl) rfl hl h
theorem Ms6 (hl : args.length = 2) (h : Gw6.ev S N args = some (.ret rs)) : S Gf9 2 args = some rs := Aj5 ext_mono (ft := ⟨2, 0, Gw6⟩) (by kernel_rfl) rfl hl h
theorem Ms5 (hl : args.length = 2) (h : Gw5.ev S N args = some (.ret rs)) : S Hc8 2 args = some rs := Aj5 ext_mono (ft := ⟨2, 0, Gw5⟩) (by kernel_rfl) rfl hl h
theorem Ms4 (hl : args.length = 2) (h : Gw4.ev S N args = some (.ret rs)) : S By1 2 args = some rs := Aj5 ext_mono (ft := ⟨2, 0, Gw4⟩) (by kernel_rfl) rfl hl h
theorem Ms3 (hl : args.length = 2) (h : Gw3.ev S N args = some (.ret rs)) : S Ds8 2 args = some rs := Aj5 ext_mono (ft := ⟨2, 0, Gw3⟩) (by kernel_rfl) rfl hl h
theorem Ln5 (hl : args.length = 3) (h : Gw2.ev S N args = some (.ret rs)) : S Bv9 3 args = some rs := Aj5 ext_mono (ft := ⟨3, 0, Gw2⟩) (by kernel_rfl) rfl hl h
theorem Ms2 (hl : args.length = 2) (h : Gw1.ev S N args = some (.ret rs)) : S Hc7 2 args = some rs := Aj5 ext_mono (ft := ⟨2, 0, Gw1⟩) (by kernel_rfl) rfl hl h
theorem Ms1 (hl : args.length = 3) (h : Gw0.ev S N args = some (.ret rs)) : S Hc6 3 args = some rs := Aj5 ext_mono (ft := ⟨3, 0, Gw0⟩) (by kernel_rfl) rfl hl h
theorem Ms0 (hl : args.length = 2) (h : Gv9.ev S N args = some (.ret rs)) : S Hc5 2 args = some rs := Aj5 ext_mono (ft := ⟨2, 0, Gv9⟩) (by kernel_rfl) rfl hl h
theorem Mr9 (hl : args.length = 2) (h : Gv8.ev S N args = some (.ret rs)) : S Gf8 2 args = some rs := Aj5 ext_mono (ft := ⟨2, 0, Gv8⟩) (by kernel_rfl) rfl hl h
theorem Mr8 (hl : args.length = 2) (h : Gv7.ev S N args = some (.ret rs)) : S Gf7 2 args = some rs := Aj5 ext_mono (ft := ⟨2, 0, Gv7⟩) (by kernel_rfl) rfl hl h
theorem Mr7 (hl : args.length = 2) (h : Gv6.ev S N args = some (.ret rs)) : S Hc4 2 args = some rs := Aj5 ext_mono (ft := ⟨2, 0, Gv6⟩) (by kernel_rfl) rfl hl h
theorem Mr6 (hl : args.length = 1) (h : Gv5.ev S N args = some (.ret rs)) : S Hc3 1 args = some rs := Aj5 ext_mono (ft := ⟨1, 0, Gv5⟩) (by kernel_rfl) rfl hl h
theorem Mr5 (hl : args.length = 2) (h : Gv4.ev S N args = some (.ret rs)) : S Cy6 2 args = some rs := Aj5 ext_mono (ft := ⟨2, 0, Gv4⟩) (by kernel_rfl) rfl hl h
theorem Mr4 (hl : args.length = 1) (h : Gv3.ev S N args = some (.ret rs)) : S Hc2 1 args = some rs := Aj5 ext_mono (ft := ⟨1, 0, Gv3⟩) (by kernel_rfl) rfl hl h
theorem Mr3 (hl : args.length = 2) (h : Gv2.ev S N args = some (.ret rs)) : S Dc5 2 args = some rs := Aj5 ext_mono (ft := ⟨2, 0, Gv2⟩) (by kernel_rfl) rfl hl h
theorem Mr2 (hl : args.length = 2) (h : Gv1.ev S N args = some (.ret rs)) : S Hc1 2 args = some rs := Aj5 ext_mono (ft := ⟨2, 0, Gv1⟩) (by kernel_rfl) rfl hl h
theorem Mr1 (hl : args.length = 1) (h : Gv0.ev S N args = some (.ret rs)) : S Gf6 1 args = some rs := Aj5 ext_mono (ft := ⟨1, 0, Gv0⟩) (by kernel_rfl) rfl hl h
theorem Mr0 (hl : args.length = 2) (h : Gq9.ev S N args = some (.ret rs)) : S Hc0 2 args = some rs := Aj5 ext_mono (ft := ⟨2, 0, Gq9⟩) (by kernel_rfl) rfl hl h
theorem Mp9 (hl : args.length = 2) (h : Gq8.ev S N args = some (.ret rs)) : S Dc4 2 args = some rs := Aj5 ext_mono (ft := ⟨2, 0, Gq8⟩) (by kernel_rfl) rfl hl h
theorem Mp8 (hl : args.length = 2) (h : Gq7.ev S N args = some (.ret rs)) : S Hb9 2 args = some rs := Aj5 ext_mono (ft := ⟨2, 0, Gq7⟩) (by kernel_rfl) rfl hl h
theorem Mp7 (hl : args.length = 2) (h : Gq6.ev S N args = some (.ret rs)) : S Hb8 2 args = some rs := Aj5 ext_mono (ft := ⟨2, 0, Gq6⟩) (by kernel_rfl) rfl hl h
theorem Mp6 (hl : args.length = 1) (h : Gq5.ev S N args = some (.ret rs)) : S Gf5 1 args = some rs := Aj5 ext_mono (ft := ⟨1, 0, Gq5⟩) (by kernel_rfl) rfl hl h
theorem Mp5 (hl : args.length = 1) (h : Gq4.ev S N args = some (.ret rs)) : S Hb7 1 args = some rs := Aj5 ext_mono (ft := ⟨1, 0, Gq4⟩) (by kernel_rfl) rfl hl h
theorem Mp4 (hl : args.length = 2) (h : Gq3.ev S N args = some (.ret rs)) : S Hb6 2 args = some rs := Aj5 ext_mono (ft := ⟨2, 0, Gq3⟩) (by kernel_rfl) rfl hl h
theorem Mp3 (hl : args.length = 1) (h : Gq2.ev S N args = some (.ret rs)) : S As5 1 args = some rs := Aj5 ext_mono (ft := ⟨1, 0, Gq2⟩) (by kernel_rfl) rfl hl h
theorem Mp2 (hl : args.length = 2) (h : Gq1.ev S N args = some (.ret rs)) : S Gf4 2 args = some rs := Aj5 ext_mono (ft := ⟨2, 0, Gq1⟩) (by kernel_rfl) rfl hl h
theorem Mp1 (hl : args.length = 1) (h : Gq0.ev S N args = some (.ret rs)) : S Bm0 1 args = some rs := Aj5 ext_mono (ft := ⟨1, 0, Gq0⟩) (by kernel_rfl) rfl hl h
theorem Mp0 (hl : args.length = 3) (h : Gk9.ev S N args = some (.ret rs)) : S Dc3 3 args = some rs := Aj5 ext_mono (ft := ⟨3, 0, Gk9⟩) (by kernel_rfl) rfl hl h
theorem Mn9 (hl : args.length = 1) (h : Gk8.ev S N args = some (.ret rs)) : S Hb5 1 args = some rs := Aj5 ext_mono (ft := ⟨1, 0, Gk8⟩) (by kernel_rfl) rfl hl h
theorem Mn8 (hl : args.length = 2) (h : Gk7.ev S N args = some (.ret rs)) : S Hb4 2 args = some rs := Aj5 ext_mono (ft := ⟨2, 0, Gk7⟩) (by kernel_rfl) rfl hl h
theorem Mn7 (hl : args.length = 1) (h : Gk6.ev S N args = some (.ret rs)) : S Hb3 1 args = some rs := Aj5 ext_mono (ft := ⟨1, 0, Gk6⟩) (by kernel_rfl) rfl hl h
theorem Mn6 (hl : args.length = 3) (h : Gk5.ev S N args = some (.ret rs)) : S Gf3 3 args = some rs := Aj5 ext_mono (ft := ⟨3, 0, Gk5⟩) (by kernel_rfl) rfl hl h
theorem Mn5 (hl : args.length = 2) (h : Gk4.ev S N args = some (.ret rs)) : S Hb2 2 args = some rs := Aj5 ext_mono (ft := ⟨2, 0, Gk4⟩) (by kernel_rfl) rfl hl h
theorem Mn4 (hl : args.length = 2) (h : Gk3.ev S N args = some (.ret rs)) : S Hb1 2 args = some rs := Aj5 ext_mono (ft := ⟨2, 0, Gk3⟩) (by kernel_rfl) rfl hl h
theorem Mn3 (hl : args.length = 3) (h : Gk2.ev S N args = some (.ret rs)) : S Hb0 3 args = some rs := Aj5 ext_mono (ft := ⟨3, 0, Gk2⟩) (by kernel_rfl) rfl hl h
theorem Mn2 (hl : args.length = 1) (h : Gk1.ev S N args = some (.ret rs)) : S Ds7 1 args = some rs := Aj5 ext_mono (ft := ⟨1, 0, Gk1⟩) (by kernel_rfl) rfl hl h
theorem Mn1 (hl : args.length = 3) (h : Gk0.ev S N args = some (.ret rs)) : S Hz9 3 args = some rs := Aj5 ext_mono (ft := ⟨3, 0, Gk0⟩) (by kernel_rfl) rfl hl h
theorem Mn0 (hl : args.length = 1) (h : Gj9.ev S N args = some (.ret rs)) : S Gf2 1 args = some rs := Aj5 ext_mono (ft := ⟨1, 0, Gj9⟩) (by kernel_rfl) rfl hl h
theorem Mm9 (hl : args.length = 2) (h : Gj8.ev S N args = some (.ret rs)) : S Gf1 2 args = some rs := Aj5 ext_mono (ft := ⟨2, 0, Gj8⟩) (by kernel_rfl) rfl hl h
theorem Mm8 (hl : args.length = 1) (h : Gj7.ev S N args = some (.ret rs)) : S Hz8 1 args = some rs := Aj5 ext_mono (ft := ⟨1, 0, Gj7⟩) (by kernel_rfl) rfl hl h
theorem Mm7 (hl : args.length = 2) (h : Gj6.ev S N args = some (.ret rs)) : S Hz7 2 args = some rs := Aj5 ext_mono (ft := ⟨2, 0, Gj6⟩) (by kernel_rfl) rfl hl h
theorem Mm6 (hl : args.length = 1) (h : Gj5.ev S N args = some (.ret rs)) : S Hz6 1 args = some rs := Aj5 ext_mono (ft := ⟨1, 0, Gj5⟩) (by kernel_rfl) rfl hl h
theorem Mm5 (hl : args.length = 1) (h : Gj4.ev S N args = some (.ret rs)) : S As4 1 args = some rs := Aj5 ext_mono (ft := ⟨1, 0, Gj4⟩) (by kernel_rfl) rfl hl h
theorem Mm4 (hl : args.length = 2) (h : Gj3.ev S N args = some (.ret rs)) : S Gf0 2 args = some rs := Aj5 ext_mono (ft := ⟨2, 0, Gj3⟩) (by kernel_rfl) rfl hl h
theorem Mm3 (hl : args.length = 2) (h : Gj2.ev S N args = some (.ret rs)) : S Cy5 2 args = some rs := Aj5 ext_mono (ft := ⟨2, 0, Gj2⟩) (by kernel_rfl) rfl hl h
theorem Mm2 (hl : args.length = 1) (h : Gj1.ev S N args = some (.ret rs)) : S Bl9 1 args = some rs := Aj5 ext_mono (ft := ⟨1, 0, Gj1⟩) (by kernel_rfl) rfl hl h
theorem Mm1 (hl : args.length = 1) (h : Gj0.ev S N args = some (.ret rs)) : S Gd9 1 args = some rs := Aj5 ext_mono (ft := ⟨1, 0, Gj0⟩) (by kernel_rfl) rfl hl h
theorem Mm0 (hl : args.length = 1) (h : Ft9.ev S N args = some (.ret rs)) : S Gd8 1 args = some rs := Aj5 ext_mono (ft := ⟨1, 0, Ft9⟩) (by kernel_rfl) rfl hl h
theorem Ml9 (hl : args.length = 1) (h : Ft8.ev S N args = some (.ret rs)) : S Gd7 1 args = some rs := Aj5 ext_mono (ft := ⟨1, 0, Ft8⟩) (by kernel_rfl) rfl hl h
theorem Ml8 (hl : args.length = 2) (h : Ft7.ev S N args = some (.ret rs)) : S Hz5 2 args = some rs := Aj5 ext_mono (ft := ⟨2, 0, Ft7⟩) (by kernel_rfl) rfl hl h
theorem Ml7 (hl : args.length = 2) (h : Ft6.ev S N args = some (.ret rs)) : S Gd6 2 args = some rs := Aj5 ext_mono (ft := ⟨2, 0, Ft6⟩) (by kernel_rfl) rfl hl h
theorem Ml6 (hl : args.length = 2) (h : Ft5.ev S N args = some (.ret rs)) : S Gd5 2 args = some rs := Aj5 ext_mono (ft := ⟨2, 0, Ft5⟩) (by kernel_rfl) rfl hl h
theorem Ml5 (hl : args.length = 1) (h : Ft4.ev S N args = some (.ret rs)) : S Hz4 1 args = some rs := Aj5 ext_mono (ft := ⟨1, 0, Ft4⟩) (by kernel_rfl) rfl hl h
theorem Ml4 (hl : args.length = 2) (h : Ft3.ev S N args = some (.ret rs)) : S Gd4 2 args = some rs := Aj5 ext_mono (ft := ⟨2, 0, Ft3⟩) (by kernel_rfl) rfl hl h
theorem Ml3 (hl : args.length = 1) (h : Ft2.ev S N args = some (.ret rs)) : S Hz3 1 args = some rs := Aj5 ext_mono (ft := ⟨1, 0, Ft2⟩) (by kernel_rfl) rfl hl h
theorem Mj4 (hl : args.length = 1) (h : Bt1.ev S N args = some (.ret rs)) : S Bj8 1 args = some rs := Aj5 ext_mono (ft := ⟨1, 0, Bt1⟩) (by kernel_rfl) rfl hl h
theorem Mj3 (hl : args.length = 2) (h : Bt0.ev S N args = some (.ret rs)) : S Ck7 2 args = some rs := Aj5 ext_mono (ft := ⟨2, 0, Bt0⟩) (by kernel_rfl) rfl hl h
theorem Mj2 (hl : args.length = 2) (h : Bs9.ev S N args = some (.ret rs)) : S Ck6 2 args = some rs := Aj5 ext_mono (ft := ⟨2, 0, Bs9⟩) (by kernel_rfl) rfl hl h
theorem Mj1 (hl : args.length = 1) (h : Bs8.ev S N args = some (.ret rs)) : S Df8 1 args = some rs := Aj5 ext_mono (ft := ⟨1, 0, Bs8⟩) (by kernel_rfl) rfl hl h
theorem Mj0 (hl : args.length = 2) (h : Bs7.ev S N args = some (.ret rs)) : S Df7 2 args = some rs := Aj5 ext_mono (ft := ⟨2, 0, Bs7⟩) (by kernel_rfl) rfl hl h
theorem Lt9 (hl : args.length = 2) (h : Bs6.ev S N args = some (.ret rs)) : S Df6 2 args = some rs := Aj5 ext_mono (ft := ⟨2, 0, Bs6⟩) (by kernel_rfl) rfl hl h
theorem Lt8 (hl : args.length = 1) (h : Bs5.ev S N args = some (.ret rs)) : S Df5 1 args = some rs := Aj5 ext_mono (ft := ⟨1, 0, Bs5⟩) (by kernel_rfl) rfl hl h
theorem Lt7 (hl : args.length = 1) (h : Bs4.ev S N args = some (.ret rs)) : S Df4 1 args = some rs := Aj5 ext_mono (ft := ⟨1, 0, Bs4⟩) (by kernel_rfl) rfl hl h
theorem Lt6 (hl : args.length = 2) (h : Bs3.ev S N args = some (.ret rs)) : S Ck5 1 args = some rs := Aj5 ext_mono (ft := ⟨1, 1, Bs3⟩) (by kernel_rfl) rfl hl h
theorem Lt5 (hl : args.length = 2) (h : Bs2.ev S N args = some (.ret rs)) : S Df3 2 args = some rs := Aj5 ext_mono (ft := ⟨2, 0, Bs2⟩) (by kernel_rfl) rfl hl h
theorem Lt4 (hl : args.length = 2) (h : Bs1.ev S N args = some (.ret rs)) : S Al0 2 args = some rs := Aj5 ext_mono (ft := ⟨2, 0, Bs1⟩) (by kernel_rfl) rfl hl h
theorem Lt3 (hl : args.length = 1) (h : Bs0.ev S N args = some (.ret rs)) : S Bf5 1048577 args = some rs := Aj5 ext_mono (ft := ⟨1048577, 0, Bs0⟩) (by kernel_rfl) rfl hl h
theorem Lt2 (hl : args.length = 2) (h : Br9.ev S N args = some (.ret rs)) : S Df2 1048578 args = some rs := Aj5 ext_mono (ft := ⟨1048578, 0, Br9⟩) (by kernel_rfl) rfl hl h
theorem Lt1 (hl : args.length = 2) (h : Br8.ev S N args = some (.ret rs)) : S Ck4 1 args = some rs := Aj5 ext_mono (ft := ⟨1, 1, Br8⟩) (by kernel_rfl) rfl hl h
theorem Lt0 (hl : args.length = 1) (h : Br7.ev S N args = some (.ret rs)) : S Df1 1 args = some rs := Aj5 ext_mono (ft := ⟨1, 0, Br7⟩) (by kernel_rfl) rfl hl h
theorem Ls9 (hl : args.length = 1) (h : Br6.ev S N args = some (.ret rs)) : S Df0 1 args = some rs := Aj5 ext_mono (ft := ⟨1, 0, Br6⟩) (by kernel_rfl) rfl hl h
theorem Ls8 (hl : args.length = 2) (h : Br5.ev S N args = some (.ret rs)) : S Ck3 2 args = some rs := Aj5 ext_mono (ft := ⟨2, 0, Br5⟩) (by kernel_rfl) rfl hl h
theorem Ls7 (hl : args.length = 4) (h : Br4.ev S N args = some (.ret rs)) : S Dd9 4 args = some rs := Aj5 ext_mono (ft := ⟨4, 0, Br4⟩) (by kernel_rfl) rfl hl h
theorem Ls6 (hl : args.length = 1) (h : Br3.ev S N args = some (.ret rs)) : S Dd8 1 args = some rs := Aj5 ext_mono (ft := ⟨1, 0, Br3⟩) (by kernel_rfl) rfl hl h
theorem Ls5 (hl : args.length = 2) (h : Br2.ev S N args = some (.ret rs)) : S Dd7 2 args = some rs := Aj5 ext_mono (ft := ⟨2, 0, Br2⟩) (by kernel_rfl) rfl hl h
theorem Ls4 (hl : args.length = 1) (h : Br1.ev S N args = some (.ret rs)) : S Ck2 1 args = some rs := Aj5 ext_mono (ft := ⟨1, 0, Br1⟩) (by kernel_rfl) rfl hl h
theorem Ls3 (hl : args.length = 1) (h : Br0.ev S N args = some (.ret rs)) : S Ar8 1 args = some rs := Aj5 ext_mono (ft := ⟨1, 0, Br0⟩) (by kernel_rfl) rfl hl h
theorem Ls2 (hl : args.length = 1) (h : Bp9.ev S N args = some (.ret rs)) : S Dd6 1 args = some rs := Aj5 ext_mono (ft := ⟨1, 0, Bp9⟩) (by kernel_rfl) rfl hl h
theorem Ls1 (hl : args.length = 2) (h : Bp8.ev S N args = some (.ret rs)) : S Ax3 2 args = some rs := Aj5 ext_mono (ft := ⟨2, 0, Bp8⟩) (by kernel_rfl) rfl hl h
theorem Ls0 (hl : args.length = 1) (h : Bp7.ev S N args = some (.ret rs)) : S Bf4 1 args = some rs := Aj5 ext_mono (ft := ⟨1, 0, Bp7⟩) (by kernel_rfl) rfl hl h
theorem Lr9 (hl : args.length = 1) (h : Bp6.ev S N args = some (.ret rs)) : S Dd5 1 args = some rs := Aj5 ext_mono (ft := ⟨1, 0, Bp6⟩) (by kernel_rfl) rfl hl h
theorem Lr8 (hl : args.length = 2) (h : Bp5.ev S N args = some (.ret rs)) : S Ck1 2 args = some rs := Aj5 ext_mono (ft := ⟨2, 0, Bp5⟩) (by kernel_rfl) rfl hl h
theorem Lr7 (hl : args.length = 2) (h : Bp4.ev S N args = some (.ret rs)) : S Dd4 2 args = some rs := Aj5 ext_mono (ft := ⟨2, 0, Bp4⟩) (by kernel_rfl) rfl hl h
theorem Lr6 (hl : args.length = 3) (h : Bp3.ev S N args = some (.ret rs)) : S Dd3 3 args = some rs := Aj5 ext_mono (ft := ⟨3, 0, Bp3⟩) (by kernel_rfl) rfl hl h
theorem Lr5 (hl : args.length = 2) (h : Bp2.ev S N args = some (.ret rs)) : S Ck0 2 args = some rs := Aj5 ext_mono (ft := ⟨2, 0, Bp2⟩) (by kernel_rfl) rfl hl h
theorem Lr4 (hl : args.length = 2) (h : Bp1.ev S N args = some (.ret rs)) : S Dd2 2 args = some rs := Aj5 ext_mono (ft := ⟨2, 0, Bp1⟩) (by kernel_rfl) rfl hl h
theorem Lr3 (hl : args.length = 2) (h : Bp0.ev S N args = some (.ret rs)) : S Dd1 2 args = some rs := Aj5 ext_mono (ft := ⟨2, 0, Bp0⟩) (by kernel_rfl) rfl hl h
theorem Lr2 (hl : args.length = 2) (h : Bn9.ev S N args = some (.ret rs)) : S Bf3 2 args = some rs := Aj5 ext_mono (ft := ⟨2, 0, Bn9⟩) (by kernel_rfl) rfl hl h
theorem Lr1 (hl : args.length = 1) (h : Bn8.ev S N args = some (.ret rs)) : S Cj9 1 args = some rs := Aj5 ext_mono (ft := ⟨1, 0, Bn8⟩) (by kernel_rfl) rfl hl h
theorem Lr0 (hl : args.length = 2) (h : Bn7.ev S N args = some (.ret rs)) : S Dd0 2 args = some rs := Aj5 ext_mono (ft := ⟨2, 0, Bn7⟩) (by kernel_rfl) rfl hl h
theorem Lp9 (hl : args.length = 2) (h : Bn6.ev S N args = some (.ret rs)) : S Cj8 2 args = some rs := Aj5 ext_mono (ft := ⟨2, 0, Bn6⟩) (by kernel_rfl) rfl hl h
theorem Lp8 (hl : args.length = 2) (h : Bn5.ev S N args = some (.ret rs)) : S Cj7 2 args = some rs := Aj5 ext_mono (ft := ⟨2, 0, Bn5⟩) (by kernel_rfl) rfl hl h
theorem Lp7 (hl : args.length = 2) (h : Bn4.ev S N args = some (.ret rs)) : S Cj6 2 args = some rs := Aj5 ext_mono (ft := ⟨2, 0, Bn4⟩) (by kernel_rfl) rfl hl h
theorem Lp5 (hl : args.length = 2) (h : Bn3.ev S N args = some (.ret rs)) : S Dc9 2 args = some rs := Aj5 ext_mono (ft := ⟨2, 0, Bn3⟩) (by kernel_rfl) rfl hl h
theorem Lp3 (hl : args.length = 2) (h : Bn2.ev S N args = some (.ret rs)) : S Dc8 2 args = some rs := Aj5 ext_mono (ft := ⟨2, 0, Bn2⟩) (by kernel_rfl) rfl hl h
theorem Lp2 (hl : args.length = 1) (h : Bn1.ev S N args = some (.ret rs)) : S Dc7 1 args = some rs := Aj5 ext_mono (ft := ⟨1, 0, Bn1⟩) (by kernel_rfl) rfl hl h
theorem Lp1 (hl : args.length = 1) (h : Bn0.ev S N args = some (.ret rs)) : S Am2 1 args = some rs := Aj5 ext_mono (ft := ⟨1, 0, Bn0⟩) (by kernel_rfl) rfl hl h
theorem Lp0 (hl : args.length = 2) (h : Bm9.ev S N args = some (.ret rs)) : S Aq9 2 args = some rs := Aj5 ext_mono (ft := ⟨2, 0, Bm9⟩) (by kernel_rfl) rfl hl h
theorem Ln9 (hl : args.length = 1) (h : Bm8.ev S N args = some (.ret rs)) : S Dc6 1 args = some rs := Aj5 ext_mono (ft := ⟨1, 0, Bm8⟩) (by kernel_rfl) rfl hl h
theorem Ln7 (hl : args.length = 2) (h : Bm7.ev S N args = some (.ret rs)) : S Bf2 2 args = some rs := Aj5 ext_mono (ft := ⟨2, 0, Bm7⟩) (by kernel_rfl) rfl hl h
end Go.X.G
