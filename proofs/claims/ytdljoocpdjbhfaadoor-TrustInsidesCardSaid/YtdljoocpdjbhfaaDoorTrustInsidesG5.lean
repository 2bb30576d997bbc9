/- The residual programs of the functions, printed by a program (gen.py) out of the executor's own reckoning; each is checked by the kernel. -/
import Derived.Test.YtdljoocpdjbhfaaDoorTrustInsidesG4
import Derived.Test.YtdljoocpdjbhfaaDoorProg
import Derived.KernelRfl
set_option maxHeartbeats 1000000
set_option linter.unusedVariables false
set_option linter.unusedSimpArgs false
set_option maxRecDepth 100000
set_option linter.defProp false
namespace Go.X.G
open Go Go.X
def rgs (a:Nat):Nat→List Nat
 |0=>[]
 |n+1=>a::rgs (a+1) n
def rg:List (Nat×Nat)→List Nat
 |[]=>[]
 |(a,n)::r=>rgs a n++rg r
def vf:Nat:=3
def vc:Nat:=6
def sq:Nat:=7
def vb:Nat:=8
def vz:Nat:=9
def Wg:Nat:=10
def Jl:Nat:=18
def Wd:Nat:=19
def Pn:Nat:=20
def S7:Nat:=21
def Pm:Nat:=22
def Pl:Nat:=23
def Ph:Nat:=24
def S6:Nat:=25
def S5:Nat:=35
def Wc:Nat:=36
def Wb:Nat:=37
def S4:Nat:=43
def Wz:Nat:=44
def Wy:Nat:=45
def S3:Nat:=46
def Wx:Nat:=47
def Ww:Nat:=51
def Wv:Nat:=52
def Wq:Nat:=53
def oh:Nat:=55
def Wk:Nat:=56
def S2:Nat:=57
def bh:Nat:=58
def og:Nat:=59
def bg:Nat:=60
def Wj:Nat:=61
def od:Nat:=62
def V9:Nat:=63
def bf:Nat:=67
def ea0:E:= .c (.i .i64 0)
def ea1:E:= .c (.b false)
def ea2:E:= .c (.i .i64 1)
def ea3:E:= .c (.b true)
def Xx:E:= .slen (.v 1)
def ea4:E:= .ite (.bin .leq Xx (.c (.i .i64 300))) (.bin .leq (.slen (.proj 12 (.v 0))) (.c (.i .i64 300))) ea1
def f9:E:= .sub 0 16 (.idx 16 (.v 4) (.v 5))
def ea5:E:= .ite (.bin .eql (.proj 1 f9) ea2) ea3 (.bin .eql (.proj 1 f9) (.c (.i .i64 28)))
def zn:E:= .proj 0 (.idx 1 (.lit 1 [.v 2, .v 3]) (.v 4))
def ea6:E:= .sub 0 16 (.idx 16 zn (.v 6))
def ea7:E:= .sidx (.v 0) (.v 1)
def ea8:E:= .agg [.proj 0 (.v 0), .proj 1 (.v 0), .proj 2 (.v 0), .proj 3 (.v 0), .proj 4 (.v 0), .proj 5 (.v 0), .proj 6 (.v 0), .proj 7 (.v 0), .proj 8 (.v 0), .proj 9 (.v 0), .proj 10 (.v 0), .proj 11 (.v 0), .proj 12 (.v 0), .proj 13 (.v 0), .v 2, .v 3, .v 5]
def dm:E:= .c (.i .u64 0)
def ea9:E:= .lit 16 [.agg [.c (.s [100,46,120,46]), .c (.i .i64 2), .c (.i .i64 9),ea1,dm,dm, .c (.s [110,46,100,46,120,46]), .c (.s []), .c (.s []),ea0,ea0,ea0,ea0,ea0,ea0,dm]]
def Ab1:E:= .lit 16 [.agg [.c (.s [110,46,100,46,120,46]),ea2, .c (.i .i64 9),ea1,dm, .c (.i .u64 1), .c (.s []), .c (.s []), .c (.s []),ea0,ea0,ea0,ea0,ea0,ea0,dm]]
def Kz:E:= .slen (.v 0)
def Ab0:E:= .lit 16 [.agg [.c (.s [121,46]),ea2,ea0,ea1,dm,dm, .c (.s []), .c (.s []), .c (.s []),ea0,ea0,ea0,ea0,ea0,ea0,dm]]
def qf:E:= .sub 0 16 (.idx 16 (.v 0) (.v 3))
def f8:E:= .un .not (.un .not (.v 4))
def Yc:E:= .bin .add (.v 3) ea2
def zr:E:= .ite (.bin .eql (.v 1) (.c (.s [46]))) ea3 (.bin .eql (.v 0) (.v 1))
def qd:E:= .ite (.v 2) (.v 3) ea1
def F6:E:= .c .u
def xq:E:= .sub 3 13 (.idx 16 (.v 0) (.v 1))
def sy:E:= .ssl (.v 0) (.v 2) (.v 3)
def xe:=xd @ea0.eq_1<|xd @ea1.eq_1<|xd @ea2.eq_1<|xd @ea3.eq_1<|xd @Xx.eq_1<|xd @ea4.eq_1<|xd @f9.eq_1<|xd @ea5.eq_1<|xd @zn.eq_1<|xd @ea6.eq_1<|xd @ea7.eq_1<|xd @ea8.eq_1<|xd @dm.eq_1<|xd @ea9.eq_1<|xd @Ab1.eq_1<|xd @Kz.eq_1<|xd @Ab0.eq_1<|xd @qf.eq_1<|xd @f8.eq_1<|xd @Yc.eq_1<|xd @zr.eq_1<|xd @qd.eq_1<|xd @F6.eq_1<|xd @xq.eq_1<|xd @sy.eq_1<|xd0
def y7:T:= .ret [.ite (.un .not (.v 4)) ea3 (.v 7)]
def y0:T:= .w (.chk (.ite f8 F6 F6)) (.w (.call (some f8) true vz [.v 5, .v 6] 1) y7)
def yg:T:= .w (.chk (.ite f8 F6 F6)) (.w (.call (some f8) false Wg [.sub 0 17 (.v 0), .v 1] 1) y0)
def yz:T:= .w (.chk (.ite f8 F6 F6)) (.w (.call (some f8) false sq [.sub 0 17 (.v 0), .v 1] 1) yg)
def yv:T:= .w (.call none true vb [.sub 0 17 (.v 0), .v 1] 1) yz
def xr:T:= .w (.chk (.fit 17 (.v 3))) (.ite (.bin .neq (.len (.proj 16 (.v 3))) ea2) (.ret [ea1]) yv)
def xm:T:= .w (.chk (.fit 17 (.v 2))) (.w (.chk (.app 16 (.proj 16 (.v 2)) (.c (.l 16 [])))) (.w (.chk (.scal (.c (.s [121,46])))) (.w (.chk (.scal ea2)) (.w (.chk (.ite (.bin .eql (.len (.proj 16 (.v 2))) ea0) F6 (.idx 16 Ab0 ea0))) (.w (.call none false sq [.agg [.proj 0 (.v 2), .proj 1 (.v 2), .proj 2 (.v 2), .proj 3 (.v 2), .proj 4 (.v 2), .proj 5 (.v 2), .proj 6 (.v 2), .proj 7 (.v 2), .proj 8 (.v 2), .proj 9 (.v 2), .proj 10 (.v 2), .proj 11 (.v 2), .proj 12 (.v 2), .proj 13 (.v 2), .proj 14 (.v 2), .proj 15 (.v 2), .app 16 (.proj 16 (.v 2)) Ab0], .c (.s [120,46])] 1) xr)))))
def tg:T:= .w (.chk (.fit 17 (.v 0))) (.w (.call none false vc [] 1) xm)
def Ab8:=xc @y7.eq_1<|xc @y0.eq_1<|xc @yg.eq_1<|xc @yz.eq_1<|xc @yv.eq_1<|xc @xr.eq_1<|xc @xm.eq_1<|Cf @tg.eq_1
def zf:T:= .w (.chk (.scal (.c (.s [97,46,100,46,120,46])))) (.w (.chk (.scal (.c (.s [100,46,120,46])))) (.w (.chk (.scal (.c (.i .i64 2)))) (.w (.chk (.scal (.c (.i .u64 1)))) (.w (.chk (.scal (.c (.s [110,46,100,46,120,46])))) (.w (.chk (.scal ea2)) (.w (.chk (.scal (.c (.i .i64 9)))) (.w (.chk (.scal ea3)) (.w (.chk (.scal ea9)) (.w (.chk (.scal Ab1)) (.ret [.agg [ea0,ea0,ea0,ea3,ea1,ea1,ea1,ea1,ea1,ea1,ea1,ea0, .c (.s [97,46,100,46,120,46]),ea2, .c (.l 16 []),ea9,Ab1]]))))))))))
def Ac5:=Cf @zf.eq_1
def y3:T:= .w (.chk (.slen (.proj 6 ea6))) (.w (.chk (.scal ea3)) (.yld 3 [.bin .add (.v 6) ea2, .mset (.v 7) (.proj 6 ea6) ea3]))
def ym:T:= .yld 3 [.bin .add (.v 6) ea2, .v 7]
def yd:T:= .w (.chk (.fit 16 ea6)) (.ite (.ite (.ite (.bin .eql (.proj 1 ea6) (.c (.i .i64 2))) ea3 (.bin .eql (.proj 1 ea6) (.c (.i .i64 15)))) ea3 (.bin .eql (.proj 1 ea6) (.c (.i .i64 33)))) y3 ym)
def y9:T:= .ite (.bin .lss (.v 6) (.len zn)) yd (.yld 2 [.v 7])
def vg:T:= .loop 3 [.c (.i .i64 0), .v 5] y9
def yx:T:= .yld 1 [.bin .add (.v 4) ea2, .v 6]
def yj:T:= .w (.chk (.len zn)) (.blk 2 vg yx)
def zj:T:= .ite (.bin .lss (.v 4) (.len (.lit 1 [.v 2, .v 3]))) yj (.yld 0 [.v 5])
def vh:T:= .loop 1 [.c (.i .i64 0), .c (.m [])] zj
def xn:T:= .w (.chk (.scal (.v 5))) (.ret [ea8])
def xh:T:= .w (.call none false Pn [.proj 16 (.v 0), .clo S7 [.clo Jl [.v 1], .v 4]] 1) xn
def xg:T:= .w (.chk (.scal (.v 2))) (.w (.chk (.scal (.v 3))) (.w (.chk (.len (.lit 1 [.v 2, .v 3]))) (.blk 0 vh xh)))
def xf:T:= .w (.call none false Pn [.proj 15 (.v 0), .clo Jl [.v 1]] 1) xg
def zd:T:= .w (.chk (.fit 17 (.v 0))) (.w (.chk (.scal (.v 1))) (.w (.call none false Pn [.proj 14 (.v 0), .clo Jl [.v 1]] 1) xf))
def ep:=xc @y3.eq_1<|xc @ym.eq_1<|xc @yd.eq_1<|xc @y9.eq_1<|xc @yx.eq_1<|xc @yj.eq_1<|xc @zj.eq_1<|xc @xn.eq_1<|xc @xh.eq_1<|xc @xg.eq_1<|xc @xf.eq_1<|Cf @zd.eq_1
def y2:T:= .ret [.ite (.ite (.ite ea4 (.v 2) ea1) (.v 3) ea1) (.v 4) ea1]
def yl:T:= .w (.chk (.ite (.ite (.ite ea4 (.v 2) ea1) (.v 3) ea1) F6 F6)) (.w (.call (some (.ite (.ite ea4 (.v 2) ea1) (.v 3) ea1)) true Pm [.proj 16 (.v 0)] 1) y2)
def yc:T:= .w (.chk (.ite (.ite ea4 (.v 2) ea1) F6 F6)) (.w (.call (some (.ite ea4 (.v 2) ea1)) true Pm [.proj 15 (.v 0)] 1) yl)
def zc:T:= .w (.chk (.fit 17 (.v 0))) (.w (.call (some ea4) true Pm [.proj 14 (.v 0)] 1) yc)
def s4:=xc @y2.eq_1<|xc @yl.eq_1<|xc @yc.eq_1<|Cf @zc.eq_1
def y1:T:= .ret [.ite qd (.v 4) ea1]
def yh:T:= .w (.chk (.ite qd F6 F6)) (.w (.call (some qd) true Pl [.proj 16 (.v 0), .proj 16 (.v 1)] 1) y1)
def yb:T:= .w (.chk (.ite (.v 2) F6 F6)) (.w (.call (some (.v 2)) true Pl [.proj 15 (.v 0), .proj 15 (.v 1)] 1) yh)
def yw:T:= .w (.call none true Pl [.proj 14 (.v 0), .proj 14 (.v 1)] 1) yb
def zb:T:= .w (.chk (.fit 17 (.v 0))) (.w (.chk (.fit 17 (.v 1))) (.ite (.ite (.ite (.ite (.ite (.ite (.ite (.ite (.ite (.ite (.ite (.ite (.ite (.bin .neq (.proj 0 (.v 0)) (.proj 0 (.v 1))) ea3 (.bin .neq (.proj 1 (.v 0)) (.proj 1 (.v 1)))) ea3 (.bin .neq (.proj 2 (.v 0)) (.proj 2 (.v 1)))) ea3 (.eqs true false [.b] (.proj 3 (.v 0)) (.proj 3 (.v 1)))) ea3 (.eqs true false [.b] (.proj 4 (.v 0)) (.proj 4 (.v 1)))) ea3 (.eqs true false [.b] (.proj 5 (.v 0)) (.proj 5 (.v 1)))) ea3 (.eqs true false [.b] (.proj 6 (.v 0)) (.proj 6 (.v 1)))) ea3 (.eqs true false [.b] (.proj 7 (.v 0)) (.proj 7 (.v 1)))) ea3 (.eqs true false [.b] (.proj 8 (.v 0)) (.proj 8 (.v 1)))) ea3 (.eqs true false [.b] (.proj 9 (.v 0)) (.proj 9 (.v 1)))) ea3 (.eqs true false [.b] (.proj 10 (.v 0)) (.proj 10 (.v 1)))) ea3 (.bin .neq (.proj 11 (.v 0)) (.proj 11 (.v 1)))) ea3 (.eqs true true [.s, .i .i64] (.agg [.proj 12 (.v 0), .proj 13 (.v 0)]) (.agg [.proj 12 (.v 1), .proj 13 (.v 1)]))) (.ret [ea1]) yw))
def Ac4:=xc @y1.eq_1<|xc @yh.eq_1<|xc @yb.eq_1<|xc @yw.eq_1<|Cf @zb.eq_1
def km:T:= .w (.chk (.fit 16 (.sub 0 16 f9))) (.yld 1 [.bin .add (.v 5) ea2, .app 16 (.v 6) (.lit 16 [.sub 0 16 f9])])
def jt:T:= .yld 1 [.bin .add (.v 5) ea2, .v 6]
def jw:T:= .ite (.ite ea5 (.ite (.v 7) ea3 (.v 8)) ea1) km jt
def il:T:= .w (.chk (.ite (.ite ea5 (.un .not (.v 7)) ea1) F6 F6)) (.w (.call (some (.ite ea5 (.un .not (.v 7)) ea1)) true S6 [.v 3, .proj 0 f9] 1) jw)
def iq:T:= .w (.chk (.fit 16 f9)) (.w (.call (some ea5) true S6 [.v 2, .proj 0 f9] 1) il)
def lh:T:= .ite (.bin .lss (.v 5) (.len (.v 4))) iq (.yld 0 [.v 6])
def f6:T:= .loop 1 [.c (.i .i64 0), .c (.l 16 [])] lh
def g7:T:= .ret [ea8]
def gm:T:= .blk 0 f6 g7
def gz:T:= .w (.chk (.scal (.v 3))) (.w (.call none false Ph [.proj 16 (.v 0), .v 1] 1) gm)
def gw:T:= .w (.chk (.scal (.v 2))) (.w (.call none false Ph [.proj 15 (.v 0), .v 1] 1) gz)
def Zt:T:= .w (.chk (.fit 17 (.v 0))) (.w (.call none false Ph [.proj 14 (.v 0), .v 1] 1) gw)
def Y0:=xc @km.eq_1<|xc @jt.eq_1<|xc @jw.eq_1<|xc @il.eq_1<|xc @iq.eq_1<|xc @lh.eq_1<|xc @g7.eq_1<|xc @gm.eq_1<|xc @gz.eq_1<|xc @gw.eq_1<|Cf @Zt.eq_1
def Zs:T:= .w (.chk (.fit 16 (.v 0))) (.w (.call none true Wd [.proj 0 (.v 0), .proj 0 (.v 1)] 1) (.ret [.v 2]))
def Aj7:=Cf @Zs.eq_1
def kg:T:= .ret [.ite qd (.v 4) ea1]
def js:T:= .w (.chk (.ite qd F6 F6)) (.w (.call (some qd) true Wc [.v 0, .v 1] 1) kg)
def jv:T:= .w (.chk (.ite (.v 2) F6 F6)) (.w (.call (some (.v 2)) true S5 [.v 1] 1) js)
def Zr:T:= .w (.call none true S5 [.v 0] 1) jv
def l7:=xc @kg.eq_1<|xc @js.eq_1<|xc @jv.eq_1<|Cf @Zr.eq_1
def kf:T:= .w (.chk (.fit 16 (.sub 0 16 qf))) (.yld 1 [.app 16 (.v 2) (.lit 16 [.sub 0 16 qf]),Yc])
def jr:T:= .yld 1 [.v 2,Yc]
def jq:T:= .ite (.v 4) kf jr
def ig:T:= .w (.chk (.fit 16 qf)) (.w (.clo none true (.v 1) [.sub 0 16 qf] 1) jq)
def lg:T:= .ite (.bin .lss (.v 3) (.len (.v 0))) ig (.yld 0 [.v 2])
def f5:T:= .loop 1 [.c (.l 16 []), .c (.i .i64 0)] lg
def Zp:T:= .w (.chk (.len (.v 0))) (.blk 0 f5 (.ret [.v 2]))
def Yt:=xc @kf.eq_1<|xc @jr.eq_1<|xc @jq.eq_1<|xc @ig.eq_1<|xc @lg.eq_1<|Cf @Zp.eq_1
def kd:T:= .w (.chk (.ite (.v 3) (.slen (.proj 0 (.v 0))) F6)) (.w (.chk (.ite (.ite (.ite (.v 3) (.mget (.proj 0 (.v 2)) (.proj 0 (.v 0)) ea1) ea1) (.un .not (.bin .eql (.proj 1 (.v 0)) ea2)) ea1) (.bin .eql (.proj 1 (.v 0)) (.c (.i .i64 28))) F6)) (.ret [.ite (.ite (.v 3) (.mget (.proj 0 (.v 2)) (.proj 0 (.v 0)) ea1) ea1) (.ite (.bin .eql (.proj 1 (.v 0)) ea2) ea3 (.bin .eql (.proj 1 (.v 0)) (.c (.i .i64 28)))) ea1]))
def Zn:T:= .w (.chk (.fit 16 (.v 0))) (.w (.clo none true (.proj 0 (.v 1)) [.sub 0 16 (.v 0)] 1) kd)
def Aj6:=xc @kd.eq_1<|Cf @Zn.eq_1
def kc:T:= .yld 1 [.bin .add (.v 1) ea2]
def jp:T:= .w (.chk (.fit 13 xq)) (.ite (.ite (.ite (.ite (.bin .gtr (.slen (.proj 0 (.idx 16 (.v 0) (.v 1)))) (.c (.i .i64 300))) ea3 (.bin .gtr (.slen (.proj 3 xq)) (.c (.i .i64 300)))) ea3 (.bin .gtr (.slen (.proj 4 xq)) (.c (.i .i64 300)))) ea3 (.bin .gtr (.slen (.proj 5 xq)) (.c (.i .i64 300)))) (.ret [ea1]) kc)
def lf:T:= .ite (.bin .lss (.v 1) (.len (.v 0))) jp (.yld 0 [])
def f4:T:= .loop 1 [.c (.i .i64 0)] lf
def jk:T:= .blk 0 f4 (.ret [ea3])
def Zm:T:= .ite (.bin .gtr (.len (.v 0)) (.c (.i .i64 40))) (.ret [ea1]) jk
def Ms:=xc @kc.eq_1<|xc @jp.eq_1<|xc @lf.eq_1<|xc @jk.eq_1<|Cf @Zm.eq_1
def kb:T:= .yld 1 [.bin .add (.v 2) ea2]
def jm:T:= .ite (.eqs true true [.s, .i .i64, .i .i64, .b, .i .u64, .i .u64, .s, .s, .s, .i .i64, .i .i64, .i .i64, .i .i64, .i .i64, .i .i64, .i .u64] (.sub 0 16 (.idx 16 (.v 0) (.v 2))) (.sub 0 16 (.idx 16 (.v 1) (.v 2)))) (.ret [ea1]) kb
def lc:T:= .ite (.bin .lss (.v 2) (.len (.v 0))) jm (.yld 0 [])
def f2:T:= .loop 1 [.c (.i .i64 0)] lc
def jj:T:= .blk 0 f2 (.ret [ea3])
def Zl:T:= .ite (.bin .neq (.len (.v 0)) (.len (.v 1))) (.ret [ea1]) jj
def l6:=xc @kb.eq_1<|xc @jm.eq_1<|xc @lc.eq_1<|xc @jj.eq_1<|Cf @Zl.eq_1
def kz:T:= .w (.chk (.fit 16 qf)) (.yld 1 [.app 16 (.v 2) (.lit 16 [qf]),Yc])
def jl:T:= .yld 1 [.v 2,Yc]
def i9:T:= .ite (.v 4) kz jl
def ic:T:= .w (.call none true Wb [.proj 0 (.idx 16 (.v 0) (.v 3)), .v 1] 1) i9
def lz:T:= .ite (.bin .lss (.v 3) (.len (.v 0))) ic (.yld 0 [.v 2])
def fr:T:= .loop 1 [.c (.l 16 []), .c (.i .i64 0)] lz
def Zh:T:= .blk 0 fr (.ret [.v 2])
def Ys:=xc @kz.eq_1<|xc @jl.eq_1<|xc @i9.eq_1<|xc @ic.eq_1<|xc @lz.eq_1<|Cf @Zh.eq_1
def ky:T:= .yld 1 [.bin .add (.v 2) ea2]
def jh:T:= .ite (.ite (.ite (.ite (.bin .eql (.proj 1 (.idx 16 (.v 0) (.v 2))) (.c (.i .i64 2))) ea3 (.bin .eql (.proj 1 (.idx 16 (.v 0) (.v 2))) (.c (.i .i64 15)))) ea3 (.bin .eql (.proj 1 (.idx 16 (.v 0) (.v 2))) (.c (.i .i64 33)))) (.bin .eql (.proj 6 (.idx 16 (.v 0) (.v 2))) (.v 1)) ea1) (.ret [ea3]) ky
def lw:T:= .ite (.bin .lss (.v 2) (.len (.v 0))) jh (.yld 0 [])
def fp:T:= .loop 1 [.c (.i .i64 0)] lw
def Zg:T:= .blk 0 fp (.ret [ea1])
def Yr:=xc @ky.eq_1<|xc @jh.eq_1<|xc @lw.eq_1<|Cf @Zg.eq_1
def kx:T:= .yld 1 [Yc]
def jg:T:= .w (.chk (.ite (.ite (.un .not (.v 4)) (.un .not (.bin .gtr (.v 3) ea0)) ea1) (.bin .neq (.proj 0 (.idx 1 (.v 2) (.v 3))) (.c (.s [42]))) F6)) (.ite (.ite (.un .not (.v 4)) (.ite (.bin .gtr (.v 3) ea0) ea3 (.bin .neq (.proj 0 (.idx 1 (.v 2) (.v 3))) (.c (.s [42])))) ea1) (.ret [ea1]) kx)
def i8:T:= .w (.call none true Wy [.proj 0 (.idx 1 (.v 2) (.v 3))] 1) jg
def X7:T:= .ite (.bin .lss (.v 3) (.len (.v 2))) i8 (.yld 0 [])
def fm:T:= .loop 1 [.c (.i .i64 0)] X7
def ib:T:= .w (.chk (.len (.v 2))) (.blk 0 fm (.ret [ea3]))
def ik:T:= .w (.call none false Wz [.ssl (.v 0) ea0 (.bin .sub Kz ea2), .c (.s [46])] 1) ib
def gt:T:= .ite (.ite (.bin .geq Kz (.c (.i .i64 255))) ea3 (.un .not (.v 1))) (.ret [ea1]) ik
def gl:T:= .w (.call (some (.un .not (.bin .geq Kz (.c (.i .i64 255))))) true S4 [.v 0, .c (.s [46])] 1) gt
def Zf:T:= .ite (.bin .eql (.v 0) (.c (.s [46]))) (.ret [ea3]) gl
def Lz:=xc @kx.eq_1<|xc @jg.eq_1<|xc @i8.eq_1<|xc @X7.eq_1<|xc @ib.eq_1<|xc @ik.eq_1<|xc @gt.eq_1<|xc @gl.eq_1<|Cf @Zf.eq_1
def kw:T:= .ret [.ite zr ea3 (.v 2)]
def Zd:T:= .w (.chk (.ite (.un .not zr) (.bin .add (.c (.s [46])) (.v 1)) F6)) (.w (.call (some (.un .not zr)) true S4 [.v 0, .bin .add (.c (.s [46])) (.v 1)] 1) kw)
def Aj5:=xc @kw.eq_1<|Cf @Zd.eq_1
def kv:T:= .ret [.ite (.ite (.v 3) (.v 5) ea1) (.bin .eql (.v 6) (.len (.v 4))) ea1]
def jf:T:= .w (.chk (.ite (.ite (.v 3) (.v 5) ea1) F6 F6)) (.w (.call (some (.ite (.v 3) (.v 5) ea1)) true Wx [.v 2, .v 4] 1) kv)
def i7:T:= .w (.call none false S3 [.v 1] 2) jf
def Zc:T:= .w (.call none false S3 [.v 0] 2) i7
def Aj4:=xc @kv.eq_1<|xc @jf.eq_1<|xc @i7.eq_1<|Cf @Zc.eq_1
def Zb:T:= .w (.call none true Ww [.v 0, .v 1] 1) (.ret [.v 2])
def Aj3:=Cf @Zb.eq_1
def Zz:T:= .w (.call none false Wv [.v 0, .v 1,ea0, .c (.i .i64 (-1))] 1) (.ret [.v 2])
def Aj2:=Cf @Zz.eq_1
def kq:T:= .yld 1 [.bin .add (.v 1) ea2]
def jd:T:= .w (.chk (.ite (.ite (.ite (.bin .lss ea7 (.c (.i .u8 97))) ea3 (.bin .gtr ea7 (.c (.i .u8 122)))) (.un .not (.bin .lss ea7 (.c (.i .u8 48)))) ea1) (.bin .gtr ea7 (.c (.i .u8 57))) F6)) (.ite (.ite (.ite (.ite (.ite (.bin .lss ea7 (.c (.i .u8 97))) ea3 (.bin .gtr ea7 (.c (.i .u8 122)))) (.ite (.bin .lss ea7 (.c (.i .u8 48))) ea3 (.bin .gtr ea7 (.c (.i .u8 57)))) ea1) (.bin .neq ea7 (.c (.i .u8 45))) ea1) (.bin .neq ea7 (.c (.i .u8 95))) ea1) (.ret [ea1]) kq)
def X6:T:= .ite (.bin .lss (.v 1) Kz) jd (.yld 0 [])
def fh:T:= .loop 1 [.c (.i .i64 0)] X6
def i6:T:= .w (.chk Kz) (.blk 0 fh (.ret [ea3]))
def Zy:T:= .ite (.ite (.bin .eql (.v 0) (.c (.s []))) ea3 (.bin .gtr Kz (.c (.i .i64 63)))) (.ret [ea1]) i6
def T3:=xc @kq.eq_1<|xc @jd.eq_1<|xc @X6.eq_1<|xc @i6.eq_1<|Cf @Zy.eq_1
def kj:T:= .ret [.c (.l 1 []),ea3]
def jc:T:= .ret [.c (.l 1 []),ea1]
def i5:T:= .yld 1 [.v 1, .v 2,Yc]
def iz:T:= .ret [.c (.l 1 []),ea1]
def ij:T:= .w (.chk (.scal sy)) (.yld 1 [.app 1 (.v 1) (.lit 1 [sy]),Yc,Yc])
def gr:T:= .w (.chk (.ite (.ite f8 (.bin .eql sy (.c (.s [42]))) ea1) (.bin .gtr (.v 2) ea0) F6)) (.ite (.ite (.un .not (.v 4)) ea3 (.ite (.bin .eql sy (.c (.s [42]))) (.bin .gtr (.v 2) ea0) ea1)) iz ij)
def gh:T:= .w (.call none true Wq [sy] 1) gr
def gy:T:= .ite (.bin .neq (.sidx (.v 0) (.v 3)) (.c (.i .u8 46))) i5 gh
def lv:T:= .ite (.bin .lss (.v 3) Kz) gy (.yld 0 [.v 1])
def fg:T:= .loop 1 [.c (.l 1 []), .c (.i .i64 0), .c (.i .i64 0)] lv
def gv:T:= .ret [.v 1,ea3]
def gk:T:= .blk 0 fg gv
def Xn:T:= .ite (.ite (.ite (.bin .lss Kz (.c (.i .i64 2))) ea3 (.bin .gtr Kz (.c (.i .i64 254)))) ea3 (.bin .neq (.sidx (.v 0) (.bin .sub Kz ea2)) (.c (.i .u8 46)))) jc gk
def Zx:T:= .ite (.bin .eql (.v 0) (.c (.s [46]))) kj Xn
def Mr:=xc @kj.eq_1<|xc @jc.eq_1<|xc @i5.eq_1<|xc @iz.eq_1<|xc @ij.eq_1<|xc @gr.eq_1<|xc @gh.eq_1<|xc @gy.eq_1<|xc @lv.eq_1<|xc @gv.eq_1<|xc @gk.eq_1<|xc @Xn.eq_1<|Cf @Zx.eq_1
def j9:T:= .yld 1 [.bin .add (.v 2) ea2]
def X5:T:= .ite (.ite (.ite (.bin .lss (.v 2) (.len (.v 0))) (.bin .lss (.v 2) (.len (.v 1))) ea1) (.bin .eql (.proj 0 (.idx 1 (.v 0) (.bin .sub (.bin .sub (.len (.v 0)) ea2) (.v 2)))) (.proj 0 (.idx 1 (.v 1) (.bin .sub (.bin .sub (.len (.v 1)) ea2) (.v 2))))) ea1) j9 (.yld 0 [.v 2])
def Ws:T:= .loop 1 [.c (.i .i64 0)] X5
def Zw:T:= .blk 0 Ws (.ret [.v 2])
def Yp:=xc @j9.eq_1<|xc @X5.eq_1<|Cf @Zw.eq_1
def Zv:T:= .ret [.ite (.bin .geq Kz Xx) (.bin .eql (.ssl (.v 0) (.bin .sub Kz Xx) Kz) (.v 1)) ea1]
def s6:=Cf @Zv.eq_1
def j8:T:= .w (.call none false oh [.v 0, .v 3] 1) (.ret [.v 4])
def jb:T:= .yld 0 [.bin .add (.v 4) ea2]
def i4:T:= .w (.call none true Wk [.v 0, .v 1] 1) jb
def iy:T:= .ite (.bin .lss (.v 3) ea0) i4 (.yld 0 [.v 3])
def g9:T:= .yld 0 [.v 5, .v 6, .v 7]
def gp:T:= .w (.chk (.idx 1 (.v 6) (.v 7))) (.w (.chk (.scal (.ssl (.v 5) ea0 (.bin .add (.v 8) (.v 2))))) (.yld 1 [.ssl (.v 5) (.bin .add (.v 8) Xx) (.slen (.v 5)), .set 1 (.v 6) (.v 7) 0 [.ssl (.v 5) ea0 (.bin .add (.v 8) (.v 2))], .bin .add (.v 7) ea2]))
def gf:T:= .ite (.bin .lss (.v 8) ea0) g9 gp
def gx:T:= .w (.call none true S2 [.v 5, .v 1] 1) gf
def gq:T:= .yld 0 [.v 5, .v 6, .v 7]
def X4:T:= .ite (.bin .lss (.v 7) (.bin .sub (.mn (.v 4) (.bin .add Kz ea2)) ea2)) gx gq
def Wr:T:= .loop 1 [.v 0, .rep 1 (.mn (.v 4) (.bin .add (.slen (.v 0)) (.c (.i .i64 1)))) (.c (.s [])), .c (.i .i64 0)] X4
def gj:T:= .w (.chk (.idx 1 (.v 6) (.v 7))) (.w (.chk (.scal (.v 5))) (.ret [.lsl 1 (.set 1 (.v 6) (.v 7) 0 [.v 5]) ea0 (.bin .add (.v 7) ea2)]))
def Xm:T:= .w (.chk (.bin .sub (.mn (.v 4) (.bin .add Kz ea2)) ea2)) (.blk 0 Wr gj)
def Xl:T:= .blk 0 iy Xm
def Xh:T:= .ite (.bin .eql (.v 1) (.c (.s []))) j8 Xl
def Zq:T:= .ite (.bin .eql (.v 3) ea0) (.ret [.c (.l 1 [])]) Xh
def l5:=xc @j8.eq_1<|xc @jb.eq_1<|xc @i4.eq_1<|xc @iy.eq_1<|xc @g9.eq_1<|xc @gp.eq_1<|xc @gf.eq_1<|xc @gx.eq_1<|xc @gq.eq_1<|xc @X4.eq_1<|xc @gj.eq_1<|xc @Xm.eq_1<|xc @Xl.eq_1<|xc @Xh.eq_1<|Cf @Zq.eq_1
def j7:T:= .yld 1 [.bin .add (.v 1) ea2]
def jz:T:= .w (.chk (.ite (.ite (.un .not (.ite (.bin .geq ea7 (.c (.i .u8 97))) (.bin .leq ea7 (.c (.i .u8 122))) ea1)) (.bin .geq ea7 (.c (.i .u8 48))) ea1) (.bin .leq ea7 (.c (.i .u8 57))) F6)) (.ite (.un .not (.ite (.ite (.ite (.ite (.bin .geq ea7 (.c (.i .u8 97))) (.bin .leq ea7 (.c (.i .u8 122))) ea1) ea3 (.ite (.bin .geq ea7 (.c (.i .u8 48))) (.bin .leq ea7 (.c (.i .u8 57))) ea1)) ea3 (.bin .eql ea7 (.c (.i .u8 45)))) ea3 (.bin .eql ea7 (.c (.i .u8 95))))) (.ret [ea1]) j7)
def lq:T:= .ite (.bin .lss (.v 1) Kz) jz (.yld 0 [])
def ff:T:= .loop 1 [.c (.i .i64 0)] lq
def i3:T:= .blk 0 ff (.ret [ea3])
def ix:T:= .ite (.ite (.bin .lss Kz ea2) ea3 (.bin .gtr Kz (.c (.i .i64 63)))) (.ret [ea1]) i3
def Zk:T:= .ite (.bin .eql (.v 0) (.c (.s [42]))) (.ret [ea3]) ix
def l4:=xc @j7.eq_1<|xc @jz.eq_1<|xc @lq.eq_1<|xc @i3.eq_1<|xc @ix.eq_1<|Cf @Zk.eq_1
def y6:T:= .ite (.ite (.bin .lss (.v 1) ea0) ea3 (.bin .gtr (.v 1) (.v 2))) (.yld 0 [.v 2]) (.yld 0 [.v 1])
def yr:T:= .w (.chk (.idx 1 (.v 5) (.v 6))) (.w (.chk (.scal (.ssl (.v 4) ea0 (.v 8)))) (.yld 1 [.ssl (.v 4) (.v 8) (.slen (.v 4)), .set 1 (.v 5) (.v 6) 0 [.ssl (.v 4) ea0 (.v 8)], .bin .add (.v 6) ea2]))
def yf:T:= .w (.call none true og [.v 4] 2) yr
def zk:T:= .ite (.bin .lss (.v 6) (.bin .sub (.v 3) ea2)) yf (.yld 0 [.v 4, .v 5])
def vm:T:= .loop 1 [.v 0, .rep 1 (.v 3) (.c (.s [])), .c (.i .i64 0)] zk
def yy:T:= .w (.chk (.idx 1 (.v 5) (.bin .sub (.v 3) ea2))) (.w (.chk (.scal (.v 4))) (.ret [.set 1 (.v 5) (.bin .sub (.v 3) ea2) 0 [.v 4]]))
def yq:T:= .ite (.bin .gtr (.v 3) ea0) yy (.ret [.v 5])
def xp:T:= .blk 0 vm yq
def xl:T:= .blk 0 y6 xp
def td:T:= .w (.call none true bh [.v 0] 1) xl
def j6:T:= .ret [.bin .add (.v 2) ea2]
def jy:T:= .w (.call none true bh [.v 0] 1) j6
def ir:T:= .w (.call none true bg [.v 0, .sidx (.v 1) ea0] 1) (.ret [.v 2])
def iw:T:= .yld 1 [.ssl (.v 2) (.bin .add (.v 4) Xx) (.slen (.v 2)),Yc]
def g8:T:= .ite (.bin .eql (.v 4) (.c (.i .i64 (-1)))) (.ret [.v 3]) iw
def lj:T:= .w (.call none true S2 [.v 2, .v 1] 1) g8
def vl:T:= .loop 1 [.v 0, .c (.i .i64 0)] lj
def gn:T:= .blk 0 vl (.ret [F6])
def gb:T:= .ite (.bin .eql Xx ea2) ir gn
def Zj:T:= .ite (.bin .eql Xx ea0) jy gb
def Aj1:=xc @j6.eq_1<|xc @jy.eq_1<|xc @ir.eq_1<|xc @iw.eq_1<|xc @g8.eq_1<|xc @lj.eq_1<|xc @gn.eq_1<|xc @gb.eq_1<|Cf @Zj.eq_1
def Y9:T:= .w (.call none true Wj [.v 0, .v 1] 1) (.ret [.v 2])
def Aj0:=Cf @Y9.eq_1
def tz:T:= .ret [.scal F6]
def y5:T:= .ret [.conv .i32 (.sidx (.v 0) ea0),ea2]
def yp:T:= .w (.call none true od [.v 0] 2) (.ret [.v 1, .v 2])
def tx:T:= .ite (.ite (.bin .neq (.v 0) (.c (.s []))) (.bin .lss (.sidx (.v 0) ea0) (.c (.i .u8 128))) ea1) y5 yp
def j5:T:= .w (.call none true V9 [.v 0, .sidx (.v 1) ea0] 1) (.ret [.v 2])
def jx:T:= .ite (.bin .geq Xx Kz) (.ret [.c (.i .i64 (-1))]) (.ret [.scal F6])
def im:T:= .ite (.bin .eql Xx ea2) j5 jx
def Y8:T:= .ite (.ite (.bin .eql Xx ea0) ea3 (.bin .eql (.v 1) (.v 0))) (.ret [ea0]) im
def s5:=xc @j5.eq_1<|xc @jx.eq_1<|xc @im.eq_1<|Cf @Y8.eq_1
def y4:T:= .ret [.c (.i .i32 65533),ea0]
def yn:T:= .w (.chk (.sidx (.v 0) ea0)) (.ret [.scal F6])
def tw:T:= .ite (.bin .lss Kz ea2) y4 yn
def Y7:T:= .w (.call none true bf [.v 0, .v 1] 1) (.ret [.v 2])
def z9:=Cf @Y7.eq_1
/- the checks -/
abbrev sg:Nat→Option Nat:=(Wm [(6,549755879424)])
abbrev FO (f a b:Nat) (t:T):Prop:=FOK Go.Proofs.Tryd.prog sg f ⟨a,b,t⟩
theorem Ad7:FO vf 2 0 tg:=fok {own:=[4096]} (by kernel_rfl)
theorem Ad6:FO vc 0 0 zf:=fok {own:=[4104,1099511631880]} (by kernel_rfl)
theorem Ad5:FO sq 2 0 zd:=fok {loops:=[(0,⟨rg [(8,1),(10,1),(30,28)],[.t 29, .mp 12288]⟩),(2,⟨rg [(10,1),(36,21)],[.t 35, .mp 12288]⟩)],blks:=[(0,⟨rg [(8,1),(10,1),(29,29)],[.mp 12288]⟩),(2,⟨rg [(10,1),(35,22)],[.mp 12288]⟩)]} (by kernel_rfl)
theorem Ad4:FO vb 2 0 zc:=fok {} (by kernel_rfl)
theorem Ad3:FO vz 2 0 zb:=fok {} (by kernel_rfl)
theorem Az4:FO Wg 2 0 Zt:=fok {loops:=[(0,⟨rg [(7,55)],[.t 6, .ca 0 16 32000016 34 16]⟩)],blks:=[(0,⟨rg [(5,57)],[.ca 0 16 32000016 34 16]⟩)]} (by kernel_rfl)
theorem Az3:FO Jl 1 1 Zs:=fok {} (by kernel_rfl)
theorem Az2:FO Wd 2 0 Zr:=fok {} (by kernel_rfl)
theorem Az1:FO Pn 2 0 Zp:=fok {loops:=[(0,⟨rg [(4,1),(7,1),(11,12)],[.ta 5 16000005 34 16, .t 10]⟩)],blks:=[(0,⟨rg [(4,1),(7,16)],[.ta 5 16000005 34 16]⟩)]} (by kernel_rfl)
theorem Az0:FO S7 1 2 Zn:=fok {} (by kernel_rfl)
theorem Ay9:FO Pm 1 0 Zm:=fok {loops:=[(0,⟨rg [(2,1),(4,1),(8,36)],[.t 3]⟩)],blks:=[(0,⟨rg [(2,3),(8,36)],[]⟩)]} (by kernel_rfl)
theorem Ay8:FO Pl 2 0 Zl:=fok {loops:=[(0,⟨rg [(4,1),(11,15)],[.t 5]⟩)],blks:=[(0,⟨rg [(4,2),(11,15)],[]⟩)]} (by kernel_rfl)
theorem Ay7:FO Ph 2 0 Zh:=fok {loops:=[(0,⟨rg [(4,1),(7,21)],[.ta 5 16000005 34 16, .t 6]⟩)],blks:=[(0,⟨rg [(4,1),(6,22)],[.ta 5 16000005 34 16]⟩)]} (by kernel_rfl)
theorem Ay6:FO S6 2 0 Zg:=fok {loops:=[(0,⟨rg [(4,1),(6,32)],[.t 5]⟩)],blks:=[(0,⟨rg [(4,34)],[]⟩)]} (by kernel_rfl)
theorem Ay5:FO S5 1 0 Zf:=fok {loops:=[(0,⟨rg [(2,3),(23,16)],[.t 22]⟩)],blks:=[(0,⟨rg [(2,3),(22,17)],[]⟩)]} (by kernel_rfl)
theorem Ay4:FO Wc 2 0 Zd:=fok {} (by kernel_rfl)
theorem Ay3:FO Wb 2 0 Zc:=fok {} (by kernel_rfl)
theorem Ay2:FO S4 2 0 Zb:=fok {} (by kernel_rfl)
theorem Ay1:FO Wz 2 0 Zz:=fok {} (by kernel_rfl)
theorem Ay0:FO Wy 1 0 Zy:=fok {loops:=[(0,⟨rg [(2,3),(15,28)],[.t 14]⟩)],blks:=[(0,⟨rg [(2,3),(14,29)],[]⟩)]} (by kernel_rfl)
theorem Ax9:FO S3 1 0 Zx:=fok {loops:=[(0,⟨rg [(2,2),(7,51)],[.ta 4 16000004 9 1, .t 5, .t 6]⟩)],blks:=[(0,⟨rg [(2,2),(5,53)],[.ta 4 16000004 9 1]⟩)]} (by kernel_rfl)
theorem Ax8:FO Wx 2 0 Zw:=fok {loops:=[(0,⟨rg [(6,31)],[.t 5]⟩)],blks:=[(0,⟨rg [(6,31)],[.t 5]⟩)]} (by kernel_rfl)
theorem Ax7:FO Ww 2 0 Zv:=fok {} (by kernel_rfl)
theorem Ax6:FO Wv 4 0 Zq:=fok {loops:=[(0,⟨rg [(8,1),(11,55)],[.t 0, .ta 9 16000009 9 1, .t 10]⟩)],blks:=[(0,⟨rg [(3,1),(8,1),(11,55)],[.t 0, .ta 9 16000009 9 1, .t 10]⟩)],conds:=[(20,⟨rg [(21,4)],[.t 3]⟩)]} (by kernel_rfl)
theorem Ax5:FO Wq 1 0 Zk:=fok {loops:=[(0,⟨rg [(2,1),(4,1),(15,32)],[.t 3]⟩)],blks:=[(0,⟨rg [(2,3),(15,32)],[]⟩)]} (by kernel_rfl)
theorem Ax4:FO oh 2 0 td:=fok {loops:=[(0,⟨rg [(4,2),(8,42)],[.t 0, .ta 6 16000006 9 1, .t 7]⟩)],blks:=[(0,⟨rg [(4,2),(7,43)],[.t 0, .ta 6 16000006 9 1]⟩)],conds:=[(18,⟨[19],[.t 1]⟩)]} (by kernel_rfl)
theorem Ax3:FO Wk 2 0 Zj:=fok {loops:=[(0,⟨rg [(4,1),(6,1),(20,14)],[.t 0, .t 5]⟩)],blks:=[(0,⟨rg [(0,1),(4,3),(20,14)],[]⟩)]} (by kernel_rfl)
theorem Ax2:FO S2 2 0 Y9:=fok {} (by kernel_rfl)
theorem Ax1:FO bh 1 0 tz:=fok {loops:=[(0,⟨rg [(5,4)],[.t 2]⟩)],blks:=[(0,⟨rg [(5,4)],[.t 2]⟩)],bots:=[1]} (by kernel_rfl)
theorem Ax0:FO og 1 0 tx:=fok {} (by kernel_rfl)
theorem Aw9:FO Wj 2 0 Y8:=fok {loops:=[(1,⟨rg [(4,1),(11,3),(57,86)],[.t 8, .t 10]⟩)],blks:=[(1,⟨rg [(4,1),(8,1),(10,4),(57,86)],[]⟩)],conds:=[(64,⟨rg [(4,1),(11,1),(65,13)],[.t 8]⟩)],bots:=[8]} (by kernel_rfl)
theorem Aw8:FO od 1 0 tw:=fok {bots:=[5]} (by kernel_rfl)
theorem Aw7:FO V9 2 0 Y7:=fok {} (by kernel_rfl)
def Ab9:List (Nat×FT):=[(vf,⟨2,0,tg⟩),(vc,⟨0,0,zf⟩),(sq,⟨2,0,zd⟩),(vb,⟨2,0,zc⟩),(vz,⟨2,0,zb⟩),(Wg,⟨2,0,Zt⟩),(Jl,⟨1,1,Zs⟩),(Wd,⟨2,0,Zr⟩),(Pn,⟨2,0,Zp⟩),(S7,⟨1,2,Zn⟩),(Pm,⟨1,0,Zm⟩),(Pl,⟨2,0,Zl⟩),(Ph,⟨2,0,Zh⟩),(S6,⟨2,0,Zg⟩),(S5,⟨1,0,Zf⟩),(Wc,⟨2,0,Zd⟩),(Wb,⟨2,0,Zc⟩),(S4,⟨2,0,Zb⟩),(Wz,⟨2,0,Zz⟩),(Wy,⟨1,0,Zy⟩),(S3,⟨1,0,Zx⟩),(Wx,⟨2,0,Zw⟩),(Ww,⟨2,0,Zv⟩),(Wv,⟨4,0,Zq⟩),(Wq,⟨1,0,Zk⟩),(oh,⟨2,0,td⟩),(Wk,⟨2,0,Zj⟩),(S2,⟨2,0,Y9⟩),(bh,⟨1,0,tz⟩),(og,⟨1,0,tx⟩),(Wj,⟨2,0,Y8⟩),(od,⟨1,0,tw⟩),(V9,⟨2,0,Y7⟩)]
def tab:Nat→Option FT:=lkF Ab9
theorem tq:Tab Go.Proofs.Tryd.prog sg tab:=tv Ab9 ⟨Ad7,Ad6,Ad5,Ad4,Ad3,Az4,Az3,Az2,Az1,Az0,Ay9,Ay8,Ay7,Ay6,Ay5,Ay4,Ay3,Ay2,Ay1,Ay0,Ax9,Ax8,Ax7,Ax6,Ax5,Ax4,Ax3,Ax2,Ax1,Ax0,Aw9,Aw8,Aw7,trivial⟩ (X1 (q9 (by kernel_rfl) d3))
def wj:List (Nat×XK):=[(bg, .countS),(bf, .indexS)]
theorem pr:z0 Go.Proofs.Tryd.prog wj:=⟨⟨Go.Proofs.Tryd.f60,by kernel_rfl,by kernel_rfl,by kernel_rfl,by kernel_rfl,by kernel_rfl⟩,⟨Go.Proofs.Tryd.f67,by kernel_rfl,by kernel_rfl,by kernel_rfl,by kernel_rfl,by kernel_rfl⟩,trivial⟩
theorem wk (fn:Fns) (hC:Contract Go.Proofs.Tryd.prog sg fn):Contract Go.Proofs.Tryd.prog sg (Ov wj fn):=dc pr (Rk (by kernel_rfl)) fn hC
noncomputable def S:Fns:=sem tab (Ov wj)
theorem Ak5 {args rs:List PV} (h:XK.run .countS args=some rs):S bg args.length args=some rs:=Uc (by kernel_rfl) (by kernel_rfl) h
theorem Ak2 {args rs:List PV} (h:XK.run .indexS args=some rs):S bf args.length args=some rs:=Uc (by kernel_rfl) (by kernel_rfl) h
theorem ext_mono:Et (Ov wj):=(K6 wj)
def SF (f a m:Nat) (t:T):Prop:=∀ ⦃N:Nat⦄ ⦃args rs:List PV⦄ (hl:args.length=m) (h:t.ev S N args=some (.ret rs)),S f a args=some rs
theorem sf {f a m:Nat} (b:Nat) {t:T} (h:tab f=some ⟨a,b,t⟩) (hm:a % TAG+b=m):SF f a m t:=fun N args rs hl ht=>nx ext_mono h rfl (hl.trans hm.symm) ht
theorem Ad1:SF vf 2 2 tg:=sf 0 (by kernel_rfl) rfl
theorem Ad0:SF vc 0 0 zf:=sf 0 (by kernel_rfl) rfl
theorem Ac9:SF sq 2 2 zd:=sf 0 (by kernel_rfl) rfl
theorem Ac8:SF vb 2 2 zc:=sf 0 (by kernel_rfl) rfl
theorem Ac7:SF vz 2 2 zb:=sf 0 (by kernel_rfl) rfl
theorem Av7:SF Wg 2 2 Zt:=sf 0 (by kernel_rfl) rfl
theorem Av6:SF Jl 1 2 Zs:=sf 1 (by kernel_rfl) rfl
theorem Av5:SF Wd 2 2 Zr:=sf 0 (by kernel_rfl) rfl
theorem Av4:SF Pn 2 2 Zp:=sf 0 (by kernel_rfl) rfl
theorem Av3:SF S7 1 3 Zn:=sf 2 (by kernel_rfl) rfl
theorem Av2:SF Pm 1 1 Zm:=sf 0 (by kernel_rfl) rfl
theorem Av1:SF Pl 2 2 Zl:=sf 0 (by kernel_rfl) rfl
theorem Av0:SF Ph 2 2 Zh:=sf 0 (by kernel_rfl) rfl
theorem Aq9:SF S6 2 2 Zg:=sf 0 (by kernel_rfl) rfl
theorem Aq8:SF S5 1 1 Zf:=sf 0 (by kernel_rfl) rfl
theorem Aq7:SF Wc 2 2 Zd:=sf 0 (by kernel_rfl) rfl
theorem Aq6:SF Wb 2 2 Zc:=sf 0 (by kernel_rfl) rfl
theorem Aq5:SF S4 2 2 Zb:=sf 0 (by kernel_rfl) rfl
theorem Aq4:SF Wz 2 2 Zz:=sf 0 (by kernel_rfl) rfl
theorem Aq3:SF Wy 1 1 Zy:=sf 0 (by kernel_rfl) rfl
theorem Aq2:SF S3 1 1 Zx:=sf 0 (by kernel_rfl) rfl
theorem Aq1:SF Wx 2 2 Zw:=sf 0 (by kernel_rfl) rfl
theorem Aq0:SF Ww 2 2 Zv:=sf 0 (by kernel_rfl) rfl
theorem Ak9:SF Wv 4 4 Zq:=sf 0 (by kernel_rfl) rfl
theorem Ak8:SF Wq 1 1 Zk:=sf 0 (by kernel_rfl) rfl
theorem Ak7:SF Wk 2 2 Zj:=sf 0 (by kernel_rfl) rfl
theorem Ak6:SF S2 2 2 Y9:=sf 0 (by kernel_rfl) rfl
theorem Ak4:SF Wj 2 2 Y8:=sf 0 (by kernel_rfl) rfl
theorem Ak3:SF V9 2 2 Y7:=sf 0 (by kernel_rfl) rfl
end Go.X.G
