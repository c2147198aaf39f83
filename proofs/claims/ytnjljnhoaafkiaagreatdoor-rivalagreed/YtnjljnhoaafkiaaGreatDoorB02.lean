/- Lemmas. No conditions. -/
import Derived.Test.YtnjljnhoaafkiaaGreatDoorProg
import Derived.Test.YtnjljnhoaafkiaaGreatDoorB01
set_option linter.all false
set_option maxRecDepth 100000
open Go.Proofs.Tryz (prog)
namespace Go.TM
open Go.Proofs
def Gh:Zz5 prog 54 15 Tryz.f54 [.t 6]:=.z Tryz.func54
def OP:Zz5 prog 37 9 Tryz.f37 [.t 4]:=.z Tryz.func37
def UW:Zz5 prog 69 19 Tryz.f69 [.t 4]:=.z Tryz.func69
def PB:Zz5 prog 34 8 Tryz.f34 [.t 2]:=.z Tryz.func34
def FZ:Zz5 prog 196 21 Tryz.f196 [.t 2]:=.z Tryz.func196
def FU:Zz5 prog 159 9 Tryz.f159 [.t 4]:=.z Tryz.func159
def F_:Zz5 prog 197 17 Tryz.f197 [.t 2]:=.z Tryz.func197
def FV:Zz5 prog 173 19 Tryz.f173 [.t 4]:=.z Tryz.func173
def Fz:Zz5 prog 111 9 Tryz.f111 [.t 4]:=.z Tryz.func111
def UT:Zz5 prog 68 19 Tryz.f68 [.t 4]:=.z Tryz.func68
def FT:Zz5 prog 149 19 Tryz.f149 [.t 4]:=.z Tryz.func149
def Fx:Zz5 prog 109 9 Tryz.f109 [.t 4]:=.z Tryz.func109
def UX:Zz5 prog 71 11 Tryz.f71 []:=.z Tryz.func71
def Fu:Zz5 prog 104 134 Tryz.f104 [] [85]:=.z Tryz.func104
def VZ:Zz5 prog 138 49 Tryz.f138 [] [29]:=.z Tryz.func138
def Fv:Zz5 prog 105 8 Tryz.f105 [.t 2]:=.z Tryz.func105
def FQ:Zz5 prog 148 25 Tryz.f148 [.t 2]:=.z Tryz.func148
def FP:Zz5 prog 144 17 Tryz.f144 [.t 4]:=.z Tryz.func144
def Fw:Zz5 prog 106 6 Tryz.f106 [.t 2]:=.z Tryz.func106
def Ov:Zz5 prog 195 33 Tryz.f195 [.t 4]:=.z Tryz.func195
def Ou:Zz5 prog 193 22 Tryz.f193 [.t 6]:=.z Tryz.func193
def FW:Zz5 prog 191 30 Tryz.f191 [.t 2]:=.z Tryz.func191
def FY:Zz5 prog 194 30 Tryz.f194 [.t 4]:=.z Tryz.func194
def FX:Zz5 prog 192 59 Tryz.f192 [.t 2]:=.z Tryz.func192
def Ts:Zz5 prog 91 41 Tryz.f91 [.t 2]:=.z Tryz.func91
def Kh:Zz5 prog 30 18 Tryz.f30 [.t 2]:=.z Tryz.func30
def XO:Zz5 prog 47 18 Tryz.f47 [.t 2]:=.z Tryz.func47
def OT:Zz5 prog 53 16 Tryz.f53 [.cn 2 6]:=.z Tryz.func53
def U_:Zz5 prog 82 11 Tryz.f82 [.t 6]:=.z Tryz.func82
def Fy:Zz5 prog 110 8 Tryz.f110 [.t 3]:=.z Tryz.func110
def FA:Zz5 prog 112 8 Tryz.f112 [.t 3]:=.z Tryz.func112
def OU:Zz5 prog 55 43 Tryz.f55 [.cn 6 8] [] [4]:=.z Tryz.func55
def UR:Zz5 prog 56 21 Tryz.f56 [.t 4]:=.z Tryz.func56
def T8:Zz5 prog 19 77 Tryz.f19 [.t 4,.t 5,.t 6] [54,57]:=.z Tryz.func19
def Tn:Zz5 prog 64 11 Tryz.f64 [.t 4]:=.z Tryz.func64
def OV:Zz5 prog 57 4 Tryz.f57 [.t 2]:=.z Tryz.func57
def Tq:Zz5 prog 83 10 Tryz.f83 [] [7,9]:=.z Tryz.func83
def Ki:Zz5 prog 84 53 Tryz.f84 [.t 5] [50]:=.z Tryz.func84
def OO:Zz5 prog 31 96 Tryz.f31 [.t 2,.t 3] [30] [] [7]:=.z Tryz.func31
def T7:Zz5 prog 10 19 Tryz.f10 [.t 2,.t 3,.t 4]:=.z Tryz.func10
def PC:Zz5 prog 42 23 Tryz.f42 [.cn 4 2,.t 5]:=.z Tryz.func42
def UP:Zz5 prog 20 51 Tryz.f20 [.c 4,.c 5,.t 6]:=.z Tryz.func20
def Gg:Zz5 prog 48 16 Tryz.f48 [.t 4]:=.z Tryz.func48
def x_:Zz5 prog 49 15 Tryz.f49 [.t 6]:=.z Tryz.func49
def Zlv:Zz5 prog 81 40 Tryz.f81 [.t 2] [24,29]:=.z Tryz.func81
def Gf:Zz5 prog 12 26 Tryz.f12 [.t 4]:=.z Tryz.func12
def PA:Zz5 prog 23 26 Tryz.f23 [.t 4]:=.z Tryz.func23
def Tb:Zz5 prog 24 26 Tryz.f24 [.t 4]:=.z Tryz.func24
