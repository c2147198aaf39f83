/- Lemmas. No conditions. -/
import Derived.Test.YtnjljnhoaafkiaaGreatDoorProg
import Derived.Test.YtnjljnhoaafkiaaGreatDoorB01
set_option linter.all false
set_option maxRecDepth 100000
open Go.Proofs.Tryz (prog)
namespace Go.TM
open Go.Proofs
def Zs9:Zz5 prog 5 11 Tryz.f5 [.t 2]:=.z Tryz.func5
def Zrh:Zz5 prog 7 30 Tryz.f7 [.t 6]:=.z Tryz.func7
def Zlp:Zz5 prog 8 29 Tryz.f8 [.t 10,.t 11]:=.z Tryz.func8
def Zpc:Zz5 prog 11 60 Tryz.f11 [.t 8,.t 9]:=.z Tryz.func11
def Zr3:Zz5 prog 13 100 Tryz.f13 [.t 10,.t 11,.t 12,.t 13]:=.z Tryz.func13
def Zr4:Zz5 prog 16 59 Tryz.f16 [.t 2]:=.z Tryz.func16
def Zr5:Zz5 prog 17 64 Tryz.f17 [.t 2]:=.z Tryz.func17
def Zpd:Zz5 prog 26 37 Tryz.f26 [.cn 10 7,.t 11]:=.z Tryz.func26
def Zpe:Zz5 prog 27 5 Tryz.f27 [.t 2]:=.z Tryz.func27
def Zn4:Zz5 prog 28 8 Tryz.f28 [.t 6]:=.z Tryz.func28
def Zpf:Zz5 prog 32 42 Tryz.f32 [.cn 6 3,.t 7]:=.z Tryz.func32
def Zpg:Zz5 prog 33 35 Tryz.f33 [.t 6]:=.z Tryz.func33
def Zr6:Zz5 prog 35 42 Tryz.f35 [.t 4]:=.z Tryz.func35
def Zr7:Zz5 prog 36 11 Tryz.f36 [.t 3] [7]:=.z Tryz.func36
def Zph:Zz5 prog 38 28 Tryz.f38 [.t 4]:=.z Tryz.func38
def Zr8:Zz5 prog 39 20 Tryz.f39 [.t 4]:=.z Tryz.func39
def Zpi:Zz5 prog 40 36 Tryz.f40 [.t 4]:=.z Tryz.func40
def Zr9:Zz5 prog 41 45 Tryz.f41 [.t 6]:=.z Tryz.func41
def Zsa:Zz5 prog 50 50 Tryz.f50 [.t 2]:=.z Tryz.func50
def Zsb:Zz5 prog 51 63 Tryz.f51 [.t 4] [18,32,48,62]:=.z Tryz.func51
def Zsc:Zz5 prog 52 95 Tryz.f52 [.t 4] [18,32,47]:=.z Tryz.func52
def Qyt:Zz5 prog 60 15 Tryz.f60 [.t 6]:=.z Tryz.func60
def Zsd:Zz5 prog 61 13 Tryz.f61 [.t 4] [] [2]:=.z Tryz.func61
def Zpj:Zz5 prog 62 51 Tryz.f62 [] [25,29,38]:=.z Tryz.func62
def Zse:Zz5 prog 63 27 Tryz.f63 [.t 8]:=.z Tryz.func63
def Zsf:Zz5 prog 65 27 Tryz.f65 [.t 2]:=.z Tryz.func65
def Zm5:Zz5 prog 66 12 Tryz.f66 [.t 4]:=.z Tryz.func66
def Zlf:Zz5 prog 67 14 Tryz.f67 [.t 6]:=.z Tryz.func67
def Zpk:Zz5 prog 70 49 Tryz.f70 [.t 6]:=.z Tryz.func70
def Zn5:Zz5 prog 72 61 Tryz.f72 [.t 2]:=.z Tryz.func72
def Zsg:Zz5 prog 73 20 Tryz.f73 [.t 4]:=.z Tryz.func73
def Zsh:Zz5 prog 74 42 Tryz.f74 [.t 4]:=.z Tryz.func74
def Zsi:Zz5 prog 75 8 Tryz.f75 [.t 2]:=.z Tryz.func75
def Zsj:Zz5 prog 76 16 Tryz.f76 [.t 3]:=.z Tryz.func76
def Zsk:Zz5 prog 98 19 Tryz.f98 [.t 4]:=.z Tryz.func98
def Zsl:Zz5 prog 99 26 Tryz.f99 [.t 5]:=.z Tryz.func99
def Zqk:Zz5 prog 100 58 Tryz.f100 [.t 2]:=.z Tryz.func100
def Zql:Zz5 prog 101 60 Tryz.f101 [.t 2]:=.z Tryz.func101
def Zqm:Zz5 prog 102 65 Tryz.f102 [.t 2]:=.z Tryz.func102
def Zqn:Zz5 prog 103 20 Tryz.f103 [.t 4]:=.z Tryz.func103
def Zqo:Zz5 prog 107 19 Tryz.f107 [.t 4]:=.z Tryz.func107
def Zqp:Zz5 prog 137 21 Tryz.f137 [.t 2]:=.z Tryz.func137
def Zqq:Zz5 prog 139 56 Tryz.f139 []:=.z Tryz.func139
def Zqr:Zz5 prog 140 65 Tryz.f140 []:=.z Tryz.func140
def Zok:Zz5 prog 141 57 Tryz.f141 [.t 6,.t 7]:=.z Tryz.func141
def Zol:Zz5 prog 142 32 Tryz.f142 []:=.z Tryz.func142
def Zom:Zz5 prog 143 133 Tryz.f143 [.t 6] [30,77,115]:=.z Tryz.func143
def Zqs:Zz5 prog 145 84 Tryz.f145 [.t 8] [41,58]:=.z Tryz.func145
def Zon:Zz5 prog 146 168 Tryz.f146 [.t 8,.t 9] [42,58,111,127]:=.z Tryz.func146
def Zqt:Zz5 prog 160 17 Tryz.f160 [.t 2]:=.z Tryz.func160
def Zoo:Zz5 prog 161 76 Tryz.f161 [] [35,51]:=.z Tryz.func161
def Zqu:Zz5 prog 162 7 Tryz.f162 [.t 2]:=.z Tryz.func162
def Zqv:Zz5 prog 163 33 Tryz.f163 [.t 2]:=.z Tryz.func163
def Znd:Zz5 prog 164 15 Tryz.f164 [.t 6]:=.z Tryz.func164
def Zne:Zz5 prog 165 36 Tryz.f165 [.t 10]:=.z Tryz.func165
def Znf:Zz5 prog 174 28 Tryz.f174 [.t 8,.t 9] [18]:=.z Tryz.func174
