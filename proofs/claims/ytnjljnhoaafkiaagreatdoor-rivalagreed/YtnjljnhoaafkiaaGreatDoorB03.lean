/- Lemmas. No conditions. -/
import Derived.Test.YtnjljnhoaafkiaaGreatDoorProg
import Derived.Test.YtnjljnhoaafkiaaGreatDoorB01
set_option linter.all false
set_option maxRecDepth 100000
open Go.Proofs.Tryz (prog)
namespace Go.TM
open Go.Proofs
def Tp:Zz5 prog 80 30 Tryz.f80 [.cn 2 4] [] [1]:=.z Tryz.func80
def FC:Zz5 prog 115 29 Tryz.f115 [.cn 2 2] [] [1005] [5]:=.z Tryz.func115
def FD:Zz5 prog 116 27 Tryz.f116 []:=.z Tryz.func116
def D6:Zz5 prog 90 21 Tryz.f90 [.cn 4 2]:=.z Tryz.func90
def D0:Zz5 prog 85 42 Tryz.f85 [.t 2]:=.z Tryz.func85
def D4:Zz5 prog 88 11 Tryz.f88 [.t 6]:=.z Tryz.func88
def VY:Zz5 prog 113 38 Tryz.f113 [.t 8] [17,37] [1006] [6]:=.z Tryz.func113
def FB:Zz5 prog 114 8 Tryz.f114 [.t 2]:=.z Tryz.func114
def D5:Zz5 prog 89 43 Tryz.f89 [.t 10] [24,29]:=.z Tryz.func89
def UU:C:=(.sr [.d 10 (.box 3 (.t 0))]
 (.sr [⟨.mv (.func 87),none,none,some ((.func 87),#[(.t 1)])⟩]
 (.drw [(0,.xl 11 2),(0,.xl 12 10),(0,.xa 13 12),(0,.d 14 (.sub3 2 (.t 11) (some (.t 13)) none)),(0,.d 15 (.build #[.nl] [(0,1,(.t 14))])),(0,.xl 16 3),(0,.d 17 (.sub (.t 16) (.ci 1))),(0,.d 18 (.mkf (.func 89) #[] #[(.t 2),(.t 10),(.t 4),(.t 5),(.t 6),(.t 7),(.t 8),(.t 9)]))] [.d 19 (.call (.func 88) #[(.t 15),(.t 17),(.t 18)])])))
def hS:Zj prog 86 20 UU []:=.o [] [19] Tryz.func86 K1
def T9:Zz5 prog 21 54 Tryz.f21 [.t 6,.t 7,.t 8]:=.z Tryz.func21
def OS:Zz5 prog 46 169 Tryz.f46 [.cn 4 2] [] [1039] [39]:=.z Tryz.func46
def OR:Zz5 prog 44 18 Tryz.f44 [.t 2]:=.z Tryz.func44
def UY:Zz5 prog 77 11 Tryz.f77 [.t 6]:=.z Tryz.func77
def VX:Zz5 prog 108 38 Tryz.f108 [.t 8] [17,37] [1006] [6]:=.z Tryz.func108
def OQ:Zz5 prog 43 22 Tryz.f43 [.t 6,.t 7]:=.z Tryz.func43
def UZ:Zz5 prog 78 9 Tryz.f78 [.t 4]:=.z Tryz.func78
def UN:Zz5 prog 15 30 Tryz.f15 [.t 4,.t 5]:=.z Tryz.func15
def UQ:Zz5 prog 45 12 Tryz.f45 [.t 4] [7,10]:=.z Tryz.func45
def Ta:Zz5 prog 22 48 Tryz.f22 [.t 4,.t 5] [35]:=.z Tryz.func22
def US:Zz5 prog 59 24 Tryz.f59 [.t 3]:=.z Tryz.func59
def To:Zz5 prog 79 8 Tryz.f79 [.t 2]:=.z Tryz.func79
def D7:Zz5 prog 94 39 Tryz.f94 [.t 6]:=.z Tryz.func94
def D8:Zz5 prog 95 29 Tryz.f95 [.t 4]:=.z Tryz.func95
