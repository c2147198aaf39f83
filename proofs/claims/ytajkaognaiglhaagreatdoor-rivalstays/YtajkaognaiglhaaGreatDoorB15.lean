/- Lemmas. No conditions. -/
import Derived.Test.YtajkaognaiglhaaGreatDoorB14
set_option linter.all false
set_option maxRecDepth 100000
open Go.Proofs.Tryz (prog)
noncomputable section
namespace Go.TM
open Go.Proofs
def IU:C:=(.reg [.m 2 0,.d 3 (.nilc (.t 2)),.xo 4 0 3,.d 5 (.call (.func 90) #[(.t 4)])])
def Ln:Zg prog 65 6 IU []:=.o [] [] Tryz.func65 K1
def IV:C:=(.reg [.m 2 0,.d 3 (.nilc (.t 2)),.xo 4 0 3,.d 5 (.call (.func 91) #[(.t 4)])])
def Lo:Zg prog 66 6 IV []:=.o [] [] Tryz.func66 K1
noncomputable def Lc:C:=(.seq (.cd 13 (Zl Tryz.f90 0))
 (.seq (.seq (.cd 13 (Zl Tryz.f90 1))
 (.ite (.t 6) (.seq (.ite (.cb true) (.seq (.cd 13 (Zl Tryz.f90 2))
 (.cd 13 (Zl Tryz.f90 3))) .skip)
 .ret) .skip))
 (.reg [.m 11 0,.d 12 (.call (.func 122) #[(.t 11)])])))
def DN:Zg prog 90 13 Lc []:=.o [1000,1001,1002,1003] [] Tryz.func90 K1
def Cc:Zz5:=[.inr ({ dst:=none,op:=(.call { callee:=.value (.func 93),args:=#[],argTypes:=#[] }),type:=0,pos := "", after:=#[],guard:=none },some 2,none)]
def BD:Jc prog [] 13 (Zl Tryz.f90 0) [0]=some Cc:=K1
def Cd:Zz5:=[.inl (.m 3 0),.inl (.d 4 (.nilc (.t 3))),.inl (.xo 5 0 4),.inr ({ dst:=none,op:=(.call { callee:=.value (.func 121),args:=#[(.t 5),(.const (.int .i32 0)),(.const (.int .i32 1))],argTypes:=#[178,21,21] }),type:=4,pos := "", after:=#[],guard:=none },some 6,none)]
def BE:Jc prog [] 13 (Zl Tryz.f90 1) [3]=some Cd:=K1
def Ce:Zz5:=[.inr ({ dst:=none,op:=(.call { callee:=.value (.func 94),args:=#[],argTypes:=#[] }),type:=0,pos := "", after:=#[],guard:=none },some 7,none)]
def BF:Jc prog [] 13 (Zl Tryz.f90 2) [0]=some Ce:=K1
def Cf:Zz5:=[.inl (.m 8 0),.inr ({ dst:=none,op:=(.convert 176 154 (.t 8)),type:=154,pos := "", after:=#[],guard:=none },some 9,none),.inr ({ dst:=none,op:=(.call { callee:=.value (.func 105),args:=#[(.t 9)],argTypes:=#[154] }),type:=0,pos := "", after:=#[],guard:=none },some 10,none)]
def BG:Jc prog [] 13 (Zl Tryz.f90 3) [1,2]=some Cf:=K1
noncomputable def Ld:C:=(.seq (.ite (.cb true) (.seq (.cd 21 (Zl Tryz.f91 0))
 (.seq (.cd 21 (Zl Tryz.f91 1))
 (.cd 21 (Zl Tryz.f91 2)))) .skip)
 (.seq (.cd 21 (Zl Tryz.f91 3))
 (.seq (.sr [.m 15 2,.d 16 (.cmp .neq (.t 15) (.const (.int .i32 0)))]
 (.ite (.t 16) (.reg [.m 17 0,.m 18 2,.d 19 (.call (.func 124) #[(.t 17),(.t 18)])]) .skip))
 (.cd 21 (Zl Tryz.f91 6)))))
def DO:Zg prog 91 21 Ld []:=.o [1000,1001,1002,1003,1006] [] Tryz.func91 K1
def Cg:Zz5:=[.inl (.m 3 0),.inl (.d 4 (.nilc (.t 3))),.inl (.xo 5 0 4),.inr ({ dst:=none,op:=(.load 21 (.t 5)),type:=21,pos := "", after:=#[],guard:=none },some 6,none)]
def BI:Jc prog [] 21 (Zl Tryz.f91 0) [3]=some Cg:=K1
def Ch:Zz5:=[.inl (.m 7 0),.inr ({ dst:=none,op:=(.convert 176 154 (.t 7)),type:=154,pos := "", after:=#[],guard:=none },some 8,none),.inr ({ dst:=none,op:=(.call { callee:=.value (.func 92),args:=#[(.t 8)],argTypes:=#[154] }),type:=0,pos := "", after:=#[],guard:=none },some 9,none)]
def BJ:Jc prog [] 21 (Zl Tryz.f91 1) [1,2]=some Ch:=K1
def Ci:Zz5:=[.inr ({ dst:=none,op:=(.call { callee:=.value (.func 93),args:=#[],argTypes:=#[] }),type:=0,pos := "", after:=#[],guard:=none },some 10,none)]
def BK:Jc prog [] 21 (Zl Tryz.f91 2) [0]=some Ci:=K1
def Cj:Zz5:=[.inl (.m 11 0),.inl (.d 12 (.nilc (.t 11))),.inl (.xo 13 0 12),.inr ({ dst:=none,op:=(.call { callee:=.value (.func 123),args:=#[(.t 13),(.const (.int .i32 (-1)))],argTypes:=#[178,21] }),type:=21,pos := "", after:=#[],guard:=none },some 14,none),.inl (.m 2 14)]
def C1:Jc prog [] 21 (Zl Tryz.f91 3) [3]=some Cj:=K1
def Ck:Zz5:=[.inr ({ dst:=none,op:=(.call { callee:=.value (.func 94),args:=#[],argTypes:=#[] }),type:=0,pos := "", after:=#[],guard:=none },some 20,none)]
def SH:Jc prog [] 21 (Zl Tryz.f91 6) [0]=some Ck:=K1
noncomputable def Fa:C:=(.sr [.xv 2 0]
 (.sr [.xb 3 false]
 (.sr [.xb 4 false]
 (.sr [.xv 5 0]
 (.seq (.cd 139 (Zl Tryz.f122 4))
 (.seq (.block 0 (.loop (.block 1 (.seq (.sr [.m 14 6,.d 15 (.ar .and (.t 14) (.const (.int .i32 5))),.d 16 (.cmp .eql (.t 15) (.const (.int .i32 1))),.m 17 16,.ym 18 17 true 5,.u 19 17 true (.rw (.call { callee:=.value (.func 143),args:=#[(.t 18)],argTypes:=#[3] }) 4),.xp 20 17 19]
 (.ite (.t 20) (.seq (.seq (.cd 139 (Zl Tryz.f122 6))
 (.ite (.t 41) (.reg [.xb 4 true]) .skip))
 (.sr [.d 42 (.rw (.call { callee:=.value (.func 144),args:=#[],argTypes:=#[] }) 0)]
 (.sr [.m 43 5,.xa 44 43,.m 5 44]
 (.seq (.cd 139 (Zl Tryz.f122 10))
 (.exit 1))))) .skip))
 (.sr [.m 49 6,.m 7 49]
 (.seq (.sr [.m 50 6,.d 51 (.ar .and (.t 50) (.const (.int .i32 4))),.d 52 (.cmp .eql (.t 51) (.const (.int .i32 0)))]
 (.ite (.t 52) (.reg [.m 53 7,.d 54 (.ar .or (.t 53) (.const (.int .i32 1))),.m 7 54]) .skip))
 (.seq (.sr [.m 55 6,.d 56 (.ar .and (.t 55) (.const (.int .i32 5))),.d 57 (.cmp .neq (.t 56) (.const (.int .i32 0)))]
 (.ite (.t 57) (.reg [.m 58 7,.d 59 (.ar .add (.t 58) (.const (.int .i32 8))),.m 7 59]) .skip))
 (.seq (.sr [.m 60 3,.m 61 60,.ym 62 61 true 6,.u 63 61 true (.ar .and (.t 62) (.const (.int .i32 1))),.u 64 61 true (.cmp .neq (.t 63) (.const (.int .i32 0))),.xp 65 61 64]
 (.ite (.t 65) (.reg [.m 66 7,.d 67 (.ar .or (.t 66) (.const (.int .i32 4))),.m 7 67]) .skip))
 (.seq (.sr [.m 68 4]
 (.ite (.t 68) (.seq (.sr [.m 69 7,.d 70 (.ar .and (.t 69) (.const (.int .i32 2))),.d 71 (.cmp .eql (.t 70) (.const (.int .i32 0)))]
 (.ite (.t 71) (.reg [⟨.rw (.call { callee:=.value (.func 145),args:=#[(.const (.string ⟨#[115,121,110,99,58,32,105,110,99,111,110,115,105,115,116,101,110,116,32,109,117,116,101,120,32,115,116,97,116,101]⟩))],argTypes:=#[9] }) 0,some 72,none,none⟩]) .skip))
 (.reg [.m 73 7,.d 74 (.ar .andNot (.t 73) (.const (.int .i32 2))),.m 7 74])) .skip))
 (.seq (.cd 139 (Zl Tryz.f122 22))
 (.ite (.t 80) (.seq (.sr [.m 81 6,.d 82 (.ar .and (.t 81) (.const (.int .i32 5))),.d 83 (.cmp .eql (.t 82) (.const (.int .i32 0)))]
 (.ite (.t 83) (.exit 0) .skip))
 (.sr [.m 84 2,.xk 85 .neq 84 0,.m 8 85]
 (.seq (.sr [.m 86 2,.xk 87 .eql 86 0]
 (.ite (.t 87) (.cd 139 (Zl Tryz.f122 26)) .skip))
 (.seq (.cd 139 (Zl Tryz.f122 27))
 (.seq (.cd 139 (Zl Tryz.f122 28))
 (.seq (.cd 139 (Zl Tryz.f122 29))
 (.seq (.sr [.m 105 6,.d 106 (.ar .and (.t 105) (.const (.int .i32 4))),.d 107 (.cmp .neq (.t 106) (.const (.int .i32 0)))]
 (.ite (.t 107) (.seq (.sr [.m 108 6,.d 109 (.ar .and (.t 108) (.const (.int .i32 3))),.d 110 (.cmp .neq (.t 109) (.const (.int .i32 0))),.m 111 110,.ym 112 111 false 6,.u 113 111 false (.ar .shr (.t 112) (.const (.int .u64 3))),.u 114 111 false (.cmp .eql (.t 113) (.const (.int .i32 0))),.xq 115 111 114]
 (.ite (.t 115) (.reg [⟨.rw (.call { callee:=.value (.func 145),args:=#[(.const (.string ⟨#[115,121,110,99,58,32,105,110,99,111,110,115,105,115,116,101,110,116,32,109,117,116,101,120,32,115,116,97,116,101]⟩))],argTypes:=#[9] }) 0,some 116,none,none⟩]) .skip))
 (.sr [.d 9 (.mv (.const (.int .i32 (-7))))]
 (.seq (.sr [.m 117 3,.xt 118 117,.m 119 118,.ym 120 119 false 6,.u 121 119 false (.ar .shr (.t 120) (.const (.int .u64 3))),.u 122 119 false (.cmp .eql (.t 121) (.const (.int .i32 1))),.xq 123 119 122]
 (.ite (.t 123) (.reg [.m 124 9,.d 125 (.ar .sub (.t 124) (.const (.int .i32 4))),.m 9 125]) .skip))
 (.seq (.cd 139 (Zl Tryz.f122 36))
 (.exit 0))))) .skip))
 (.sr [.xb 4 true]
 (.reg [.xv 5 0]))))))))) (.cd 139 (Zl Tryz.f122 39)))))))))))))
 (.ite (.cb true) (.seq (.cd 139 (Zl Tryz.f122 40))
 (.cd 139 (Zl Tryz.f122 41))) .skip)))))))
def UC:Zg prog 122 139 Fa []:=.o [1004,1006,1010,1022,1026,1027,1028,1029,1036,1039,1040,1041] [] Tryz.func122 K1
def B1:Zz5:=[.inl (.m 10 0),.inl (.d 11 (.nilc (.t 10))),.inl (.xo 12 0 11),.inr ({ dst:=none,op:=(.load 21 (.t 12)),type:=21,pos := "", after:=#[],guard:=none },some 13,none),.inl (.m 6 13)]
def AE:Jc prog [] 139 (Zl Tryz.f122 4) [3]=some B1:=K1
def B2:Zz5:=[.inl (.m 21 4),.inl (.xt 22 21),.inl (.m 23 22),.inl (.ym 24 23 true 6),.inl (.u 25 23 true (.ar .and (.t 24) (.const (.int .i32 2)))),.inl (.u 26 23 true (.cmp .eql (.t 25) (.const (.int .i32 0)))),.inl (.xp 27 23 26),.inl (.m 28 27),.inl (.ym 29 28 true 6),.inl (.u 30 28 true (.ar .shr (.t 29) (.const (.int .u64 3)))),.inl (.u 31 28 true (.cmp .neq (.t 30) (.const (.int .i32 0)))),.inl (.xp 32 28 31),.inl (.m 33 32),.inl (.ym 34 33 true 0),.inl (.u 35 33 true (.nilc (.t 34))),.inl (.yo 36 33 true 0 35),.inl (.ym 37 33 true 6),.inl (.ym 38 33 true 6),.inl (.u 39 33 true (.ar .or (.t 38) (.const (.int .i32 2)))),.inr ({ dst:=none,op:=(.call { callee:=.value (.func 121),args:=#[(.t 36),(.t 37),(.t 39)],argTypes:=#[178,21,21] }),type:=4,pos := "", after:=#[],guard:=none },some 40,some (33,true)),.inl (.xp 41 33 40)]
def AF:Jc prog [] 139 (Zl Tryz.f122 6) [19]=some B2:=K1
def A5:Zz5:=[.inl (.m 45 0),.inl (.d 46 (.nilc (.t 45))),.inl (.xo 47 0 46),.inr ({ dst:=none,op:=(.load 21 (.t 47)),type:=21,pos := "", after:=#[],guard:=none },some 48,none),.inl (.m 6 48)]
def Ry:Jc prog [] 139 (Zl Tryz.f122 10) [3]=some A5:=K1
def A6:Zz5:=[.inl (.m 75 0),.inl (.d 76 (.nilc (.t 75))),.inl (.xo 77 0 76),.inl (.m 78 6),.inl (.m 79 7),.inr ({ dst:=none,op:=(.call { callee:=.value (.func 121),args:=#[(.t 77),(.t 78),(.t 79)],argTypes:=#[178,21,21] }),type:=4,pos := "", after:=#[],guard:=none },some 80,none)]
def Rz:Jc prog [] 139 (Zl Tryz.f122 22) [5]=some A6:=K1
def A7:Zz5:=[.inr ({ dst:=none,op:=(.call { callee:=.value (.func 146),args:=#[],argTypes:=#[] }),type:=2,pos := "", after:=#[],guard:=none },some 88,none),.inl (.m 2 88)]
def Gb:Jc prog [] 139 (Zl Tryz.f122 26) [0]=some A7:=K1
def A8:Zz5:=[.inl (.m 89 0),.inl (.d 90 (.nilc (.t 89))),.inl (.xo 91 1 90),.inl (.m 92 8),.inr ({ dst:=none,op:=(.call { callee:=.value (.func 147),args:=#[(.t 91),(.t 92),(.ci 2)],argTypes:=#[160,4,3] }),type:=0,pos := "", after:=#[],guard:=none },some 93,none)]
def RA:Jc prog [] 139 (Zl Tryz.f122 27) [4]=some A8:=K1
def A9:Zz5:=[.inl (.m 94 3),.inl (.m 95 94),.inr ({ dst:=none,op:=(.call { callee:=.value (.func 146),args:=#[],argTypes:=#[] }),type:=2,pos := "", after:=#[],guard:=none },some 96,some (95,false)),.inl (.ym 97 95 false 2),.inr ({ dst:=none,op:=(.binOp .sub 2 (.t 96) (.t 97) 2),type:=2,pos := "", after:=#[],guard:=none },some 98,some (95,false)),.inl (.yk 99 95 false .gtr 98 1000000),.inl (.xq 100 95 99),.inl (.m 3 100)]
def RB:Jc prog [] 139 (Zl Tryz.f122 28) [2,4]=some A9:=K1
def Aa:Zz5:=[.inl (.m 101 0),.inl (.d 102 (.nilc (.t 101))),.inl (.xo 103 0 102),.inr ({ dst:=none,op:=(.load 21 (.t 103)),type:=21,pos := "", after:=#[],guard:=none },some 104,none),.inl (.m 6 104)]
def RC:Jc prog [] 139 (Zl Tryz.f122 29) [3]=some Aa:=K1
def Ab:Zz5:=[.inl (.m 126 0),.inl (.d 127 (.nilc (.t 126))),.inl (.xo 128 0 127),.inl (.m 129 9),.inr ({ dst:=none,op:=(.call { callee:=.value (.func 123),args:=#[(.t 128),(.t 129)],argTypes:=#[178,21] }),type:=21,pos := "", after:=#[],guard:=none },some 130,none)]
def RD:Jc prog [] 139 (Zl Tryz.f122 36) [4]=some Ab:=K1
def Ac:Zz5:=[.inl (.m 131 0),.inl (.d 132 (.nilc (.t 131))),.inl (.xo 133 0 132),.inr ({ dst:=none,op:=(.load 21 (.t 133)),type:=21,pos := "", after:=#[],guard:=none },some 134,none),.inl (.m 6 134)]
def RN:Jc prog [] 139 (Zl Tryz.f122 39) [3]=some Ac:=K1
def Ad:Zz5:=[.inr ({ dst:=none,op:=(.call { callee:=.value (.func 94),args:=#[],argTypes:=#[] }),type:=0,pos := "", after:=#[],guard:=none },some 135,none)]
def GZ:Jc prog [] 139 (Zl Tryz.f122 40) [0]=some Ad:=K1
def RF:Zz5:=[.inl (.m 136 0),.inr ({ dst:=none,op:=(.convert 176 154 (.t 136)),type:=154,pos := "", after:=#[],guard:=none },some 137,none),.inr ({ dst:=none,op:=(.call { callee:=.value (.func 105),args:=#[(.t 137)],argTypes:=#[154] }),type:=0,pos := "", after:=#[],guard:=none },some 138,none)]
def G_:Jc prog [] 139 (Zl Tryz.f122 41) [1,2]=some RF:=K1
noncomputable def Fb:C:=(.seq (.sr [.m 5 1,.d 6 (.ar .add (.t 5) (.const (.int .i32 1))),.d 7 (.ar .and (.t 6) (.const (.int .i32 1))),.d 8 (.cmp .eql (.t 7) (.const (.int .i32 0)))]
 (.ite (.t 8) (.reg [⟨.rw (.call { callee:=.value (.func 148),args:=#[(.const (.string ⟨#[115,121,110,99,58,32,117,110,108,111,99,107,32,111,102,32,117,110,108,111,99,107,101,100,32,109,117,116,101,120]⟩))],argTypes:=#[9] }) 0,some 9,none,none⟩]) .skip))
 (.sr [.m 10 1,.d 11 (.ar .and (.t 10) (.const (.int .i32 4))),.d 12 (.cmp .eql (.t 11) (.const (.int .i32 0)))]
 (.ite (.t 12) (.sr [.m 13 1,.m 4 13]
 (.block 0 (.loop (.block 1 (.seq (.sr [.m 14 4,.d 15 (.ar .shr (.t 14) (.const (.int .u64 3))),.d 16 (.cmp .eql (.t 15) (.const (.int .i32 0))),.m 17 16,.ym 18 17 false 4,.u 19 17 false (.ar .and (.t 18) (.const (.int .i32 7))),.u 20 17 false (.cmp .neq (.t 19) (.const (.int .i32 0))),.xq 21 17 20]
 (.ite (.t 21) .ret .skip))
 (.sr [.m 22 4,.d 23 (.ar .sub (.t 22) (.const (.int .i32 8))),.d 24 (.ar .or (.t 23) (.const (.int .i32 2))),.m 1 24]
 (.seq (.seq (.cd 43 (Zl Tryz.f124 6))
 (.ite (.t 30) (.seq (.cd 43 (Zl Tryz.f124 7))
 .ret) .skip))
 (.cd 43 (Zl Tryz.f124 8))))))))) (.cd 43 (Zl Tryz.f124 9)))))
def UD:Zg prog 124 43 Fb []:=.o [1006,1007,1008,1009] [] Tryz.func124 K1
def B6:Zz5:=[.inl (.m 25 0),.inl (.d 26 (.nilc (.t 25))),.inl (.xo 27 0 26),.inl (.m 28 4),.inl (.m 29 1),.inr ({ dst:=none,op:=(.call { callee:=.value (.func 121),args:=#[(.t 27),(.t 28),(.t 29)],argTypes:=#[178,21,21] }),type:=4,pos := "", after:=#[],guard:=none },some 30,none)]
def AG:Jc prog [] 43 (Zl Tryz.f124 6) [5]=some B6:=K1
def B7:Zz5:=[.inl (.m 31 0),.inl (.d 32 (.nilc (.t 31))),.inl (.xo 33 1 32),.inr ({ dst:=none,op:=(.call { callee:=.value (.func 149),args:=#[(.t 33),(.cb false),(.ci 2)],argTypes:=#[160,4,3] }),type:=0,pos := "", after:=#[],guard:=none },some 34,none)]
def AH:Jc prog [] 43 (Zl Tryz.f124 7) [3]=some B7:=K1
def B8:Zz5:=[.inl (.m 35 0),.inl (.d 36 (.nilc (.t 35))),.inl (.xo 37 0 36),.inr ({ dst:=none,op:=(.load 21 (.t 37)),type:=21,pos := "", after:=#[],guard:=none },some 38,none),.inl (.m 4 38)]
def AI:Jc prog [] 43 (Zl Tryz.f124 8) [3]=some B8:=K1
def B9:Zz5:=[.inl (.m 39 0),.inl (.d 40 (.nilc (.t 39))),.inl (.xo 41 1 40),.inr ({ dst:=none,op:=(.call { callee:=.value (.func 149),args:=#[(.t 41),(.cb true),(.ci 2)],argTypes:=#[160,4,3] }),type:=0,pos := "", after:=#[],guard:=none },some 42,none)]
def AJ:Jc prog [] 43 (Zl Tryz.f124 9) [3]=some B9:=K1
