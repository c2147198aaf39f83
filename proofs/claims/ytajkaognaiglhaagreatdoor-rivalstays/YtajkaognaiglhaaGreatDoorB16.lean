/- Lemmas. No conditions. -/
import Derived.Test.YtajkaognaiglhaaGreatDoorB14
set_option linter.all false
set_option maxRecDepth 100000
open Go.Proofs.Tryz (prog)
noncomputable section
namespace Go.TM
open Go.Proofs
noncomputable def IY:C:=(.seq (.ite (.cb true) (.seq (.sr [.m 9 1,.xk 10 .lss 9 0]
 (.ite (.t 10) (.cd 117 (Zl Tryz.f69 1)) .skip))
 (.seq (.cd 117 (Zl Tryz.f69 2))
 (.reg [⟨.mv (.func 94),none,none,some ((.func 94),#[])⟩]))) .skip)
 (.sr [.xb 4 false]
 (.seq (.sr [.d 15 (.rw (.call { callee:=.value (.func 95),args:=#[],argTypes:=#[] }) 4)]
 (.ite (.t 15) (.seq (.cd 117 (Zl Tryz.f69 6))
 (.block 0 (.sr [.xk 19 .eql 17 0,.m 18 19]
 (.ite (.t 18) .skip (.sr [.xk 21 .eql 17 2,.m 20 21]
 (.ite (.t 20) (.reg [⟨.rw (.call { callee:=.value (.func 97),args:=#[(.const (.string ⟨#[115,121,110,99,58,32,87,97,105,116,71,114,111,117,112,46,65,100,100,32,99,97,108,108,101,100,32,102,114,111,109,32,109,117,108,116,105,112,108,101,32,115,121,110,99,116,101,115,116,32,98,117,98,98,108,101,115]⟩))],argTypes:=#[9] }) 0,some 22,none,none⟩]) (.sr [.xk 24 .eql 17 1,.m 23 24]
 (.ite (.t 23) (.sr [.xb 4 true]
 (.sr [.m 25 0,.d 26 (.nilc (.t 25)),.xo 27 0 26,.d 28 (.call (.func 98) #[(.t 27),(.const (.int .u64 2147483648))]),.m 5 28]
 (.sr [.m 29 5,.d 30 (.cmp .neq (.t 29) (.const (.int .u64 0))),.m 31 30,.ym 32 31 true 5,.u 33 31 true (.ar .and (.t 32) (.const (.int .u64 2147483648))),.u 34 31 true (.cmp .eql (.t 33) (.const (.int .u64 0))),.xp 35 31 34]
 (.ite (.t 35) (.reg [⟨.rw (.call { callee:=.value (.func 97),args:=#[(.const (.string ⟨#[115,121,110,99,58,32,87,97,105,116,71,114,111,117,112,46,65,100,100,32,99,97,108,108,101,100,32,102,114,111,109,32,105,110,115,105,100,101,32,97,110,100,32,111,117,116,115,105,100,101,32,115,121,110,99,116,101,115,116,32,98,117,98,98,108,101]⟩))],argTypes:=#[9] }) 0,some 36,none,none⟩]) .skip)))) .skip)))))))) .skip))
 (.sr [.m 37 0,.d 38 (.nilc (.t 37)),.xo 39 0 38,.m 40 1,.d 41 (.conv .u64 (.t 40)),.d 42 (.ar .shl (.t 41) (.const (.int .u64 32))),.d 43 (.call (.func 99) #[(.t 39),(.t 42)]),.m 6 43]
 (.seq (.sr [.m 44 6,.d 45 (.ar .and (.t 44) (.const (.int .u64 2147483648))),.d 46 (.cmp .neq (.t 45) (.const (.int .u64 0))),.m 47 46,.ym 48 47 true 4,.u 49 47 true (.not (.t 48)),.xp 50 47 49]
 (.ite (.t 50) (.reg [⟨.rw (.call { callee:=.value (.func 97),args:=#[(.const (.string ⟨#[115,121,110,99,58,32,87,97,105,116,71,114,111,117,112,46,65,100,100,32,99,97,108,108,101,100,32,102,114,111,109,32,105,110,115,105,100,101,32,97,110,100,32,111,117,116,115,105,100,101,32,115,121,110,99,116,101,115,116,32,98,117,98,98,108,101]⟩))],argTypes:=#[9] }) 0,some 51,none,none⟩]) .skip))
 (.sr [.m 52 6,.d 53 (.ar .shr (.t 52) (.const (.int .u64 32))),.d 54 (.conv .i32 (.t 53)),.m 7 54]
 (.sr [.m 55 6,.d 56 (.ar .and (.t 55) (.const (.int .u64 2147483647))),.d 57 (.conv .u32 (.t 56)),.m 8 57]
 (.seq (.sr [.xb 58 true,.ym 59 58 true 1,.yk 60 58 true .gtr 59 0,.xp 61 58 60,.m 62 61,.ym 63 62 true 7,.ym 64 62 true 1,.u 65 62 true (.conv .i32 (.t 64)),.u 66 62 true (.cmp .eql (.t 63) (.t 65)),.xp 67 62 66]
 (.ite (.t 67) (.cd 117 (Zl Tryz.f69 21)) .skip))
 (.seq (.sr [.m 73 7,.d 74 (.cmp .lss (.t 73) (.const (.int .i32 0)))]
 (.ite (.t 74) (.reg [⟨.rw (.makeInterface 9 (.const (.string ⟨#[115,121,110,99,58,32,110,101,103,97,116,105,118,101,32,87,97,105,116,71,114,111,117,112,32,99,111,117,110,116,101,114]⟩))) 20,some 75,none,none⟩,⟨.rw (.panic (.t 75)) 0,none,none,none⟩]) .skip))
 (.seq (.sr [.m 76 8,.d 77 (.cmp .neq (.t 76) (.const (.int .u32 0))),.m 78 77,.ym 79 78 true 1,.yk 80 78 true .gtr 79 0,.xp 81 78 80,.m 82 81,.ym 83 82 true 7,.ym 84 82 true 1,.u 85 82 true (.conv .i32 (.t 84)),.u 86 82 true (.cmp .eql (.t 83) (.t 85)),.xp 87 82 86]
 (.ite (.t 87) (.reg [⟨.rw (.makeInterface 9 (.const (.string ⟨#[115,121,110,99,58,32,87,97,105,116,71,114,111,117,112,32,109,105,115,117,115,101,58,32,65,100,100,32,99,97,108,108,101,100,32,99,111,110,99,117,114,114,101,110,116,108,121,32,119,105,116,104,32,87,97,105,116]⟩))) 20,some 88,none,none⟩,⟨.rw (.panic (.t 88)) 0,none,none,none⟩]) .skip))
 (.seq (.sr [.m 89 7,.d 90 (.cmp .gtr (.t 89) (.const (.int .i32 0))),.m 91 90,.ym 92 91 false 8,.u 93 91 false (.cmp .eql (.t 92) (.const (.int .u32 0))),.xq 94 91 93]
 (.ite (.t 94) .ret .skip))
 (.seq (.sr [.m 95 0,.d 96 (.nilc (.t 95)),.xo 97 0 96,.d 98 (.call (.func 101) #[(.t 97)]),.m 99 6,.xc 100 .neq 98 99]
 (.ite (.t 100) (.reg [⟨.rw (.makeInterface 9 (.const (.string ⟨#[115,121,110,99,58,32,87,97,105,116,71,114,111,117,112,32,109,105,115,117,115,101,58,32,65,100,100,32,99,97,108,108,101,100,32,99,111,110,99,117,114,114,101,110,116,108,121,32,119,105,116,104,32,87,97,105,116]⟩))) 20,some 101,none,none⟩,⟨.rw (.panic (.t 101)) 0,none,none,none⟩]) .skip))
 (.sr [.m 102 0,.d 103 (.nilc (.t 102)),.xo 104 0 103,.d 105 (.call (.func 102) #[(.t 104),(.const (.int .u64 0))])]
 (.seq (.sr [.m 106 4]
 (.ite (.t 106) (.cd 117 (Zl Tryz.f69 31)) .skip))
 (.block 1 (.loop (.seq (.sr [.m 109 8,.d 110 (.cmp .neq (.t 109) (.const (.int .u32 0)))]
 (.ite (.t 110) .skip (.exit 1)))
 (.seq (.block 2 (.cd 117 (Zl Tryz.f69 34)))
 (.reg [.m 111 8,.d 112 (.ar .sub (.t 111) (.const (.int .u32 1))),.m 8 112])))))))))))))))))))
def Lp:Zg prog 69 117 IY []:=.o [1001,1002,1006,1021,1031,1034] [] Tryz.func69 K1
def C7:Zz5:=[.inr ({ dst:=none,op:=(.call { callee:=.value (.func 93),args:=#[],argTypes:=#[] }),type:=0,pos := "", after:=#[],guard:=none },some 14,none)]
def BU:Jc prog [] 117 (Zl Tryz.f69 2) [0]=some C7:=K1
def Bb:Zz5:=[.inl (.m 68 0),.inl (.d 69 (.nilc (.t 68))),.inl (.xo 70 1 69),.inr ({ dst:=none,op:=(.convert 160 154 (.t 70)),type:=154,pos := "", after:=#[],guard:=none },some 71,none),.inr ({ dst:=none,op:=(.call { callee:=.value (.func 100),args:=#[(.t 71)],argTypes:=#[154] }),type:=0,pos := "", after:=#[],guard:=none },some 72,none)]
def Ao:Jc prog [] 117 (Zl Tryz.f69 21) [3,4]=some Bb:=K1
noncomputable def IZ:C:=(.seq (.ite (.cb true) (.cd 84 (Zl Tryz.f70 0)) .skip)
 (.block 0 (.loop (.block 1 (.sr [.m 8 0,.d 9 (.nilc (.t 8)),.xo 10 0 9,.d 11 (.call (.func 101) #[(.t 10)]),.m 2 11]
 (.sr [.m 12 2,.d 13 (.ar .shr (.t 12) (.const (.int .u64 32))),.d 14 (.conv .i32 (.t 13)),.m 3 14]
 (.sr [.m 15 2,.d 16 (.ar .and (.t 15) (.const (.int .u64 2147483647))),.d 17 (.conv .u32 (.t 16)),.m 4 17]
 (.seq (.sr [.m 18 3,.d 19 (.cmp .eql (.t 18) (.const (.int .i32 0)))]
 (.ite (.t 19) (.seq (.ite (.cb true) (.seq (.cd 84 (Zl Tryz.f70 5))
 (.cd 84 (Zl Tryz.f70 6))) .skip)
 (.seq (.seq (.cd 84 (Zl Tryz.f70 7))
 (.ite (.t 34) (.sr [.m 35 0,.d 36 (.nilc (.t 35)),.xo 37 0 36,.m 38 2,.d 39 (.call (.func 107) #[(.t 37),(.t 38),(.const (.int .u64 0))])]
 (.ite (.t 39) (.cd 84 (Zl Tryz.f70 9)) .skip)) .skip))
 .ret)) .skip))
 (.sr [.m 42 0,.d 43 (.nilc (.t 42)),.xo 44 0 43,.m 45 2,.m 46 2,.d 47 (.ar .add (.t 46) (.const (.int .u64 1))),.d 48 (.call (.func 107) #[(.t 44),(.t 45),(.t 47)])]
 (.ite (.t 48) (.seq (.sr [.xb 49 true,.ym 50 49 true 4,.u 51 49 true (.cmp .eql (.t 50) (.const (.int .u32 0))),.xp 52 49 51]
 (.ite (.t 52) (.cd 84 (Zl Tryz.f70 12)) .skip))
 (.sr [.xb 5 false]
 (.seq (.sr [.m 58 2,.d 59 (.ar .and (.t 58) (.const (.int .u64 2147483648))),.d 60 (.cmp .neq (.t 59) (.const (.int .u64 0))),.m 61 60,.u 62 61 true (.rw (.call { callee:=.value (.func 95),args:=#[],argTypes:=#[] }) 4),.xp 63 61 62]
 (.ite (.t 63) (.seq (.ite (.cb true) (.cd 84 (Zl Tryz.f70 15)) .skip)
 (.seq (.seq (.cd 84 (Zl Tryz.f70 16))
 (.ite (.t 66) (.reg [.xb 5 true]) .skip))
 (.ite (.cb true) (.cd 84 (Zl Tryz.f70 18)) .skip))) .skip))
 (.seq (.cd 84 (Zl Tryz.f70 19))
 (.sr [.m 73 0,.d 74 (.nilc (.t 73)),.xo 75 0 74,.d 76 (.call (.func 101) #[(.t 75)]),.d 77 (.cmp .neq (.t 76) (.const (.int .u64 0))),.m 6 77]
 (.seq (.ite (.cb true) (.seq (.cd 84 (Zl Tryz.f70 21))
 (.cd 84 (Zl Tryz.f70 22))) .skip)
 (.seq (.sr [.m 82 6]
 (.ite (.t 82) (.reg [⟨.rw (.makeInterface 9 (.const (.string ⟨#[115,121,110,99,58,32,87,97,105,116,71,114,111,117,112,32,105,115,32,114,101,117,115,101,100,32,98,101,102,111,114,101,32,112,114,101,118,105,111,117,115,32,87,97,105,116,32,104,97,115,32,114,101,116,117,114,110,101,100]⟩))) 20,some 83,none,none⟩,⟨.rw (.panic (.t 83)) 0,none,none,none⟩]) .skip))
 .ret))))))) .skip))))))))))
def Lq:Zg prog 70 84 IZ []:=.o [1000,1005,1006,1007,1009,1012,1015,1016,1018,1019,1021,1022] [] Tryz.func70 K1
def C8:Zz5:=[.inr ({ dst:=none,op:=(.call { callee:=.value (.func 93),args:=#[],argTypes:=#[] }),type:=0,pos := "", after:=#[],guard:=none },some 7,none)]
def BV:Jc prog [] 84 (Zl Tryz.f70 0) [0]=some C8:=K1
def C9:Zz5:=[.inr ({ dst:=none,op:=(.call { callee:=.value (.func 94),args:=#[],argTypes:=#[] }),type:=0,pos := "", after:=#[],guard:=none },some 20,none)]
def BA:Jc prog [] 84 (Zl Tryz.f70 5) [0]=some C9:=K1
def Ca:Zz5:=[.inl (.m 21 0),.inr ({ dst:=none,op:=(.convert 149 154 (.t 21)),type:=154,pos := "", after:=#[],guard:=none },some 22,none),.inr ({ dst:=none,op:=(.call { callee:=.value (.func 105),args:=#[(.t 22)],argTypes:=#[154] }),type:=0,pos := "", after:=#[],guard:=none },some 23,none)]
def BB:Jc prog [] 84 (Zl Tryz.f70 6) [1,2]=some Ca:=K1
def Cb:Zz5:=[.inl (.m 24 4),.inl (.d 25 (.cmp .eql (.t 24) (.const (.int .u32 0)))),.inl (.m 26 25),.inl (.ym 27 26 true 2),.inl (.u 28 26 true (.ar .and (.t 27) (.const (.int .u64 2147483648)))),.inl (.u 29 26 true (.cmp .neq (.t 28) (.const (.int .u64 0)))),.inl (.xp 30 26 29),.inl (.m 31 30),.inl (.ym 32 31 true 0),.inr ({ dst:=none,op:=(.call { callee:=.value (.func 106),args:=#[(.t 32)],argTypes:=#[149] }),type:=4,pos := "", after:=#[],guard:=none },some 33,some (31,true)),.inl (.xp 34 31 33)]
def BC:Jc prog [] 84 (Zl Tryz.f70 7) [9]=some Cb:=K1
def Bc:Zz5:=[.inl (.m 53 0),.inl (.d 54 (.nilc (.t 53))),.inl (.xo 55 1 54),.inr ({ dst:=none,op:=(.convert 160 154 (.t 55)),type:=154,pos := "", after:=#[],guard:=none },some 56,none),.inr ({ dst:=none,op:=(.call { callee:=.value (.func 108),args:=#[(.t 56)],argTypes:=#[154] }),type:=0,pos := "", after:=#[],guard:=none },some 57,none)]
def Ap:Jc prog [] 84 (Zl Tryz.f70 12) [3,4]=some Bc:=K1
def Be:Zz5:=[.inl (.m 68 0),.inl (.d 69 (.nilc (.t 68))),.inl (.xo 70 1 69),.inl (.m 71 5),.inr ({ dst:=none,op:=(.call { callee:=.value (.func 109),args:=#[(.t 70),(.t 71)],argTypes:=#[160,4] }),type:=0,pos := "", after:=#[],guard:=none },some 72,none)]
def Aq:Jc prog [] 84 (Zl Tryz.f70 19) [4]=some Be:=K1
def Bf:Zz5:=[.inr ({ dst:=none,op:=(.call { callee:=.value (.func 94),args:=#[],argTypes:=#[] }),type:=0,pos := "", after:=#[],guard:=none },some 78,none)]
def Ar:Jc prog [] 84 (Zl Tryz.f70 21) [0]=some Bf:=K1
def Bg:Zz5:=[.inl (.m 79 0),.inr ({ dst:=none,op:=(.convert 149 154 (.t 79)),type:=154,pos := "", after:=#[],guard:=none },some 80,none),.inr ({ dst:=none,op:=(.call { callee:=.value (.func 105),args:=#[(.t 80)],argTypes:=#[154] }),type:=0,pos := "", after:=#[],guard:=none },some 81,none)]
def As:Jc prog [] 84 (Zl Tryz.f70 22) [1,2]=some Bg:=K1
noncomputable def Le:C:=(.sr [.d 4 (.mv (.const (.int .u64 0)))]
 (.seq (.cd 10 (Zl Tryz.f99 1))
 .ret))
def DP:Zg prog 99 10 Le [.t 4]:=.o [1001] [] Tryz.func99 K1
def Cl:Zz5:=[.inl (.m 5 0),.inl (.d 6 (.nilc (.t 5))),.inl (.xo 7 0 6),.inl (.m 8 1),.inr ({ dst:=none,op:=(.call { callee:=.value (.func 126),args:=#[(.t 7),(.t 8)],argTypes:=#[183,114] }),type:=114,pos := "", after:=#[],guard:=none },some 9,none),.inl (.m 4 9)]
def C2:Jc prog [] 10 (Zl Tryz.f99 1) [4]=some Cl:=K1
noncomputable def EZ:C:=(.sr [.d 2 (.mv (.const (.int .u64 0)))]
 (.seq (.cd 7 (Zl Tryz.f101 1))
 .ret))
def Vw:Zg prog 101 7 EZ [.t 2]:=.o [1001] [] Tryz.func101 K1
def A_:Zz5:=[.inl (.m 3 0),.inl (.d 4 (.nilc (.t 3))),.inl (.xo 5 0 4),.inr ({ dst:=none,op:=(.call { callee:=.value (.func 127),args:=#[(.t 5)],argTypes:=#[183] }),type:=114,pos := "", after:=#[],guard:=none },some 6,none),.inl (.m 2 6)]
def Sn:Jc prog [] 7 (Zl Tryz.f101 1) [3]=some A_:=K1
noncomputable def E_:C:=(.sr [.xb 6 false]
 (.seq (.cd 13 (Zl Tryz.f107 1))
 .ret))
def Uj:Zg prog 107 13 E_ [.t 6]:=.o [1001] [] Tryz.func107 K1
def B0:Zz5:=[.inl (.m 7 0),.inl (.d 8 (.nilc (.t 7))),.inl (.xo 9 0 8),.inl (.m 10 1),.inl (.m 11 2),.inr ({ dst:=none,op:=(.call { callee:=.value (.func 129),args:=#[(.t 9),(.t 10),(.t 11)],argTypes:=#[183,114,114] }),type:=4,pos := "", after:=#[],guard:=none },some 12,none),.inl (.m 6 12)]
def AD:Jc prog [] 13 (Zl Tryz.f107 1) [5]=some B0:=K1
