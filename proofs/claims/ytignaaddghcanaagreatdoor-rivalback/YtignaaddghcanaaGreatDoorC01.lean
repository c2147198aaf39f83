/- Lemmas. No conditions. -/
import Derived.Test.YtignaaddghcanaaGreatDoorProg
import Derived.Test.YtignaaddghcanaaGreatDoorB01
set_option linter.all false
set_option maxRecDepth 100000
open Go.Proofs.Tryz (prog)
noncomputable section
namespace Go.TM
open Go.Proofs
def Zvs:C:=(.sr [.xv 4 0,.d 5 (.mv (.const .nilIface))]
 (.sr [.m 6 0,.d 7 (.call (.func 67) #[(.t 6)])]
 (.sr [.m 8 0,.m 9 0,.d 10 (.nilc (.t 9)),.xo 11 1 10,.xl 12 11,.m 13 1,.d 14 (.rw (.call { callee:=.builtin .append,args:=#[(.t 12),(.t 13)],argTypes:=#[62,9] }) 62),.d 15 (.nilc (.t 8)),.xo 16 1 15,⟨.st 1 (.t 16) (.t 14),none,none,none⟩]
 (.sr [.m 17 1,.d 18 (.lenT (.t 17)),.m 4 18,.d 5 (.mv (.const .nilIface))]
 .ret))))
def Zm8:Zk prog 26 19 Zvs [.t 4,.t 5]:=.o [] [] Tryz.func26 K1
def Zvt:C:=(.sr [.d 4 (.mv (.const (.string ⟨#[]⟩)))]
 (.seq (.sr [.m 11 0,.xn 12 11]
 (.block 0 (.sr [.xk 14 .eql 12 0,.m 13 14]
 (.ite (.t 13) (.sr [.d 4 (.mv (.const (.string ⟨#[]⟩)))]
 .ret) (.sr [.xk 16 .eql 12 1,.m 15 16]
 (.ite (.t 15) (.sr [.m 17 0,.d 18 (.idx 1 (.t 17) (.ci 0)),.xl 19 18,.m 4 19]
 .ret) .skip))))))
 (.sr [.xv 5 0]
 (.seq (.sr [.m 20 1,.d 21 (.lenT (.t 20)),.xk 22 .gtr 21 0]
 (.ite (.t 22) (.seq (.sr [.m 23 1,.d 24 (.lenT (.t 23)),.m 25 0,.xn 26 25,.d 27 (.sub (.t 26) (.ci 1)),.d 28 (.ar .quo (.ci 9223372036854775807) (.t 27)),.xc 29 .geq 24 28]
 (.ite (.t 29) (.reg [⟨.rw (.makeInterface 9 (.const (.string ⟨#[115,116,114,105,110,103,115,58,32,74,111,105,110,32,111,117,116,112,117,116,32,108,101,110,103,116,104,32,111,118,101,114,102,108,111,119]⟩))) 20,some 30,none,none⟩,⟨.rw (.panic (.t 30)) 0,none,none,none⟩]) .skip))
 (.reg [.m 31 5,.m 32 1,.d 33 (.lenT (.t 32)),.m 34 0,.xn 35 34,.d 36 (.sub (.t 35) (.ci 1)),.d 37 (.mul (.t 33) (.t 36)),.d 38 (.add (.t 31) (.t 37)),.m 5 38])) .skip))
 (.seq (.sr [.m 39 0,.xn 40 39,.xv 41 0]
 (.block 1 (.loop (.sr [.xc 42 .lss 41 40]
 (.seq (.ite (.t 42) .skip (.exit 1))
 (.seq (.block 2 (.sr [.xi 43 1 39 41,.xl 44 43,.m 7 44]
 (.seq (.sr [.m 45 7,.d 46 (.lenT (.t 45)),.m 47 5,.d 48 (.sub (.ci 9223372036854775807) (.t 47)),.xc 49 .gtr 46 48]
 (.ite (.t 49) (.reg [⟨.rw (.makeInterface 9 (.const (.string ⟨#[115,116,114,105,110,103,115,58,32,74,111,105,110,32,111,117,116,112,117,116,32,108,101,110,103,116,104,32,111,118,101,114,102,108,111,119]⟩))) 20,some 50,none,none⟩,⟨.rw (.panic (.t 50)) 0,none,none,none⟩]) .skip))
 (.reg [.m 51 5,.m 52 7,.d 53 (.lenT (.t 52)),.d 54 (.add (.t 51) (.t 53)),.m 5 54]))))
 (.reg [.xa 55 41,.m 41 55])))))))
 (.sr [.d 8 (.alloc 64 #[(.pointer none),.nl])]
 (.sr [.m 56 5,.d 57 (.call (.func 68) #[(.t 8),(.t 56)])]
 (.sr [.m 58 0,.d 59 (.idx 1 (.t 58) (.ci 0)),.xl 60 59,.d 61 (.call (.func 26) #[(.t 8),(.t 60)])]
 (.seq (.sr [.m 62 0,.d 63 (.sub3 1 (.t 62) (some (.ci 1)) none),.xn 64 63,.xv 65 0]
 (.block 3 (.loop (.sr [.xc 66 .lss 65 64]
 (.seq (.ite (.t 66) .skip (.exit 3))
 (.seq (.block 4 (.sr [.xi 67 1 63 65,.xl 68 67,.m 10 68]
 (.sr [.m 69 1,.d 70 (.call (.func 26) #[(.t 8),(.t 69)])]
 (.reg [.m 71 10,.d 72 (.call (.func 26) #[(.t 8),(.t 71)])]))))
 (.reg [.xa 73 65,.m 65 73])))))))
 (.sr [.d 74 (.call (.func 32) #[(.t 8)]),.m 4 74]
 .ret))))))))))
def Zp4:Zk prog 27 75 Zvt [.t 4]:=.o [] [] Tryz.func27 K1
def Zvx:C:=(.sr [.xv 2 0]
 (.sr [.m 3 0,.d 4 (.nilc (.t 3)),.xo 5 1 4,.xl 6 5,.xn 7 6,.m 2 7]
 .ret))
def Zse:Zk prog 31 8 Zvx [.t 2]:=.o [] [] Tryz.func31 K1
def Zvy:C:=(.sr [.d 2 (.mv (.const (.string ⟨#[]⟩)))]
 (.seq (.drw [(0,.m 3 0),(0,.d 4 (.nilc (.t 3))),(0,.xo 5 1 4),(0,.xl 6 5),(0,.m 8 0),(0,.d 9 (.nilc (.t 8))),(0,.xo 10 1 9),(0,.xl 11 10),(0,.xn 12 11),(2,.d 7 (.rw (.call { callee:=.builtin .unsafeSliceData,args:=#[(.t 6)],argTypes:=#[62] }) 140))] [.d 13 (.rw (.call { callee:=.builtin .unsafeString,args:=#[(.t 7),(.t 12)],argTypes:=#[140,3] }) 9),.m 2 13])
 .ret))
def Zp6:Zk prog 32 14 Zvy [.t 2]:=.o [] [13] Tryz.func32 K1
def Zv9:C:=(.sr [.m 2 0,.d 3 (.nilc (.t 2)),.xo 4 0 3,.xl 5 4,.d 6 (.rw (.binOp .eql 61 (.t 5) (.const (.pointer none)) 61) 4)]
 (.ite (.t 6) (.reg [.m 7 0,.m 8 0,.d 9 (.rw (.convert 61 188 (.t 8)) 188),.d 10 (.rw (.call { callee:=.value (.func 103),args:=#[(.t 9)],argTypes:=#[188] }) 188),.d 11 (.rw (.convert 188 61 (.t 10)) 61),.d 12 (.nilc (.t 7)),.xo 13 0 12,⟨.st 1 (.t 13) (.t 11),none,none,none⟩]) (.sr [.m 14 0,.d 15 (.nilc (.t 14)),.xo 16 0 15,.xl 17 16,.m 18 0,.d 19 (.rw (.binOp .neq 61 (.t 17) (.t 18) 61) 4)]
 (.ite (.t 19) .bad .skip))))
def Zp8:Zk prog 67 20 Zv9 []:=.o [] [] Tryz.func67 K1
def Zwa:C:=(.sr [.m 4 0,.d 5 (.call (.func 67) #[(.t 4)])]
 (.seq (.sr [.m 6 1,.xk 7 .lss 6 0]
 (.ite (.t 7) (.reg [⟨.rw (.makeInterface 9 (.const (.string ⟨#[115,116,114,105,110,103,115,46,66,117,105,108,100,101,114,46,71,114,111,119,58,32,110,101,103,97,116,105,118,101,32,99,111,117,110,116]⟩))) 20,some 8,none,none⟩,⟨.rw (.panic (.t 8)) 0,none,none,none⟩]) .skip))
 (.seq (.drw [(0,.m 9 0),(0,.d 10 (.nilc (.t 9))),(0,.xo 11 1 10),(0,.xl 12 11),(1,.d 13 (.rw (.call { callee:=.builtin .cap,args:=#[(.t 12)],argTypes:=#[62] }) 3)),(0,.m 14 0),(0,.d 15 (.nilc (.t 14))),(0,.xo 16 1 15),(0,.xl 17 16),(0,.xn 18 17),(0,.d 19 (.sub (.t 13) (.t 18))),(0,.m 20 1)] [.xc 21 .lss 19 20])
 (.ite (.t 21) (.reg [.m 22 0,.m 23 1,.d 24 (.call (.func 104) #[(.t 22),(.t 23)])]) .skip))))
def Zsl:Zk prog 68 25 Zwa []:=.o [] [13] Tryz.func68 K1
noncomputable def Zug:C:=(.seq (.cd 30 (GA Tryz.f104 0))
 (.sr [.m 20 4,.m 21 0,.d 22 (.nilc (.t 21)),.xo 23 1 22,.xl 24 23,.d 25 (.rw (.call { callee:=.builtin .copy,args:=#[(.t 20),(.t 24)],argTypes:=#[62,62] }) 3)]
 (.reg [.m 26 0,.m 27 4,.d 28 (.nilc (.t 26)),.xo 29 1 28,⟨.st 1 (.t 29) (.t 27),none,none,none⟩])))
def Zq6:Zk prog 104 30 Zug []:=.o [1000] [9] Tryz.func104 K1
def Zv0:C:=(.sr [.d 1 (.boxM 9 (.t 0)),.d 2 (.mv (.const .nilFunc))]
 (.sr [.d 3 (.mkf (.func 70) #[] #[(.t 1)]),.m 2 3]
 .ret))
def Zsf:Zk prog 37 4 Zv0 [.t 2]:=.o [1] [] Tryz.func37 K1
def Zv2:C:=(.sr [.d 4 (.mv (.const (.string ⟨#[]⟩)))]
 (.sr [.m 5 0,.m 6 1,.d 7 (.call (.func 74) #[(.t 5),(.t 6)]),.m 4 7]
 .ret))
def Zsg:Zk prog 39 8 Zv2 [.t 4]:=.o [] [] Tryz.func39 K1
def Zwb:C:=(.block 0 (.loop (.seq (.sr [.xl 5 1,.d 6 (.lenT (.t 5)),.xk 7 .gtr 6 0]
 (.ite (.t 7) .skip (.exit 0)))
 (.block 1 (.sr [.d 3 (.mv (.const (.string ⟨#[]⟩)))]
 (.seq (.sr [.xl 8 1,.d 9 (.call (.func 71) #[(.t 8),(.const (.int .u8 10))]),.m 4 9]
 (.sr [.m 10 4,.xk 11 .geq 10 0]
 (.ite (.t 11) (.drw [(0,.xl 12 1),(0,.m 13 4),(0,.xa 14 13),(1,.d 15 (.rw (.slice 9 (.t 12) none (some (.t 14)) none) 9)),(0,.xl 16 1),(0,.m 17 4),(0,.xa 18 17),(1,.d 19 (.rw (.slice 9 (.t 16) (some (.t 18)) none none) 9)),(0,.m 3 15)] [⟨.st 1 (.t 1) (.t 19),none,none,none⟩]) (.reg [.xl 20 1,.m 3 20,⟨.st 1 (.t 1) (.const (.string ⟨#[]⟩)),none,none,none⟩]))))
 (.sr [.m 21 0,.m 22 3,.d 23 (.call (.t 21) #[(.t 22)]),.xt 24 23]
 (.ite (.t 24) .ret .skip))))))))
def Zsm:Zk prog 70 25 Zwb []:=.o [] [15,19] Tryz.func70 K1
def Zwc:C:=(.sr [.xv 4 0]
 (.sr [.m 5 0,.m 6 1,.d 7 (.call (.func 105) #[(.t 5),(.t 6)]),.m 4 7]
 .ret))
def Zp9:Zk prog 71 8 Zwc [.t 4]:=.o [] [] Tryz.func71 K1
def Zwf:C:=(.sr [.d 4 (.mv (.const (.string ⟨#[]⟩)))]
 (.seq (.sr [.m 5 0,.m 6 1,.d 7 (.call (.func 109) #[(.t 5),(.t 6)])]
 (.ite (.t 7) (.sr [.m 8 0,.m 9 0,.d 10 (.lenT (.t 9)),.m 11 1,.d 12 (.lenT (.t 11)),.d 13 (.sub (.t 10) (.t 12)),.d 14 (.rw (.slice 9 (.t 8) none (some (.t 13)) none) 9),.m 4 14]
 .ret) .skip))
 (.sr [.m 15 0,.m 4 15]
 .ret)))
def Zsn:Zk prog 74 16 Zwf [.t 4]:=.o [] [] Tryz.func74 K1
def Zuh:C:=(.sr [.xv 4 0]
 (.sr [.m 5 0,.m 6 1,.d 7 (.rw (.call { callee:=.value (.func 142),args:=#[(.t 5),(.t 6)],argTypes:=#[9,5] }) 3),.m 4 7]
 .ret))
def Zo9:Zk prog 105 8 Zuh [.t 4]:=.o [] [] Tryz.func105 K1
def Zui:C:=(.sr [.d 4 (.mv (.const (.string ⟨#[]⟩))),.d 5 (.mv (.const (.string ⟨#[]⟩))),.xb 6 false]
 (.sr [.m 7 0,.m 8 1,.d 9 (.call (.func 143) #[(.t 7),(.t 8)]),.xe 10 9 0,.xe 11 9 1,.xe 12 9 2,.m 4 10,.m 5 11,.m 6 12]
 .ret))
def Zq7:Zk prog 106 13 Zui [.t 4,.t 5,.t 6]:=.o [] [] Tryz.func106 K1
def Zuj:C:=(.sr [.xs 4]
 (.sr [.m 5 0,.m 6 1,.d 7 (.call (.func 144) #[(.t 5),(.t 6),(.ci 0),(.ci (-1))]),.m 4 7]
 .ret))
def Zpa:Zk prog 107 8 Zuj [.t 4]:=.o [] [] Tryz.func107 K1
def Zuk:C:=(.sr [.xb 4 false]
 (.sr [.m 5 0,.m 6 1,.d 7 (.call (.func 145) #[(.t 5),(.t 6)]),.xk 8 .geq 7 0,.m 4 8]
 .ret))
def Zq8:Zk prog 108 9 Zuk [.t 4]:=.o [] [] Tryz.func108 K1
def Zul:C:=(.sr [.xb 4 false]
 (.sr [.m 5 0,.d 6 (.lenT (.t 5)),.m 7 1,.d 8 (.lenT (.t 7)),.xc 9 .geq 6 8,.m 10 9,.ym 11 10 true 0,.ym 12 10 true 0,.u 13 10 true (.lenT (.t 12)),.ym 14 10 true 1,.u 15 10 true (.lenT (.t 14)),.u 16 10 true (.sub (.t 13) (.t 15)),.u 17 10 true (.rw (.slice 9 (.t 11) (some (.t 16)) none none) 9),.ym 18 10 true 1,.u 19 10 true (.teq .eql (.t 17) (.t 18)),.xp 20 10 19,.m 4 20]
 .ret))
def Zq9:Zk prog 109 21 Zul [.t 4]:=.o [] [] Tryz.func109 K1
def Zum:C:=(.sr [.d 4 (.mv (.const (.string ⟨#[]⟩))),.d 5 (.mv (.const (.string ⟨#[]⟩))),.xb 6 false]
 (.seq (.sr [.m 8 0,.m 9 1,.d 10 (.call (.func 159) #[(.t 8),(.t 9)]),.m 7 10]
 (.sr [.m 11 7,.xk 12 .geq 11 0]
 (.ite (.t 12) (.seq (.drw [(0,.m 13 0),(0,.m 14 7),(1,.d 15 (.rw (.slice 9 (.t 13) none (some (.t 14)) none) 9)),(0,.m 16 0),(0,.m 17 7),(0,.m 18 1),(0,.d 19 (.lenT (.t 18))),(0,.d 20 (.add (.t 17) (.t 19))),(1,.d 21 (.rw (.slice 9 (.t 16) (some (.t 20)) none none) 9)),(0,.m 4 15)] [.m 5 21,.xb 6 true])
 .ret) .skip)))
 (.sr [.m 22 0,.m 4 22,.d 5 (.mv (.const (.string ⟨#[]⟩))),.xb 6 false]
 .ret)))
def Zra:Zk prog 143 23 Zum [.t 4,.t 5,.t 6]:=.o [] [15,21] Tryz.func143 K1
def Zun:C:=(.sr [.xs 8]
 (.seq (.sr [.m 12 3,.xk 13 .eql 12 0]
 (.ite (.t 13) (.sr [.xs 8]
 .ret) .skip))
 (.seq (.sr [.m 14 1,⟨.teq .eql (.t 14) (.const (.string ⟨#[]⟩)),some 15,none,none⟩]
 (.ite (.t 15) (.sr [.m 16 0,.m 17 3,.d 18 (.call (.func 160) #[(.t 16),(.t 17)]),.m 8 18]
 .ret) .skip))
 (.seq (.sr [.m 19 3,.xk 20 .lss 19 0]
 (.ite (.t 20) (.reg [.m 21 0,.m 22 1,.d 23 (.call (.func 161) #[(.t 21),(.t 22)]),.xa 24 23,.m 3 24]) .skip))
 (.sr [.m 25 3,.m 26 0,.d 27 (.lenT (.t 26)),.xa 28 27,.d 29 (.rw (.call { callee:=.builtin .min,args:=#[(.t 25),(.t 28)],argTypes:=#[3,3] }) 3),.m 3 29]
 (.sr [.m 30 3,.d 31 (.rw (.makeSlice 22 (.t 30) (.t 30)) 22),.m 9 31]
 (.sr [.m 32 3,.d 33 (.sub (.t 32) (.ci 1)),.m 3 33]
 (.sr [.xv 10 0]
 (.seq (.block 0 (.loop (.seq (.sr [.m 34 10,.m 35 3,.xc 36 .lss 34 35]
 (.ite (.t 36) .skip (.exit 0)))
 (.block 1 (.sr [.m 37 0,.m 38 1,.d 39 (.call (.func 162) #[(.t 37),(.t 38)]),.m 11 39]
 (.seq (.sr [.m 40 11,.xk 41 .lss 40 0]
 (.ite (.t 41) (.exit 0) .skip))
 (.sr [.m 42 9,.m 43 10,.m 44 0,.m 45 11,.m 46 2,.d 47 (.add (.t 45) (.t 46)),.d 48 (.rw (.slice 9 (.t 44) none (some (.t 47)) none) 9),.xi 49 1 42 43,⟨.st 1 (.t 49) (.t 48),none,none,none⟩]
 (.sr [.m 50 0,.m 51 11,.m 52 1,.d 53 (.lenT (.t 52)),.d 54 (.add (.t 51) (.t 53)),.d 55 (.rw (.slice 9 (.t 50) (some (.t 54)) none none) 9),.m 0 55]
 (.reg [.m 56 10,.xa 57 56,.m 10 57])))))))))
 (.sr [.m 58 9,.m 59 10,.m 60 0,.xi 61 1 58 59,⟨.st 1 (.t 61) (.t 60),none,none,none⟩]
 (.sr [.m 62 9,.m 63 10,.xa 64 63,.d 65 (.sub3 1 (.t 62) none (some (.t 64))),.m 8 65]
 .ret)))))))))))
def Zrb:Zk prog 144 66 Zun [.t 8]:=.o [] [] Tryz.func144 K1
def Zuo:C:=(.sr [.xv 4 0]
 (.seq (.sr [.m 6 0,.xn 7 6,.xv 8 0]
 (.block 0 (.loop (.sr [.xc 9 .lss 8 7]
 (.seq (.ite (.t 9) .skip (.exit 0))
 (.seq (.block 1 (.sr [.m 10 8,.m 5 10]
 (.sr [.m 11 1,.m 12 0,.m 13 5,.xi 14 1 12 13,.xl 15 14,.d 16 (.teq .eql (.t 11) (.t 15))]
 (.ite (.t 16) (.sr [.m 17 5,.m 4 17]
 .ret) .skip))))
 (.reg [.xa 18 8,.m 8 18])))))))
 (.sr [.xv 4 (-1)]
 .ret)))
def Zrc:Zk prog 145 19 Zuo [.t 4]:=.o [] [] Tryz.func145 K1
def Zup:C:=(.sr [.xv 4 0]
 (.sr [.m 14 1,.d 15 (.lenT (.t 14)),.m 5 15]
 (.seq (.block 0 (.sr [.m 17 5,.xk 18 .eql 17 0,.m 19 18,.ym 20 19 false 1,.ym 21 19 false 0,.u 22 19 false (.teq .eql (.t 20) (.t 21)),.xq 23 19 22,.m 16 23]
 (.ite (.t 16) (.sr [.xv 4 0]
 .ret) (.sr [.m 25 5,.xk 26 .eql 25 1,.m 24 26]
 (.ite (.t 24) (.sr [.m 27 0,.m 28 1,.d 29 (.sidx (.t 28) (.ci 0)),.d 30 (.call (.func 105) #[(.t 27),(.t 29)]),.m 4 30]
 .ret) (.sr [.m 32 5,.m 33 0,.d 34 (.lenT (.t 33)),.xc 35 .geq 32 34,.m 31 35]
 (.ite (.t 31) (.sr [.xv 4 (-1)]
 .ret) (.sr [.m 37 5,.d 38 (.ld (.global 1)),.xc 39 .leq 37 38,.m 40 39,.ym 41 40 true 0,.u 42 40 true (.lenT (.t 41)),.yk 43 40 true .leq 42 64,.xp 44 40 43,.m 36 44]
 (.ite (.t 36) (.sr [.m 45 0,.m 46 1,.d 47 (.rw (.call { callee:=.value (.func 181),args:=#[(.t 45),(.t 46)],argTypes:=#[9,9] }) 3),.m 4 47]
 .ret) .skip)))))))))
 (.sr [.m 48 1,.d 49 (.sidx (.t 48) (.ci 0)),.m 6 49]
 (.sr [.m 50 1,.d 51 (.sidx (.t 50) (.ci 1)),.m 7 51]
 (.sr [.xv 8 0]
 (.sr [.m 52 0,.d 53 (.lenT (.t 52)),.m 54 5,.d 55 (.sub (.t 53) (.t 54)),.xa 56 55,.m 9 56]
 (.sr [.xv 10 0]
 (.seq (.block 1 (.loop (.seq (.sr [.m 57 8,.m 58 9,.xc 59 .lss 57 58]
 (.ite (.t 59) .skip (.exit 1)))
 (.block 2 (.seq (.sr [.m 60 0,.m 61 8,.d 62 (.sidx (.t 60) (.t 61)),.m 63 6,.xc 64 .neq 62 63]
 (.ite (.t 64) (.sr [.m 65 0,.m 66 8,.xa 67 66,.m 68 9,.d 69 (.rw (.slice 9 (.t 65) (some (.t 67)) (some (.t 68)) none) 9),.m 70 6,.d 71 (.call (.func 105) #[(.t 69),(.t 70)]),.m 11 71]
 (.seq (.sr [.m 72 11,.xk 73 .lss 72 0]
 (.ite (.t 73) (.sr [.xv 4 (-1)]
 .ret) .skip))
 (.reg [.m 74 8,.m 75 11,.xa 76 75,.d 77 (.add (.t 74) (.t 76)),.m 8 77]))) .skip))
 (.seq (.sr [.m 78 0,.m 79 8,.xa 80 79,.d 81 (.sidx (.t 78) (.t 80)),.m 82 7,.xc 83 .eql 81 82,.m 84 83,.ym 85 84 true 0,.ym 86 84 true 8,.ym 87 84 true 8,.ym 88 84 true 5,.u 89 84 true (.add (.t 87) (.t 88)),.u 90 84 true (.rw (.slice 9 (.t 85) (some (.t 86)) (some (.t 89)) none) 9),.ym 91 84 true 1,.u 92 84 true (.teq .eql (.t 90) (.t 91)),.xp 93 84 92]
 (.ite (.t 93) (.sr [.m 94 8,.m 4 94]
 .ret) .skip))
 (.sr [.m 95 8,.xa 96 95,.m 8 96]
 (.sr [.m 97 10,.xa 98 97,.m 10 98]
 (.sr [.m 99 5,.d 100 (.ld (.global 1)),.xc 101 .leq 99 100,.m 102 101,.ym 103 102 true 10,.ym 104 102 true 8,.u 105 102 true (.call (.func 182) #[(.t 104)]),.u 106 102 true (.cmp .gtr (.t 103) (.t 105)),.xp 107 102 106]
 (.ite (.t 107) (.sr [.m 108 0,.m 109 8,.d 110 (.rw (.slice 9 (.t 108) (some (.t 109)) none none) 9),.m 111 1,.d 112 (.rw (.call { callee:=.value (.func 181),args:=#[(.t 110),(.t 111)],argTypes:=#[9,9] }) 3),.m 12 112]
 (.seq (.sr [.m 113 12,.xk 114 .geq 113 0]
 (.ite (.t 114) (.sr [.m 115 12,.m 116 8,.d 117 (.add (.t 115) (.t 116)),.m 4 117]
 .ret) .skip))
 (.sr [.xv 4 (-1)]
 .ret))) (.sr [.m 118 5,.d 119 (.ld (.global 1)),.xc 120 .gtr 118 119,.m 121 120,.ym 122 121 true 10,.ym 123 121 true 8,.u 124 121 true (.ar .shr (.t 123) (.const (.int .u64 4))),.u 125 121 true (.add (.ci 4) (.t 124)),.u 126 121 true (.cmp .geq (.t 122) (.t 125)),.xp 127 121 126,.m 128 127,.ym 129 128 true 8,.ym 130 128 true 9,.u 131 128 true (.cmp .lss (.t 129) (.t 130)),.xp 132 128 131]
 (.ite (.t 132) (.sr [.m 133 0,.m 134 8,.d 135 (.rw (.slice 9 (.t 133) (some (.t 134)) none none) 9),.m 136 1,.d 137 (.call (.func 183) #[(.t 135),(.t 136)]),.m 13 137]
 (.seq (.sr [.m 138 13,.xk 139 .lss 138 0]
 (.ite (.t 139) (.sr [.xv 4 (-1)]
 .ret) .skip))
 (.sr [.m 140 8,.m 141 13,.d 142 (.add (.t 140) (.t 141)),.m 4 142]
 .ret))) .skip))))))))))))
 (.sr [.xv 4 (-1)]
 .ret))))))))))
def Zpb:Zk prog 159 143 Zup [.t 4]:=.o [] [] Tryz.func159 K1
def Zuq:C:=(.sr [.xv 4 0]
 (.seq (.sr [.m 7 1,.d 8 (.lenT (.t 7)),.xk 9 .eql 8 0]
 (.ite (.t 9) (.sr [.m 10 0,.d 11 (.call (.func 184) #[(.t 10)]),.xa 12 11,.m 4 12]
 .ret) .skip))
 (.seq (.sr [.m 13 1,.d 14 (.lenT (.t 13)),.xk 15 .eql 14 1]
 (.ite (.t 15) (.sr [.m 16 0,.m 17 1,.d 18 (.sidx (.t 17) (.ci 0)),.d 19 (.rw (.call { callee:=.value (.func 186),args:=#[(.t 16),(.t 18)],argTypes:=#[9,5] }) 3),.m 4 19]
 .ret) .skip))
 (.sr [.xv 5 0]
 (.block 0 (.loop (.block 1 (.sr [.m 20 0,.m 21 1,.d 22 (.call (.func 162) #[(.t 20),(.t 21)]),.m 6 22]
 (.seq (.sr [.m 23 6,.xk 24 .eql 23 (-1)]
 (.ite (.t 24) (.sr [.m 25 5,.m 4 25]
 .ret) .skip))
 (.sr [.m 26 5,.xa 27 26,.m 5 27]
 (.reg [.m 28 0,.m 29 6,.m 30 1,.d 31 (.lenT (.t 30)),.d 32 (.add (.t 29) (.t 31)),.d 33 (.rw (.slice 9 (.t 28) (some (.t 32)) none none) 9),.m 0 33])))))))))))
def Zrd:Zk prog 161 34 Zuq [.t 4]:=.o [] [] Tryz.func161 K1
def Zur:C:=(.sr [.xv 4 0]
 (.sr [.m 5 0,.m 6 1,.d 7 (.call (.func 159) #[(.t 5),(.t 6)]),.m 4 7]
 .ret))
def Zre:Zk prog 162 8 Zur [.t 4]:=.o [] [] Tryz.func162 K1
