/- Lemmas. No conditions. -/
import Derived.Test.YtignaaddghcanaaGreatDoorProg
import Derived.Test.YtignaaddghcanaaGreatDoorB01
set_option linter.all false
set_option maxRecDepth 100000
open Go.Proofs.Tryz (prog)
noncomputable section
namespace Go.TM
open Go.Proofs
def Zxl:C:=(.sr [.d 1 (.box 25 (.t 0)),.d 2 (.mv (.const (.string ⟨#[]⟩))),.xv 3 0]
 (.seq (.sr [.xd 14 2 1,.d 15 (.call (.func 24) #[(.t 14)]),.m 4 15]
 (.sr [.m 16 4,.xk 17 .neq 16 0]
 (.ite (.t 17) (.sr [.m 18 4,.d 2 (.mv (.const (.string ⟨#[]⟩))),.m 3 18]
 .ret) .skip)))
 (.sr [.d 5 (.alloc 64 #[(.pointer none),.nl])]
 (.sr [.d 19 (.mkf (.func 25) #[] #[(.t 5)]),.m 6 19]
 (.sr [.d 7 (.mv (.func 28))]
 (.seq (.sr [.xo 20 0 1,.xl 21 20,.xn 22 21,.xv 23 0]
 (.block 0 (.loop (.sr [.xc 24 .lss 23 22]
 (.seq (.ite (.t 24) .skip (.exit 0))
 (.seq (.block 1 (.sr [.xi 25 1 21 23,.xl 26 25,.m 9 26]
 (.reg [.m 27 6,.m 28 9,.d 29 (.bsl 9 1 #[(.string ⟨#[]⟩)] [(0,1,(.t 28))]),⟨.call (.t 27) #[(.const (.string ⟨#[114,105,103,104,116]⟩)),(.t 29)],some 30,none,none⟩])))
 (.reg [.xa 31 23,.m 23 31])))))))
 (.seq (.sr [.xo 32 1 1,.xl 33 32,.xn 34 33,.xv 35 0]
 (.block 2 (.loop (.sr [.xc 36 .lss 35 34]
 (.seq (.ite (.t 36) .skip (.exit 2))
 (.seq (.block 3 (.sr [.xi 37 4 33 35,.xd 38 4 37,.d 11 (.alloc 39 #[(.string ⟨#[]⟩),(.int .i64 0),.nl,.nl]),⟨.st 4 (.t 11) (.t 38),none,none,none⟩]
 (.seq (.drw [(0,.m 39 6),(0,.xo 40 0 11),(0,.xl 41 40),(0,.xo 42 0 1),(0,.xl 43 42),(0,.xo 44 1 11),(0,.xl 45 44),(0,.xi 46 1 43 45),(0,.xl 47 46),(2,.d 48 (.bsl 9 2 #[(.string ⟨#[]⟩),(.string ⟨#[]⟩)] [(0,1,(.t 41)),(1,1,(.t 47))]))] [⟨.call (.t 39) #[(.const (.string ⟨#[99,97,115,101]⟩)),(.t 48)],some 49,none,none⟩])
 (.seq (.sr [.xo 50 2 11,.xl 51 50,.xn 52 51,.xv 53 0]
 (.block 4 (.loop (.sr [.xc 54 .lss 53 52]
 (.seq (.ite (.t 54) .skip (.exit 4))
 (.seq (.block 5 (.sr [.xi 55 1 51 53,.xl 56 55,.m 13 56]
 (.reg [.m 57 6,.m 58 7,.m 59 13,.d 60 (.mkf (.func 29) #[] #[(.t 1)]),.d 61 (.call (.t 58) #[(.t 59),(.t 60)]),.d 62 (.bsl 9 1 #[(.string ⟨#[]⟩)] [(0,1,(.t 61))]),⟨.call (.t 57) #[(.const (.string ⟨#[103,114,111,117,110,100]⟩)),(.t 62)],some 63,none,none⟩])))
 (.reg [.xa 64 53,.m 53 64])))))))
 (.sr [.xo 65 3 11,.xl 66 65,.xn 67 66,.xk 68 .gtr 67 0]
 (.ite (.t 68) (.reg [.m 69 6,.m 70 7,.xo 71 3 11,.xl 72 71,.d 73 (.mkf (.func 30) #[] #[(.t 1)]),.d 74 (.call (.t 70) #[(.t 72),(.t 73)]),.d 75 (.bsl 9 1 #[(.string ⟨#[]⟩)] [(0,1,(.t 74))]),⟨.call (.t 69) #[(.const (.string ⟨#[97,102,116,101,114]⟩)),(.t 75)],some 76,none,none⟩]) .skip))))))
 (.reg [.xa 77 35,.m 35 77])))))))
 (.seq (.sr [.d 78 (.call (.func 31) #[(.t 5)]),.xk 79 .gtr 78 60000]
 (.ite (.t 79) (.sr [.d 2 (.mv (.const (.string ⟨#[]⟩))),.xv 3 2]
 .ret) .skip))
 (.sr [.d 80 (.call (.func 32) #[(.t 5)]),.m 2 80,.xv 3 0]
 .ret)))))))))
def Zpl:Zk prog 7 81 Zxl [.t 2,.t 3]:=.o [] [] Tryz.func7 K1
def Zvr:C:=(.reg [.m 5 0,⟨.rw (.binOp .add 9 (.t 5) (.const (.string ⟨#[58]⟩)) 9) 9,some 6,none,none⟩,.m 7 1,⟨.bsl 9 1 #[(.string ⟨#[]⟩)] [(0,1,(.const (.string ⟨#[10]⟩)))],some 8,none,none⟩,.xz 9 7 8 22,⟨.call (.func 27) #[(.t 9),(.const (.string ⟨#[59]⟩))],some 10,none,none⟩,.d 11 (.rw (.binOp .add 9 (.t 6) (.t 10) 9) 9),.d 12 (.call (.func 26) #[(.t 2),(.t 11)])])
def Zmq:Zk prog 25 13 Zvr []:=.o [] [] Tryz.func25 K1
def Zvu:C:=(.sr [.d 4 (.mv (.const (.string ⟨#[]⟩)))]
 (.sr [.xs 5]
 (.seq (.sr [.m 8 0,.xn 9 8,.xv 10 0]
 (.block 0 (.loop (.sr [.xc 11 .lss 10 9]
 (.seq (.ite (.t 11) .skip (.exit 0))
 (.seq (.block 1 (.sr [.xi 12 1 8 10,.xl 13 12,.m 7 13]
 (.reg [.m 14 5,.m 15 1,.m 16 7,.d 17 (.call (.t 15) #[(.t 16)]),.d 18 (.bsl 9 1 #[(.string ⟨#[]⟩)] [(0,1,(.t 17))]),.xz 19 14 18 22,.m 5 19])))
 (.reg [.xa 20 10,.m 10 20])))))))
 (.sr [.m 21 5,⟨.call (.func 27) #[(.t 21),(.const (.string ⟨#[44]⟩))],some 22,none,none⟩,.m 4 22]
 .ret))))
def Zp5:Zk prog 28 23 Zvu [.t 4]:=.o [] [] Tryz.func28 K1
def Zvv:C:=(.sr [.d 3 (.mv (.const (.string ⟨#[]⟩)))]
 (.sr [.xo 4 0 1,.xl 5 4,.m 6 0,.xi 7 1 5 6,.xl 8 7,.m 3 8]
 .ret))
def Zsc:Zk prog 29 9 Zvv [.t 3]:=.o [] [] Tryz.func29 K1
def Zvw:C:=(.sr [.d 3 (.mv (.const (.string ⟨#[]⟩)))]
 (.sr [.xo 4 1 1,.xl 5 4,.m 6 0,.xi 7 4 5 6,.xo 8 0 7,.xl 9 8,.m 3 9]
 .ret))
def Zsd:Zk prog 30 10 Zvw [.t 3]:=.o [] [] Tryz.func30 K1
def Zxm:C:=(.sr [.d 2 (.alloc 25 #[.nl,.nl]),.d 3 (.alloc 3 #[(.int .i64 0)]),.d 4 (.alloc 28 #[(.int .i64 0)])]
 (.seq (.sr [.m 17 0,.d 18 (.lenT (.t 17)),.xk 19 .gtr 18 60000]
 (.ite (.t 19) (.sr [.d 20 (.build #[.nl,.nl] []),⟨.st 2 (.t 2) (.t 20),none,none,none⟩,⟨.st 1 (.t 3) (.ci 0),none,none,none⟩,⟨.st 1 (.t 4) (.ci 2),none,none,none⟩]
 .ret) .skip))
 (.sr [.d 21 (.mkf (.func 36) #[] #[(.t 2),(.t 3),(.t 4)]),⟨.mv (.t 21),none,none,some ((.t 21),#[])⟩]
 (.sr [.d 22 (.rw (.makeMap 82 none) 82),.d 23 (.rw (.makeMap 82 none) 82),.d 24 (.build #[.nl,.nl,(.map none),(.map none),(.int .i64 0)] [(2,1,(.t 22)),(3,1,(.t 23))]),.d 25 (.boxM 84 (.t 24)),.d 5 (.alloc 80 #[(.pointer none)]),⟨.st 1 (.t 5) (.t 25),none,none,none⟩]
 (.sr [.d 6 (.alloc 85 #[.nl])]
 (.sr [.d 7 (.alloc 87 #[.nilIface])]
 (.sr [.d 8 (.alloc 3 #[(.int .i64 0)]),.d 9 (.alloc 3 #[(.int .i64 0)]),⟨.st 1 (.t 8) (.ci 0),none,none,none⟩,⟨.st 1 (.t 9) (.ci 0),none,none,none⟩]
 (.seq (.sr [.m 26 0,.d 27 (.call (.func 37) #[(.t 26)])]
 (.block 0 (.rng 106 [25] [] (.t 27) #[28] (.reg [.m 10 28]) (.block 1 (.sr [.m 29 10,⟨.call (.func 39) #[(.t 29),(.const (.string ⟨#[10]⟩))],some 30,none,none⟩,.d 31 (.call (.func 38) #[(.t 30)]),.m 11 31]
 (.seq (.sr [.m 32 11,.d 33 (.rw (.binOp .eql 87 (.t 32) (.const .nilIface) 87) 4),.m 34 33,.ym 35 34 false 11,.yl 36 34 false 7,.u 37 34 false (.rw (.call { callee:=.invoke (.t 35) "touchmark/rival.follows", args:=#[(.t 36)],argTypes:=#[87] }) 4),.u 38 34 false (.not (.t 37)),.xq 39 34 38]
 (.ite (.t 39) (.reg [.xl 40 6,.xn 41 40,.xa 42 41,.d 43 (.build #[(.int .i64 0),(.int .i64 0)] [(0,1,(.t 42)),(1,1,(.ci 3))]),.d 44 (.rw (.makeInterface 79 (.t 43)) 20),⟨.rw (.panic (.t 44)) 0,none,none,none⟩]) .skip))
 (.seq (.sr [.m 45 11]
 (.block 2 (.sr [.d 46 (.rw (.typeAssert (.t 45) 87 95 true) 0),.xe 47 46 1,.xe 48 46 0]
 (.ite (.t 47) (.sr [.d 12 (.alloc 95 #[(.string ⟨#[]⟩)]),⟨.st 1 (.t 12) (.t 48),none,none,none⟩]
 (.seq (.drw [(0,.xl 49 5),(0,.d 50 (.nilc (.t 49))),(0,.xo 51 2 50),(0,.xl 52 51),(0,.xo 53 0 12),(0,.xl 54 53),(0,.xl 55 8)] [.d 56 (.call (.func 40) #[(.t 52),(.t 54),(.t 55)])])
 (.reg [.xl 57 8,.xa 58 57,⟨.st 1 (.t 8) (.t 58),none,none,none⟩]))) (.sr [.d 59 (.rw (.typeAssert (.t 45) 87 98 true) 0),.xe 60 59 1,.xe 61 59 0]
 (.ite (.t 60) (.sr [.d 13 (.alloc 98 #[(.string ⟨#[]⟩),(.string ⟨#[]⟩)]),⟨.st 2 (.t 13) (.t 61),none,none,none⟩]
 (.seq (.drw [(0,.xl 62 5),(0,.d 63 (.nilc (.t 62))),(0,.xo 64 3 63),(0,.xl 65 64),(0,.xo 66 0 13),(0,.xl 67 66),(0,.xl 68 9)] [.d 69 (.call (.func 40) #[(.t 65),(.t 67),(.t 68)])])
 (.reg [.xl 70 9,.xa 71 70,⟨.st 1 (.t 9) (.t 71),none,none,none⟩]))) .skip))))))
 (.reg [.xl 72 6,.m 73 11,.d 74 (.bsl 87 1 #[.nilIface] [(0,1,(.t 73))]),.xz 75 72 74 85,.m 76 11,⟨.st 1 (.t 6) (.t 75),none,none,none⟩,⟨.st 1 (.t 7) (.t 76),none,none,none⟩]))))))))
 (.seq (.sr [.xl 77 6,.xn 78 77,.xv 79 0]
 (.block 3 (.loop (.sr [.xc 80 .lss 79 78]
 (.seq (.ite (.t 80) .skip (.exit 3))
 (.seq (.block 4 (.sr [.m 81 79,.xi 82 1 77 79,.xl 83 82,.m 14 81,.m 15 83]
 (.sr [.xl 84 5,.m 85 14,.xa 86 85,.d 87 (.nilc (.t 84)),.xo 88 4 87,⟨.st 1 (.t 88) (.t 86),none,none,none⟩]
 (.reg [.xl 89 5,.m 90 15,.d 91 (.call (.func 41) #[(.t 89),(.t 90)])]))))
 (.reg [.xa 92 79,.m 79 92])))))))
 (.seq (.sr [.xl 93 5,.d 94 (.nilc (.t 93)),.xo 95 0 94,.xd 96 2 95,.d 97 (.call (.func 24) #[(.t 96)]),.m 16 97]
 (.sr [.m 98 16,.xk 99 .neq 98 0]
 (.ite (.t 99) (.sr [.d 100 (.build #[.nl,.nl] []),.m 101 16,⟨.st 2 (.t 2) (.t 100),none,none,none⟩,⟨.st 1 (.t 3) (.ci 0),none,none,none⟩,⟨.st 1 (.t 4) (.t 101),none,none,none⟩]
 .ret) .skip)))
 (.sr [.xl 102 5,.d 103 (.nilc (.t 102)),.xo 104 0 103,.xd 105 2 104,⟨.st 2 (.t 2) (.t 105),none,none,none⟩,⟨.st 1 (.t 3) (.ci 0),none,none,none⟩,⟨.st 1 (.t 4) (.ci 0),none,none,none⟩]
 .ret)))))))))))
def Zrx:Zk prog 9 106 Zxm [.cn 2 2,.c 3,.c 4]:=.o [25] [] Tryz.func9 K1
def Zvz:C:=(.sr [.d 6 (.rw (.call { callee:=.builtin .recover,args:=#[],argTypes:=#[] }) 20)]
 (.block 0 (.sr [.d 8 (.rw (.binOp .eql 20 (.t 6) (.const .nilIface) 20) 4)]
 (.ite (.t 8) (.reg [.m 3 6]) (.sr [.d 9 (.rw (.typeAssert (.t 6) 20 79 true) 0),.xe 10 9 1,.xe 11 9 0]
 (.ite (.t 10) (.sr [.d 4 (.alloc 79 #[(.int .i64 0),(.int .i64 0)]),⟨.st 2 (.t 4) (.t 11),none,none,none⟩]
 (.drs [(0,.d 12 (.build #[.nl,.nl] [])),(0,.xo 13 0 4),(0,.xl 14 13),(0,.xo 15 1 4),(3,.xl 16 15),(2,⟨.st 2 (.t 0) (.t 12),none,none,none⟩)] ⟨.st 1 (.t 1) (.t 14),none,none,none⟩ [⟨.st 1 (.t 2) (.t 16),none,none,none⟩])) (.sr [.m 5 6]
 (.reg [.m 7 5,⟨.rw (.panic (.t 7)) 0,none,none,none⟩]))))))))
def Zwj:Zk prog 36 17 Zvz []:=.o [] [] Tryz.func36 K1
def Zv1:C:=(.sr [.d 2 (.mv (.const .nilIface))]
 (.sr [.m 9 0,.d 10 (.call (.func 72) #[(.t 9)]),.m 8 10,.xe 11 8 0,.xe 12 8 1,.xe 13 8 2,.m 3 11,.m 4 12,.m 5 13]
 (.seq (.sr [.m 14 5,.xt 15 14,.m 16 15,.ym 17 16 false 4,.yn 18 16 false 17,.yk 19 16 false .eql 18 0,.xq 20 16 19,.m 21 20,.ym 22 21 false 4,.u 23 21 false (.idx 1 (.t 22) (.ci 0)),.yl 24 21 false 23,⟨.teq .eql (.t 24) (.const (.string ⟨#[]⟩)),some 25,some (21,false),none⟩,.ym 26 21 false 25,.ym 27 26 true 3,⟨.teq .neq (.t 27) (.const (.string ⟨#[103,114,111,117,110,100]⟩)),some 28,some (26,true),none⟩,.u 29 21 false (.pick (.t 26) (.t 28) (.cb false)),.xq 30 21 29]
 (.ite (.t 30) (.sr [.d 2 (.mv (.const .nilIface))]
 .ret) .skip))
 (.sr [.m 32 4,.d 33 (.idx 1 (.t 32) (.ci 0)),.xl 34 33,.d 35 (.call (.func 73) #[(.t 34)]),.m 31 35,.xe 36 31 0,.xe 37 31 1,.m 6 36,.m 7 37]
 (.seq (.block 0 (.sr [.m 39 3,⟨.teq .eql (.t 39) (.const (.string ⟨#[114,105,103,104,116]⟩)),some 40,none,none⟩,.m 41 40,.ym 42 41 true 4,.yn 43 41 true 42,.yk 44 41 true .eql 43 1,.xp 45 41 44,.m 38 45]
 (.ite (.t 38) (.sr [.m 46 4,.d 47 (.idx 1 (.t 46) (.ci 0)),.xl 48 47,⟨.build #[(.string ⟨#[]⟩)] [(0,1,(.t 48))],some 49,none,none⟩,.d 50 (.rw (.makeInterface 95 (.t 49)) 87),.m 2 50]
 .ret) (.sr [.m 52 3,⟨.teq .eql (.t 52) (.const (.string ⟨#[99,97,115,101]⟩)),some 53,none,none⟩,.m 54 53,.ym 55 54 true 4,.yn 56 54 true 55,.yk 57 54 true .eql 56 2,.xp 58 54 57,.m 59 58,.ym 60 59 true 4,.u 61 59 true (.idx 1 (.t 60) (.ci 1)),.yl 62 59 true 61,⟨.teq .neq (.t 62) (.const (.string ⟨#[]⟩)),some 63,some (59,true),none⟩,.xp 64 59 63,.m 51 64]
 (.ite (.t 51) (.seq (.drw [(0,.m 65 4),(0,.d 66 (.idx 1 (.t 65) (.ci 0))),(0,.xl 67 66),(0,.m 68 4),(0,.d 69 (.idx 1 (.t 68) (.ci 1))),(0,.xl 70 69)] [⟨.build #[(.string ⟨#[]⟩),(.string ⟨#[]⟩)] [(0,1,(.t 67)),(1,1,(.t 70))],some 71,none,none⟩,.d 72 (.rw (.makeInterface 98 (.t 71)) 87),.m 2 72])
 .ret) (.sr [.m 74 3,⟨.teq .eql (.t 74) (.const (.string ⟨#[103,114,111,117,110,100]⟩)),some 75,none,none⟩,.m 76 75,.ym 77 76 true 4,.yn 78 76 true 77,.yk 79 76 true .eql 78 1,.xp 80 76 79,.m 81 80,.ym 82 81 true 7,.xp 83 81 82,.m 73 83]
 (.ite (.t 73) (.sr [.m 84 6,.d 85 (.build #[.nl] [(0,1,(.t 84))]),.d 86 (.rw (.makeInterface 146 (.t 85)) 87),.m 2 86]
 .ret) (.sr [.m 88 3,⟨.teq .eql (.t 88) (.const (.string ⟨#[97,102,116,101,114]⟩)),some 89,none,none⟩,.m 90 89,.ym 91 90 true 4,.yn 92 90 true 91,.yk 93 90 true .eql 92 1,.xp 94 90 93,.m 95 94,.ym 96 95 true 7,.xp 97 95 96,.m 87 97]
 (.ite (.t 87) (.sr [.m 98 6,.d 99 (.build #[.nl] [(0,1,(.t 98))]),.d 100 (.rw (.makeInterface 148 (.t 99)) 87),.m 2 100]
 .ret) .skip)))))))))
 (.sr [.d 2 (.mv (.const .nilIface))]
 .ret))))))
def Zna:Zk prog 38 101 Zv1 [.t 2]:=.o [] [] Tryz.func38 K1
def Zv3:C:=(.sr [.m 9 0,.m 10 1,.d 11 (.rw (.lookup 82 (.t 9) (.t 10) true) 149),.m 8 11,.xe 12 8 0,.xe 13 8 1,.m 6 12,.m 7 13]
 (.sr [.m 14 7,.xt 15 14]
 (.ite (.t 15) (.reg [.m 16 0,.m 17 1,.m 18 2,⟨.rw (.mapUpdate 82 (.t 16) (.t 17) (.t 18)) 0,none,none,none⟩]) .skip)))
def Zp7:Zk prog 40 19 Zv3 []:=.o [] [] Tryz.func40 K1
noncomputable def Zv4:C:=(.sr [.m 9 0,.d 10 (.nilc (.t 9)),.xo 11 0 10,.xo 12 1 11,.xl 13 12,.xn 14 13,.d 15 (.sub (.t 14) (.ci 1)),.m 4 15]
 (.sr [.m 16 1]
 (.block 0 (.sr [.d 17 (.rw (.typeAssert (.t 16) 87 95 true) 0),.xe 18 17 1,.xe 19 17 0]
 (.ite (.t 18) (.sr [.d 5 (.alloc 95 #[(.string ⟨#[]⟩)]),⟨.st 1 (.t 5) (.t 19),none,none,none⟩]
 (.cd 110 (GA Tryz.f41 4))) (.sr [.d 33 (.rw (.typeAssert (.t 16) 87 98 true) 0),.xe 34 33 1,.xe 35 33 0]
 (.ite (.t 34) (.sr [.d 6 (.alloc 98 #[(.string ⟨#[]⟩),(.string ⟨#[]⟩)]),⟨.st 2 (.t 6) (.t 35),none,none,none⟩]
 (.cd 110 (GA Tryz.f41 7))) (.sr [.d 61 (.rw (.typeAssert (.t 16) 87 146 true) 0),.xe 62 61 1,.xe 63 61 0]
 (.ite (.t 62) (.sr [.d 7 (.alloc 146 #[.nl]),⟨.st 1 (.t 7) (.t 63),none,none,none⟩]
 (.cd 110 (GA Tryz.f41 10))) (.sr [.d 91 (.rw (.typeAssert (.t 16) 87 148 true) 0),.xe 92 91 1,.xe 93 91 0]
 (.ite (.t 92) (.sr [.d 8 (.alloc 148 #[.nl]),⟨.st 1 (.t 8) (.t 93),none,none,none⟩]
 (.cd 110 (GA Tryz.f41 13))) .skip)))))))))))
def Znc:Zk prog 41 110 Zv4 []:=.o [1004,1007,1010,1013] [] Tryz.func41 K1
def Zwd:C:=(.sr [.d 2 (.mv (.const (.string ⟨#[]⟩))),.xs 3,.xb 4 false]
 (.sr [.m 10 0,⟨.call (.func 106) #[(.t 10),(.const (.string ⟨#[58]⟩))],some 11,none,none⟩,.m 9 11,.xe 12 9 0,.xe 13 9 1,.xe 14 9 2,.m 5 12,.m 6 13,.m 7 14]
 (.sr [.m 15 6,⟨.call (.func 107) #[(.t 15),(.const (.string ⟨#[59]⟩))],some 16,none,none⟩,.m 8 16]
 (.seq (.drw [(0,.m 17 5),(0,.m 18 8),(0,.m 19 8),(0,.xn 20 19),(0,.d 21 (.sub (.t 20) (.ci 1))),(0,.d 22 (.sub3 1 (.t 18) none (some (.t 21)))),(0,.m 23 7),(0,.m 24 23),(0,.ym 25 24 true 5),(0,⟨.teq .neq (.t 25) (.const (.string ⟨#[]⟩)),some 26,some (24,true),none⟩),(0,.xp 27 24 26),(0,.m 28 27),(0,.ym 29 28 true 8),(0,.ym 30 28 true 8),(0,.yn 31 28 true 30),(0,.u 32 28 true (.sub (.t 31) (.ci 1))),(0,.yi 33 28 true 1 29 32),(0,.yl 34 28 true 33),(0,⟨.teq .eql (.t 34) (.const (.string ⟨#[]⟩)),some 35,some (28,true),none⟩),(0,.xp 36 28 35),(0,.m 2 17),(0,.m 3 22)] [.m 4 36])
 .ret))))
def Znf:Zk prog 72 37 Zwd [.t 2,.t 3,.t 4]:=.o [] [] Tryz.func72 K1
def Zwe:C:=(.sr [.xs 2,.xb 3 false]
 (.seq (.sr [.m 5 0,⟨.teq .eql (.t 5) (.const (.string ⟨#[]⟩)),some 6,none,none⟩]
 (.ite (.t 6) (.sr [.xs 2,.xb 3 true]
 .ret) .skip))
 (.sr [.m 7 0,⟨.call (.func 107) #[(.t 7),(.const (.string ⟨#[44]⟩))],some 8,none,none⟩,.m 4 8]
 (.sr [.m 9 4,.m 10 4,.d 11 (.call (.func 108) #[(.t 10),(.const (.string ⟨#[]⟩))]),.xt 12 11,.m 2 9,.m 3 12]
 .ret))))
def Zft:Zk prog 73 13 Zwe [.t 2,.t 3]:=.o [] [] Tryz.func73 K1
def Zwg:C:=(.sr [.xs 6]
 (.sr [.m 12 2,.xn 13 12,.d 14 (.rw (.makeSlice 37 (.ci 0) (.t 13)) 37),.m 7 14]
 (.seq (.sr [.m 15 2,.xn 16 15,.xv 17 0]
 (.block 0 (.loop (.sr [.xc 18 .lss 17 16]
 (.seq (.ite (.t 18) .skip (.exit 0))
 (.seq (.block 1 (.sr [.xi 19 1 15 17,.xl 20 19,.m 9 20]
 (.sr [.m 22 1,.m 23 9,.d 24 (.rw (.lookup 82 (.t 22) (.t 23) true) 149),.m 21 24,.xe 25 21 0,.xe 26 21 1,.m 10 25,.m 11 26]
 (.seq (.sr [.m 27 11,.xt 28 27]
 (.ite (.t 28) (.reg [.m 29 0,.d 30 (.nilc (.t 29)),.xo 31 4 30,.xl 32 31,.d 33 (.build #[(.int .i64 0),(.int .i64 0)] [(0,1,(.t 32)),(1,1,(.ci 6))]),.d 34 (.rw (.makeInterface 79 (.t 33)) 20),⟨.rw (.panic (.t 34)) 0,none,none,none⟩]) .skip))
 (.reg [.m 35 7,.m 36 10,.d 37 (.bsl 3 1 #[(.int .i64 0)] [(0,1,(.t 36))]),.xz 38 35 37 37,.m 7 38])))))
 (.reg [.xa 39 17,.m 17 39])))))))
 (.sr [.m 40 7,.d 41 (.call (.func 110) #[(.t 40)])]
 (.sr [.m 42 7,.m 6 42]
 .ret)))))
def Zoy:Zk prog 75 43 Zwg [.t 6]:=.o [] [] Tryz.func75 K1
def Zus:C:=(.sr [.d 2 (.box 95 (.t 0)),.xb 4 false]
 (.sr [.m 8 1,.d 9 (.rw (.typeAssert (.t 8) 87 95 true) 280),.m 7 9,.xe 10 7 0,.xe 11 7 1,.d 5 (.alloc 95 #[(.string ⟨#[]⟩)]),⟨.st 1 (.t 5) (.t 10),none,none,none⟩,.m 6 11]
 (.sr [.m 12 6,.m 13 12,.ym 14 13 false 1,.u 15 13 false (.rw (.binOp .eql 87 (.t 14) (.const .nilIface) 87) 4),.xq 16 13 15,.m 4 16]
 .ret)))
def Zu2:Zk prog 212 17 Zus [.t 4]:=.o [] [] Tryz.func212 K1
def Zut:C:=(.sr [.d 2 (.box 98 (.t 0)),.xb 4 false]
 (.sr [.xb 4 true]
 .ret))
def Zu3:Zk prog 213 5 Zut [.t 4]:=.o [] [] Tryz.func213 K1
def Zuu:C:=(.sr [.d 2 (.box 146 (.t 0)),.xb 4 false]
 (.sr [.m 5 1,.d 6 (.call (.func 215) #[(.t 5)]),.m 4 6]
 .ret))
def Zu4:Zk prog 214 7 Zuu [.t 4]:=.o [] [] Tryz.func214 K1
def Zuv:C:=(.sr [.xb 2 false]
 (.seq (.sr [.m 3 0]
 (.block 0 (.sr [.d 4 (.rw (.typeAssert (.t 3) 87 98 true) 0),.xe 5 4 1,.xe 6 4 0,.d 7 (.rw (.typeAssert (.t 3) 87 146 true) 0),.xe 8 7 1,.xe 9 7 0,.xq 10 5 8]
 (.ite (.t 10) (.sr [.xb 2 true]
 .ret) .skip))))
 (.sr [.xb 2 false]
 .ret)))
def Zpc:Zk prog 215 11 Zuv [.t 2]:=.o [] [] Tryz.func215 K1
def Zuw:C:=(.sr [.d 2 (.box 148 (.t 0)),.xb 4 false]
 (.sr [.m 5 1,.d 6 (.call (.func 215) #[(.t 5)]),.m 4 6]
 .ret))
def Zu5:Zk prog 216 7 Zuw [.t 4]:=.o [] [] Tryz.func216 K1
