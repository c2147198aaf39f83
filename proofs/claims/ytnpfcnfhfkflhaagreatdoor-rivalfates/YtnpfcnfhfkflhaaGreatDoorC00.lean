/- Lemmas. No conditions. -/
import Derived.Test.YtnpfcnfhfkflhaaGreatDoorB09
import Derived.Test.YtnpfcnfhfkflhaaGreatDoorB42
import Derived.Test.YtnpfcnfhfkflhaaGreatDoorB44
set_option linter.all false
set_option maxRecDepth 100000
noncomputable section
namespace Go.TM
variable{T:Type}{P:Program}{S:Sys P T}
def Qb.sep0{f:FuncId}{args:Array Value}{R:Value->Qa T->Prop}{U:Qa T}(h:WH U->Qb S f args R U):Qb S f args R U:=by
 intro a m c cs k;by_cases b:WH U
 .exact h b a m c cs k
 .exact .priv ⟨rfl,λ w d=>absurd d.sep b⟩
end Go.TM
namespace Go.Proofs
open Go.TM
noncomputable def Zpf:C:=(.seq (.reg [.d 2 (.box 25 (.t 0)),.xs 4])
 (.seq (.seq (.reg [.m 7 1,.xn 8 7,.xo 9 1 2,.xl 10 9,.xn 11 10,.xc 12 .eql 8 11])
 (.ite (.t 12) (.seq (.reg [.d 13 (.bsl 3 0 #[] []),.m 14 1,.xz 15 13 14 26,.d 16 (.bsl 26 1 #[(.slice none 0 0)] [(0,1,(.t 15))]),.m 4 16])
 .ret) .skip))
 (.seq (.reg [.xs 5])
 (.seq (.seq (.reg [.xv 6 0])
 (.block 0 (.loop (.seq (.seq (.reg [.m 17 6,.xo 18 1 2,.xl 19 18,.xn 20 19,.xc 21 .lss 17 20])
 (.ite (.t 21) .skip (.exit 0)))
 (.seq (.block 1 (.seq (.reg [.m 24 1,.m 25 6,.d 26 (.call (.func 38) #[(.t 24),(.t 25)]),.xt 27 26,.m 28 27,.yo 29 28 true 1 2,.yl 30 28 true 29,.ym 31 28 true 6,.yi 32 28 true 4 30 31,.yo 33 28 true 3 32,.yl 34 28 true 33,.ym 35 28 true 1,.u 36 28 true (.call (.func 127) #[(.t 34),(.t 35)]),.xp 37 28 36])
 (.ite (.t 37) (.cd 49 (Gl Tryz.f82 8)) .skip)))
 (.reg [.m 22 6,.xa 23 22,.m 6 23]))))))
 (.seq (.reg [.m 48 5,.m 4 48])
 .ret)))))
def Qdc:Zf Tryz.prog 82 49 Zpf [.t 4]:=.o [] [] Tryz.func82 K1
def Zoo:C:=(.seq (.reg [.d 1 (.box 25 (.t 0)),.xs 2,.xs 3,.xv 4 0])
 (.seq (.seq (.reg [.xd 8 2 1,.d 9 (.call (.func 24) #[(.t 8)]),.m 5 9])
 (.seq (.reg [.m 10 5,.xk 11 .neq 10 0])
 (.ite (.t 11) (.seq (.reg [.m 12 5,.xs 2,.xs 3,.m 4 12])
 .ret) .skip)))
 (.seq (.reg [.xd 14 2 1,.d 15 (.call (.func 78) #[(.t 14)]),.m 13 15,.xe 16 13 0,.xe 17 13 1,.m 6 16,.m 7 17])
 (.seq (.reg [.m 18 6,.m 19 7,.m 2 18,.m 3 19,.xv 4 0])
 .ret))))
def Zc6:Zf Tryz.prog 27 20 Zoo [.t 2,.t 3,.t 4]:=.o [] [] Tryz.func27 K1
noncomputable def Zoq:C:=(.seq (.reg [.d 1 (.box 25 (.t 0)),.xs 2,.xs 3])
 (.seq (.reg [.xd 16 2 1,.d 17 (.call (.func 82) #[(.t 16),.cn]),.m 4 17])
 (.seq (.cd 107 (Gl Tryz.f78 2))
 (.seq (.seq (.reg [.xv 7 0])
 (.block 0 (.loop (.seq (.seq (.reg [.m 26 7,.m 27 4,.xn 28 27,.xc 29 .lss 26 28])
 (.ite (.t 29) .skip (.exit 0)))
 (.seq (.block 1 (.seq (.drw [(0,.xd 33 2 1),(0,.m 34 4),(0,.m 35 7),(0,.xi 36 1 34 35),(0,.xl 37 36),(2,.d 38 (.call (.func 72) #[(.t 33),(.t 37)])),(0,.m 32 38),(0,.xe 39 32 0),(0,.xe 40 32 1),(0,.m 8 39)] [.m 9 40])
 (.seq (.seq (.reg [.xv 10 0])
 (.block 2 (.loop (.seq (.seq (.reg [.m 41 10,.m 42 5,.xn 43 42,.xc 44 .lss 41 43])
 (.ite (.t 44) .skip (.exit 2)))
 (.seq (.block 3 (.seq (.reg [.m 47 8,.m 48 10,.xi 49 1 47 48,.xl 50 49])
 (.ite (.t 50) (.reg [.m 51 5,.m 52 10,.xi 53 1 51 52,.xl 54 53,.xa 55 54,.xi 56 1 51 52,⟨.st 1 (.t 56) (.t 55),none,none,none⟩]) .skip)))
 (.reg [.m 45 10,.xa 46 45,.m 10 46]))))))
 (.seq (.reg [.xv 11 0])
 (.block 4 (.loop (.seq (.seq (.reg [.m 57 11,.m 58 6,.xn 59 58,.xc 60 .lss 57 59])
 (.ite (.t 60) .skip (.exit 4)))
 (.seq (.block 5 (.seq (.reg [.m 63 9,.m 64 11,.xi 65 1 63 64,.xl 66 65])
 (.ite (.t 66) (.reg [.m 67 6,.m 68 11,.xi 69 1 67 68,.xl 70 69,.xa 71 70,.xi 72 1 67 68,⟨.st 1 (.t 72) (.t 71),none,none,none⟩]) .skip)))
 (.reg [.m 61 11,.xa 62 61,.m 11 62])))))))))
 (.reg [.m 30 7,.xa 31 30,.m 7 31]))))))
 (.seq (.reg [.xs 12,.xs 13])
 (.seq (.seq (.reg [.xv 14 0])
 (.block 6 (.loop (.seq (.seq (.reg [.m 73 14,.m 74 5,.xn 75 74,.xc 76 .lss 73 75])
 (.ite (.t 76) .skip (.exit 6)))
 (.seq (.block 7 (.reg [.m 79 12,.m 80 5,.m 81 14,.xi 82 1 80 81,.xl 83 82,.m 84 4,.xn 85 84,.d 86 (.call (.func 131) #[(.t 83),(.t 85)]),.d 87 (.bsl 51 1 #[(.int .i64 0)] [(0,1,(.t 86))]),.xz 88 79 87 36,.m 12 88]))
 (.reg [.m 77 14,.xa 78 77,.m 14 78]))))))
 (.seq (.seq (.reg [.xv 15 0])
 (.block 8 (.loop (.seq (.seq (.reg [.m 89 15,.m 90 6,.xn 91 90,.xc 92 .lss 89 91])
 (.ite (.t 92) .skip (.exit 8)))
 (.seq (.block 9 (.reg [.m 95 13,.m 96 6,.m 97 15,.xi 98 1 96 97,.xl 99 98,.m 100 4,.xn 101 100,.d 102 (.call (.func 131) #[(.t 99),(.t 101)]),.d 103 (.bsl 51 1 #[(.int .i64 0)] [(0,1,(.t 102))]),.xz 104 95 103 36,.m 13 104]))
 (.reg [.m 93 15,.xa 94 93,.m 15 94]))))))
 (.seq (.reg [.m 105 12,.m 106 13,.m 2 105,.m 3 106])
 .ret))))))))
def Zg4:Zf Tryz.prog 78 107 Zoq [.t 2,.t 3]:=.o [] [] Tryz.func78 K1
def Zop:C:=(.seq (.reg [.d 2 (.box 25 (.t 0)),.xs 4,.xs 5,.xv 6 0])
 (.seq (.seq (.reg [.xd 14 2 2,.m 15 1,.d 16 (.call (.func 81) #[(.t 14),(.t 15)]),.m 7 16])
 (.seq (.reg [.m 17 7,.xk 18 .neq 17 0])
 (.ite (.t 18) (.seq (.reg [.m 19 7,.xs 4,.xs 5,.m 6 19])
 .ret) .skip)))
 (.seq (.reg [.xd 20 2 2,.d 21 (.call (.func 82) #[(.t 20),.cn]),.m 8 21])
 (.seq (.reg [.xs 9,.xs 10])
 (.seq (.seq (.reg [.m 22 8,.xn 23 22,.d 24 (.sub (.t 23) (.ci 1)),.m 11 24])
 (.block 0 (.loop (.seq (.seq (.reg [.m 25 11,.xk 26 .geq 25 0])
 (.ite (.t 26) .skip (.exit 0)))
 (.seq (.block 1 (.seq (.drw [(0,.xd 30 2 2),(0,.m 31 8),(0,.m 32 11),(0,.xi 33 1 31 32),(0,.xl 34 33),(2,.d 35 (.call (.func 72) #[(.t 30),(.t 34)])),(0,.m 29 35),(0,.xe 36 29 0),(0,.xe 37 29 1),(0,.m 12 36)] [.m 13 37])
 (.seq (.reg [.m 38 12,.m 39 1,.xi 40 1 38 39,.xl 41 40])
 (.ite (.t 41) (.reg [.m 42 8,.m 43 11,.xi 44 1 42 43,.xl 45 44,.m 9 45]) (.reg [.m 46 8,.m 47 11,.xi 48 1 46 47,.xl 49 48,.m 10 49])))))
 (.reg [.m 27 11,.d 28 (.sub (.t 27) (.ci 1)),.m 11 28]))))))
 (.seq (.reg [.m 50 9,.m 51 10,.m 4 50,.m 5 51,.xv 6 0])
 .ret))))))
def Zg3:Zf Tryz.prog 30 52 Zop [.t 4,.t 5,.t 6]:=.o [] [] Tryz.func30 K1
def Zos:C:=(.seq (.reg [.d 2 (.box 25 (.t 0)),.xv 4 0])
 (.seq (.seq (.reg [.xd 6 2 2,.d 7 (.call (.func 24) #[(.t 6)]),.m 5 7])
 (.seq (.reg [.m 8 5,.xk 9 .neq 8 0])
 (.ite (.t 9) (.seq (.reg [.m 10 5,.m 4 10])
 .ret) .skip)))
 (.seq (.seq (.reg [.m 11 1,.xo 12 0 2,.xl 13 12,.xn 14 13,.d 15 (.sub (.t 14) (.ci 1)),.d 16 (.call (.func 103) #[(.t 11),(.ci 0),(.t 15)]),.xt 17 16])
 (.ite (.t 17) (.seq (.reg [.xv 4 6])
 .ret) .skip))
 (.seq (.reg [.xv 4 0])
 .ret))))
def Zk4:Zf Tryz.prog 81 18 Zos [.t 4]:=.o [] [] Tryz.func81 K1
def Zol:C:=(.seq (.reg [.xv 4 0])
 (.seq (.seq (.reg [.m 5 0,.m 6 1,.xc 7 .eql 5 6])
 (.ite (.t 7) (.seq (.reg [.xv 4 1])
 .ret) .skip))
 (.seq (.seq (.reg [.m 8 0,.xk 9 .eql 8 0])
 (.ite (.t 9) (.seq (.reg [.xv 4 2])
 .ret) .skip))
 (.seq (.reg [.xv 4 0])
 .ret))))
def Qpj:Zf Tryz.prog 131 10 Zol [.t 4]:=.o [] [] Tryz.func131 K1
end Go.Proofs
set_option linter.unusedSimpArgs false
namespace Go.TM
variable{T:Type}{P:Program}{S:Sys P T}{fn:FuncId}{ro:Option Nat}
def V3.frz2{U U':Qa T}{b:Nat}{e:TypeId}{c:Array Value}(h:V3 U b e c U'):U.frz.lg U'.frz:=⟨h.imm,⟨[],rfl⟩,h.tok⟩
end Go.TM
end

namespace Go.Proofs
open Go.TM
def Zpq:C:=(.seq (.reg [.d 2 (.box 25 (.t 0)),.xb 4 false])
 (.seq (.seq (.reg [.xd 15 2 2,.d 16 (.call (.func 19) #[(.t 15)])])
 (.ite (.t 16) (.seq (.reg [.d 17 (.call (.func 20) #[]),.m 4 17])
 .ret) .skip))
 (.seq (.reg [.xd 19 2 2,.d 20 (.call (.func 26) #[(.t 19)]),.m 18 20,.xe 21 18 0,.xe 22 18 1,.xe 23 18 2,.m 5 21,.m 6 22,.m 7 23])
 (.seq (.reg [.xd 25 2 2,.d 26 (.call (.func 27) #[(.t 25)]),.m 24 26,.xe 27 24 0,.xe 28 24 1,.xe 29 24 2,.m 8 27,.m 9 28,.m 10 29])
 (.seq (.seq (.reg [.m 30 5,.m 31 8,.d 32 (.call (.func 28) #[(.t 30),(.t 31)]),.xt 33 32,.m 34 33,.ym 35 34 false 6,.ym 36 34 false 9,.u 37 34 false (.call (.func 28) #[(.t 35),(.t 36)]),.u 38 34 false (.not (.t 37)),.xq 39 34 38,.m 40 39,.ym 41 40 false 7,.ym 42 40 false 10,.u 43 40 false (.cmp .neq (.t 41) (.t 42)),.xq 44 40 43])
 (.ite (.t 44) (.seq (.reg [.xb 4 false])
 .ret) .skip))
 (.seq (.reg [.xd 46 2 2,.m 47 1,.d 48 (.call (.func 29) #[(.t 46),(.t 47)]),.m 45 48,.xe 49 45 0,.xe 50 45 1,.xe 51 45 2,.m 11 49,.m 12 50,.m 7 51])
 (.seq (.reg [.xd 53 2 2,.m 54 1,.d 55 (.call (.func 30) #[(.t 53),(.t 54)]),.m 52 55,.xe 56 52 0,.xe 57 52 1,.xe 58 52 2,.m 13 56,.m 14 57,.m 10 58])
 (.seq (.reg [.m 59 11,.m 60 13,.d 61 (.call (.func 31) #[(.t 59),(.t 60)]),.m 62 61,.ym 63 62 true 12,.ym 64 62 true 14,.u 65 62 true (.call (.func 31) #[(.t 63),(.t 64)]),.xp 66 62 65,.m 67 66,.ym 68 67 true 7,.ym 69 67 true 10,.u 70 67 true (.cmp .eql (.t 68) (.t 69)),.xp 71 67 70,.m 72 71,.u 73 72 true (.call (.func 20) #[]),.xp 74 72 73,.m 4 74])
 .ret))))))))
def Zpw:Zf Tryz.prog 4 75 Zpq [.t 4]:=.o [] [] Tryz.func4 K1
end Go.Proofs

noncomputable section
namespace Go.Proofs
open Go.TM
def Zom:C:=(.seq (.reg [.xb 4 false])
 (.seq (.seq (.reg [.xv 5 0])
 (.block 0 (.loop (.seq (.seq (.reg [.m 6 5,.m 7 0,.xn 8 7,.xc 9 .lss 6 8])
 (.ite (.t 9) .skip (.exit 0)))
 (.seq (.block 1 (.seq (.reg [.m 12 1,.m 13 0,.m 14 5,.xi 15 1 13 14,.xl 16 15,.d 17 (.call (.func 38) #[(.t 12),(.t 16)]),.xt 18 17])
 (.ite (.t 18) (.seq (.reg [.xb 4 false])
 .ret) .skip)))
 (.reg [.m 10 5,.xa 11 10,.m 5 11]))))))
 (.seq (.reg [.xb 4 true])
 .ret)))
def Q4v:Zf Tryz.prog 127 19 Zom [.t 4]:=.o [] [] Tryz.func127 K1
def Zon:C:=(.seq (.reg [.d 2 (.box 49 (.t 0)),.xb 4 false])
 (.seq (.seq (.reg [.xv 5 0])
 (.block 0 (.loop (.seq (.seq (.reg [.m 8 5,.xo 9 2 2,.xl 10 9,.xn 11 10,.xc 12 .lss 8 11])
 (.ite (.t 12) .skip (.exit 0)))
 (.seq (.block 1 (.seq (.reg [.xb 6 true])
 (.seq (.seq (.reg [.xv 7 0])
 (.block 2 (.loop (.seq (.seq (.reg [.m 15 7,.xo 16 2 2,.xl 17 16,.m 18 5,.xi 19 1 17 18,.xl 20 19,.xn 21 20,.xc 22 .lss 15 21])
 (.ite (.t 22) .skip (.exit 2)))
 (.seq (.block 3 (.reg [.m 25 6,.m 26 25,.ym 27 26 true 1,.yo 28 26 true 2 2,.yl 29 26 true 28,.ym 30 26 true 5,.yi 31 26 true 1 29 30,.yl 32 26 true 31,.ym 33 26 true 7,.yi 34 26 true 1 32 33,.yl 35 26 true 34,.yi 36 26 true 1 27 35,.yl 37 26 true 36,.xp 38 26 37,.m 6 38]))
 (.reg [.m 23 7,.xa 24 23,.m 7 24]))))))
 (.seq (.reg [.m 39 6])
 (.ite (.t 39) (.seq (.reg [.xb 4 true])
 .ret) .skip)))))
 (.reg [.m 13 5,.xa 14 13,.m 5 14]))))))
 (.seq (.reg [.xb 4 false])
 .ret)))
def Q4w:Zf Tryz.prog 128 40 Zon [.t 4]:=.o [] [] Tryz.func128 K1
noncomputable def Zpj:C:=(.seq (.reg [.d 2 (.box 25 (.t 0)),.xs 4,.xs 5])
 (.seq (.cd 57 (Gl Tryz.f72 1))
 (.seq (.seq (.reg [.xv 8 0])
 (.block 0 (.loop (.seq (.seq (.reg [.m 19 8,.m 20 6,.xn 21 20,.xc 22 .lss 19 21])
 (.ite (.t 22) .skip (.exit 0)))
 (.seq (.block 1 (.reg [.m 25 6,.m 26 8,.xi 27 1 25 26,⟨.st 1 (.t 27) (.cb true),none,none,none⟩]))
 (.reg [.m 23 8,.xa 24 23,.m 8 24]))))))
 (.seq (.seq (.reg [.xv 9 0])
 (.block 2 (.loop (.seq (.seq (.reg [.m 28 9,.m 29 1,.xn 30 29,.xc 31 .lss 28 30])
 (.ite (.t 31) .skip (.exit 2)))
 (.seq (.block 3 (.seq (.cd 57 (Gl Tryz.f72 9))
 (.seq (.reg [.xd 42 4 10,.m 43 6,.d 44 (.call (.func 128) #[(.t 42),(.t 43)])])
 (.ite (.t 44) (.seq (.reg [.m 45 7,.m 46 1,.m 47 9,.xi 48 1 46 47,.xl 49 48,.xi 50 1 45 49,⟨.st 1 (.t 50) (.cb true),none,none,none⟩])
 (.reg [.m 51 6,.xo 52 1 10,.xl 53 52,.xi 54 1 51 53,⟨.st 1 (.t 54) (.cb false),none,none,none⟩])) .skip))))
 (.reg [.m 32 9,.xa 33 32,.m 9 33]))))))
 (.seq (.reg [.m 55 6,.m 56 7,.m 4 55,.m 5 56])
 .ret)))))
def Q0h:Zf Tryz.prog 72 57 Zpj [.t 4,.t 5]:=.o [1009] [] Tryz.func72 K1
def Qp5:List (List (Nat×St)):=[[(0,.xo 11 0 2),(0,.xl 12 11),(0,.xn 13 12),(0,.xo 15 1 2),(0,.xl 16 15),(0,.xn 17 16),(2,.d 14 (.raw { dst:=none,op:=(.makeSlice 29 (.t 13) (.t 13)),type:=29,pos := "", after:=#[],guard:=none })),(0,.d 6 (.mv (.t 14))),(2,.d 18 (.raw { dst:=none,op:=(.makeSlice 29 (.t 17) (.t 17)),type:=29,pos := "", after:=#[],guard:=none }))],
 [(0,.xo 11 0 2),(0,.xl 12 11),(0,.xn 13 12),(0,.xo 15 1 2),(0,.xl 16 15),(0,.xn 17 16),(2,.d 18 (.raw { dst:=none,op:=(.makeSlice 29 (.t 17) (.t 17)),type:=29,pos := "", after:=#[],guard:=none })),(2,.d 14 (.raw { dst:=none,op:=(.makeSlice 29 (.t 13) (.t 13)),type:=29,pos := "", after:=#[],guard:=none })),(0,.d 6 (.mv (.t 14)))]]
def Zk5:List St:=[.d 7 (.mv (.t 18))]
def Qqa:List (List (Nat×St)):=[[(0,.xo 34 1 2),(0,.xl 35 34),(0,.d 36 (.mv (.t 1))),(0,.d 37 (.mv (.t 9))),(0,.xi 38 1 36 37),(0,.xl 39 38),(0,.xi 40 4 35 39),(0,.xd 41 4 40),(2,.d 10 (.alloc 49 #[(.string ⟨#[]⟩),(.int .i64 0),(.slice none 0 0),(.slice none 0 0)]))]]
def Zk8:List St:=[⟨.st 4 (.t 10) (.t 41),none,none,none⟩]
end Go.Proofs
end

