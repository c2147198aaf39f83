/- Lemmas. No conditions. -/
import Derived.Test.YtnpfcnfhfkflhaaGreatDoorProg
import Derived.Test.YtnpfcnfhfkflhaaGreatDoorB01
import Derived.Test.YtnpfcnfhfkflhaaGreatDoorB34
set_option linter.all false
set_option maxRecDepth 100000
namespace Go.Proofs
open Go.TM
def Q4x:C:=(.seq (.reg [.d 2 (.box 25 (.t 0)),.xb 4 false])
 (.seq (.seq (.reg [.xd 11 2 2,.d 12 (.call (.func 19) #[(.t 11)]),.m 13 12,.ym 14 13 false 1,.yn 15 13 false 14,.yk 16 13 false .gtr 15 40,.xq 17 13 16])
 (.ite (.t 17) (.seq (.reg [.d 18 (.call (.func 20) #[]),.m 4 18])
 .ret) .skip))
 (.seq (.reg [.xd 20 2 2,.m 21 1,.d 22 (.call (.func 21) #[(.t 20),(.t 21)]),.m 19 22,.xe 23 19 0,.xe 24 19 1,.xe 25 19 2,.m 5 23,.m 6 24,.m 7 25])
 (.seq (.reg [.xd 27 2 2,.m 28 1,.d 29 (.call (.func 22) #[(.t 27),(.t 28)]),.m 26 29,.xe 30 26 0,.xe 31 26 1,.xe 32 26 2,.m 8 30,.m 9 31,.m 10 32])
 (.seq (.drw [(0,.xd 33 2 2),(1,.d 34 (.call (.func 23) #[(.t 33)])),(0,.xd 35 2 2),(1,.d 36 (.call (.func 24) #[(.t 35)])),(0,.xc 37 .eql 34 36),(0,.m 38 37),(0,.ym 39 38 true 5),(0,.ym 40 38 true 8),(1,.u 41 38 true (.call (.func 25) #[(.t 39),(.t 40)])),(0,.xp 42 38 41),(0,.m 43 42),(0,.ym 44 43 true 6),(0,.ym 45 43 true 9),(1,.u 46 43 true (.call (.func 25) #[(.t 44),(.t 45)])),(0,.xp 47 43 46),(0,.m 48 47),(0,.ym 49 48 true 7),(0,.ym 50 48 true 10)] [.u 51 48 true (.cmp .eql (.t 49) (.t 50)),.xp 52 48 51,.m 53 52,.u 54 53 true (.call (.func 20) #[]),.xp 55 53 54,.m 4 55])
 .ret)))))
def Q41:Zf Tryz.prog 3 56 Q4x [.t 4]:=.o [] [34,36,41,46,54] Tryz.func3 K1
end Go.Proofs

noncomputable section
namespace Go.Proofs
open Go.TM
def Qzk:C:=(.seq (.reg [.xb 4 false])
 (.seq (.seq (.reg [.xv 5 0])
 (.block 0 (.loop (.seq (.seq (.reg [.m 6 5,.m 7 0,.xn 8 7,.xc 9 .lss 6 8])
 (.ite (.t 9) .skip (.exit 0)))
 (.seq (.block 1 (.seq (.reg [.m 12 1,.m 13 0,.m 14 5,.xi 15 1 13 14,.xl 16 15,.d 17 (.call (.func 38) #[(.t 12),(.t 16)]),.xt 18 17])
 (.ite (.t 18) (.seq (.reg [.xb 4 false])
 .ret) .skip)))
 (.reg [.m 10 5,.xa 11 10,.m 5 11]))))))
 (.seq (.reg [.xb 4 true])
 .ret)))
def Qga:Zf Tryz.prog 127 19 Qzk [.t 4]:=.o [] [] Tryz.func127 K1
def Q0h:C:=(.seq (.reg [.d 2 (.box 49 (.t 0)),.xb 4 false])
 (.seq (.seq (.reg [.xv 5 0])
 (.block 0 (.loop (.seq (.seq (.reg [.m 8 5,.xo 9 2 2,.xl 10 9,.xn 11 10,.xc 12 .lss 8 11])
 (.ite (.t 12) .skip (.exit 0)))
 (.seq (.block 1 (.seq (.reg [.xb 6 true])
 (.seq (.seq (.reg [.xv 7 0])
 (.block 2 (.loop (.seq (.seq (.reg [.m 15 7,.xo 16 2 2,.xl 17 16,.m 18 5,.xi 19 1 17 18,.xl 20 19,.xn 21 20,.xc 22 .lss 15 21])
 (.ite (.t 22) .skip (.exit 2)))
 (.seq (.block 3 (.reg [.m 25 6,.m 26 25,.ym 27 26 true 1,.yo 28 26 true 2 2,.yl 29 26 true 28,.ym 30 26 true 5,.yi 31 26 true 1 29 30,.yl 32 26 true 31,.ym 33 26 true 7,.yi 34 26 true 1 32 33,.yl 35 26 true 34,.yi 36 26 true 1 27 35,.yl 37 26 true 36,.xp 38 26 37,.m 6 38]))
 (.reg [.m 23 7,.xa 24 23,.m 7 24]))))))
 (.seq (.reg [.m 39 6])
 (.ite (.t 39) (.seq (.reg [.xb 4 true])
 .ret) .skip)))))
 (.reg [.m 13 5,.xa 14 13,.m 5 14]))))))
 (.seq (.reg [.xb 4 false])
 .ret)))
def Qjj:Zf Tryz.prog 128 40 Q0h [.t 4]:=.o [] [] Tryz.func128 K1
def Q0o:C:=(.seq (.reg [.d 2 (.box 25 (.t 0)),.xv 4 0])
 (.seq (.seq (.reg [.m 6 1,.xn 7 6,.xo 8 1 2,.xl 9 8,.xn 10 9,.xc 11 .neq 7 10])
 (.ite (.t 11) (.seq (.reg [.xv 4 2])
 .ret) .skip))
 (.seq (.seq (.reg [.xv 5 0])
 (.block 0 (.loop (.seq (.seq (.reg [.m 12 5,.m 13 1,.xn 14 13,.xc 15 .lss 12 14])
 (.ite (.t 15) .skip (.exit 0)))
 (.seq (.block 1 (.seq (.seq (.drw [(0,.m 18 1),(0,.m 19 5),(0,.xi 20 1 18 19),(0,.xl 21 20),(0,.xo 22 1 2),(0,.xl 23 22),(0,.xn 24 23),(0,.d 25 (.sub (.t 24) (.ci 1)))] [.d 26 (.call (.func 103) #[(.t 21),(.ci 0),(.t 25)]),.xt 27 26])
 (.ite (.t 27) (.seq (.reg [.xv 4 6])
 .ret) .skip))
 (.seq (.seq (.drw [(0,.m 28 1),(0,.m 29 5),(0,.d 30 (.sub3 1 (.t 28) none (some (.t 29)))),(0,.m 31 1),(0,.m 32 5),(0,.xi 33 1 31 32),(0,.xl 34 33)] [.d 35 (.call (.func 38) #[(.t 30),(.t 34)])])
 (.ite (.t 35) (.seq (.reg [.xv 4 5])
 .ret) .skip))
 (.seq (.drw [(0,.xo 36 1 2),(0,.xl 37 36),(0,.m 38 1),(0,.m 39 5),(0,.xi 40 1 38 39),(0,.xl 41 40),(0,.xi 42 4 37 41),(0,.xo 43 3 42),(0,.xl 44 43),(0,.m 45 1),(0,.m 46 5),(0,.d 47 (.sub3 1 (.t 45) none (some (.t 46))))] [.d 48 (.call (.func 127) #[(.t 44),(.t 47)]),.xt 49 48])
 (.ite (.t 49) (.seq (.reg [.xv 4 7])
 .ret) .skip)))))
 (.reg [.m 16 5,.xa 17 16,.m 5 17]))))))
 (.seq (.reg [.xv 4 0])
 .ret))))
def Qqa:Zf Tryz.prog 71 50 Q0o [.t 4]:=.o [] [26,35,48] Tryz.func71 K1
def Q0k:C:=(.seq (.reg [.d 2 (.box 25 (.t 0)),.xs 4,.xs 5,.xv 6 0])
 (.seq (.seq (.reg [.xd 11 2 2,.d 12 (.call (.func 24) #[(.t 11)]),.m 7 12])
 (.seq (.reg [.m 13 7,.xk 14 .neq 13 0])
 (.ite (.t 14) (.seq (.reg [.m 15 7,.xs 4,.xs 5,.m 6 15])
 .ret) .skip)))
 (.seq (.seq (.reg [.xd 16 2 2,.m 17 1,.d 18 (.call (.func 71) #[(.t 16),(.t 17)]),.m 8 18])
 (.seq (.reg [.m 19 8,.xk 20 .neq 19 0])
 (.ite (.t 20) (.seq (.reg [.m 21 8,.xs 4,.xs 5,.m 6 21])
 .ret) .skip)))
 (.seq (.reg [.xd 23 2 2,.m 24 1,.d 25 (.call (.func 72) #[(.t 23),(.t 24)]),.m 22 25,.xe 26 22 0,.xe 27 22 1,.m 9 26,.m 10 27])
 (.seq (.reg [.m 28 9,.m 29 10,.m 4 28,.m 5 29,.xv 6 0])
 .ret)))))
def Qp5:Zf Tryz.prog 22 30 Q0k [.t 4,.t 5,.t 6]:=.o [] [] Tryz.func22 K1
noncomputable def Q4u:C:=(.seq (.reg [.d 2 (.box 25 (.t 0)),.xs 4,.xs 5])
 (.seq (.cd 57 (Gl Tryz.f72 1))
 (.seq (.seq (.reg [.xv 8 0])
 (.block 0 (.loop (.seq (.seq (.reg [.m 19 8,.m 20 6,.xn 21 20,.xc 22 .lss 19 21])
 (.ite (.t 22) .skip (.exit 0)))
 (.seq (.block 1 (.reg [.m 25 6,.m 26 8,.xi 27 1 25 26,⟨.st 1 (.t 27) (.cb true),none,none,none⟩]))
 (.reg [.m 23 8,.xa 24 23,.m 8 24]))))))
 (.seq (.seq (.reg [.xv 9 0])
 (.block 2 (.loop (.seq (.seq (.reg [.m 28 9,.m 29 1,.xn 30 29,.xc 31 .lss 28 30])
 (.ite (.t 31) .skip (.exit 2)))
 (.seq (.block 3 (.seq (.cd 57 (Gl Tryz.f72 9))
 (.seq (.reg [.xd 42 4 10,.m 43 6,.d 44 (.call (.func 128) #[(.t 42),(.t 43)])])
 (.ite (.t 44) (.seq (.reg [.m 45 7,.m 46 1,.m 47 9,.xi 48 1 46 47,.xl 49 48,.xi 50 1 45 49,⟨.st 1 (.t 50) (.cb true),none,none,none⟩])
 (.reg [.m 51 6,.xo 52 1 10,.xl 53 52,.xi 54 1 51 53,⟨.st 1 (.t 54) (.cb false),none,none,none⟩])) .skip))))
 (.reg [.m 32 9,.xa 33 32,.m 9 33]))))))
 (.seq (.reg [.m 55 6,.m 56 7,.m 4 55,.m 5 56])
 .ret)))))
def Qvo:Zf Tryz.prog 72 57 Q4u [.t 4,.t 5]:=.o [1009] [] Tryz.func72 K1
def Qdc:List (List (Nat×St)):=[[(0,.xo 11 0 2),(0,.xl 12 11),(0,.xn 13 12),(0,.xo 15 1 2),(0,.xl 16 15),(0,.xn 17 16),(2,.d 14 (.raw { dst:=none,op:=(.makeSlice 29 (.t 13) (.t 13)),type:=29,pos := "", after:=#[],guard:=none })),(0,.d 6 (.mv (.t 14))),(2,.d 18 (.raw { dst:=none,op:=(.makeSlice 29 (.t 17) (.t 17)),type:=29,pos := "", after:=#[],guard:=none }))],
 [(0,.xo 11 0 2),(0,.xl 12 11),(0,.xn 13 12),(0,.xo 15 1 2),(0,.xl 16 15),(0,.xn 17 16),(2,.d 18 (.raw { dst:=none,op:=(.makeSlice 29 (.t 17) (.t 17)),type:=29,pos := "", after:=#[],guard:=none })),(2,.d 14 (.raw { dst:=none,op:=(.makeSlice 29 (.t 13) (.t 13)),type:=29,pos := "", after:=#[],guard:=none })),(0,.d 6 (.mv (.t 14)))]]
def Qpj:List St:=[.d 7 (.mv (.t 18))]
def Qdg:List (List (Nat×St)):=[[(0,.xo 34 1 2),(0,.xl 35 34),(0,.d 36 (.mv (.t 1))),(0,.d 37 (.mv (.t 9))),(0,.xi 38 1 36 37),(0,.xl 39 38),(0,.xi 40 4 35 39),(0,.xd 41 4 40),(2,.d 10 (.alloc 49 #[(.string ⟨#[]⟩),(.int .i64 0),(.slice none 0 0),(.slice none 0 0)]))]]
def Qp3:List St:=[⟨.st 4 (.t 10) (.t 41),none,none,none⟩]
end Go.Proofs
end

open List
namespace Go.TM
variable{b:Bk}
structure Bk.Ord(b:Bk)(o:List Nat):Prop where
 len:o.length=b.cs.length
 low:∀i∈o,i<b.cs.length
 nod:o.Nodup
 aft:∀X i Y,o=X++i::Y->∀k∈Je b.A i,k∈X
def Bk.Ord.has{b:Bk}{o:List Nat}(h:b.Ord o){i:Nat}(d:i<b.cs.length):i∈o:=by
 apply Classical.byContradiction;intro e;have c:(i::o).Nodup:=nodup_cons.2 ⟨e,h.nod⟩
 have:=H7 c (n:=b.cs.length) λ x a=>by
  rcases mem_cons.1 a with rfl|a
  .exact d
  .exact h.low x a
 rw[length_cons,h.len]at this;omega
def Bk.stp_len(b:Bk)(x:List Bool×List Bool)(i:Nat):(b.stp x i).1.length=x.1.length/\(b.stp x i).2.length=x.2.length:=by
 unfold Bk.stp;split <;> simp
def Bk.end_len(b:Bk)(o:List Nat):(b.ends o).1.length=b.rs.length/\(b.ends o).2.length=b.cs.length:=by
 have a:∀(o:List Nat)(x:List Bool×List Bool),(o.foldl b.stp x).1.length=x.1.length/\(o.foldl b.stp x).2.length=x.2.length:=by
  intro o
  induction o with
  |nil=>exact λ x=>⟨rfl,rfl⟩
  |cons i o e=>
   intro x;have c:=e (b.stp x i);have d:=b.stp_len x i;exact⟨c.1.trans d.1,c.2.trans d.2⟩
 have:=a o b.ini;simpa[Bk.ends,Bk.ini]using this
def Bk.Ord.split{b:Bk}{o:List Nat}(h:b.Ord o){i:Nat}(a:i<b.cs.length):∃X Y,o=X++i::Y:=append_of_mem (h.has a)
end Go.TM

