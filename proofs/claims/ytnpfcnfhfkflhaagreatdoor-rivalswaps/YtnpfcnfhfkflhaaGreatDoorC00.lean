/- Lemmas. No conditions. -/
import Derived.Test.YtnpfcnfhfkflhaaGreatDoorB09
import Derived.Test.YtnpfcnfhfkflhaaGreatDoorB42
import Derived.Test.YtnpfcnfhfkflhaaGreatDoorB44
set_option linter.all false
open List
open Go.Proofs.Tryz (prog)
set_option maxRecDepth 100000
noncomputable section
namespace Go.Proofs
open Go.TM
def Qzk:C:=(.seq (.reg [.xb 4 false])
 (.seq (.seq (.reg [.xv 5 0])
 (.block 0 (.loop (.seq (.seq (.reg [.m 6 5,.m 7 0,.xn 8 7,.xc 9 .lss 6 8])
 (.ite (.t 9) .skip (.exit 0)))
 (.seq (.block 1 (.seq (.reg [.m 12 0,.m 13 5,.xi 14 1 12 13,.xl 15 14,.m 16 1,.xc 17 .eql 15 16])
 (.ite (.t 17) (.seq (.reg [.xb 4 true])
 .ret) .skip)))
 (.reg [.m 10 5,.xa 11 10,.m 5 11]))))))
 (.seq (.reg [.xb 4 false])
 .ret)))
def Qaq:Zf prog 38 18 Qzk [.t 4]:=.o [] [] Tryz.func38 K1
def Qvy:C:=(.seq (.reg [.d 2 (.box 25 (.t 0)),.xs 4])
 (.seq (.reg [.xs 5])
 (.seq (.block 0 (.loop (.seq (.seq (.reg [.m 10 5,.xn 11 10,.xo 12 1 2,.xl 13 12,.xn 14 13,.xc 15 .lss 11 14])
 (.ite (.t 15) .skip (.exit 0)))
 (.block 1 (.seq (.reg [.xs 6])
 (.seq (.seq (.reg [.xv 7 0])
 (.block 2 (.loop (.seq (.seq (.reg [.m 16 7,.xo 17 1 2,.xl 18 17,.xn 19 18,.xc 20 .lss 16 19])
 (.ite (.t 20) .skip (.exit 2)))
 (.seq (.block 3 (.seq (.reg [.m 23 5,.m 24 7,.d 25 (.call (.func 38) #[(.t 23),(.t 24)]),.xt 26 25,.m 8 26])
 (.seq (.seq (.reg [.xv 9 0])
 (.block 4 (.loop (.seq (.seq (.reg [.m 27 9,.xo 28 1 2,.xl 29 28,.m 30 7,.xi 31 4 29 30,.xo 32 3 31,.xl 33 32,.xn 34 33,.xc 35 .lss 27 34])
 (.ite (.t 35) .skip (.exit 4)))
 (.seq (.block 5 (.reg [.m 38 8,.m 39 38,.ym 40 39 true 5,.yo 41 39 true 1 2,.yl 42 39 true 41,.ym 43 39 true 7,.yi 44 39 true 4 42 43,.yo 45 39 true 3 44,.yl 46 39 true 45,.ym 47 39 true 9,.yi 48 39 true 1 46 47,.yl 49 39 true 48,.u 50 39 true (.call (.func 38) #[(.t 40),(.t 49)]),.xp 51 39 50,.m 8 51]))
 (.reg [.m 36 9,.xa 37 36,.m 9 37]))))))
 (.seq (.reg [.m 52 8])
 (.ite (.t 52) (.reg [.m 53 6,.m 54 7,.d 55 (.bsl 3 1 #[(.int .i64 0)] [(0,1,(.t 54))]),.xz 56 53 55 26,.m 6 56]) .skip)))))
 (.reg [.m 21 7,.xa 22 21,.m 7 22]))))))
 (.reg [.m 57 5,.m 58 6,.m 59 1,.m 60 5,.xn 61 60,.d 62 (.call (.func 83) #[(.t 59),(.t 61)]),.m 63 6,.xn 64 63,.d 65 (.ar .rem (.t 62) (.t 64)),.xi 66 1 58 65,.xl 67 66,.d 68 (.bsl 3 1 #[(.int .i64 0)] [(0,1,(.t 67))]),.xz 69 57 68 26,.m 5 69])))))))
 (.seq (.reg [.m 70 5,.m 4 70])
 .ret))))
def Qlg:Zf prog 33 71 Qvy [.t 4]:=.o [] [] Tryz.func33 K1
noncomputable def Qvz:C:=(.seq (.reg [.d 3 (.box 25 (.t 0)),.xb 6 false])
 (.seq (.cd 63 (Gl Tryz.f37 1))
 (.seq (.seq (.reg [.xv 9 0])
 (.block 0 (.loop (.seq (.seq (.reg [.m 21 9,.xo 22 2 7,.xl 23 22,.xn 24 23,.xc 25 .lss 21 24])
 (.ite (.t 25) .skip (.exit 0)))
 (.seq (.block 1 (.seq (.drw [(0,.xo 28 2 7),(0,.xl 29 28),(0,.m 30 9),(0,.xi 31 1 29 30),(0,.xl 32 31),(0,.xo 33 1 8),(0,.xl 34 33)] [.d 35 (.call (.func 38) #[(.t 32),(.t 34)])])
 (.ite (.t 35) (.seq (.reg [.xb 6 false])
 .ret) .skip)))
 (.reg [.m 26 9,.xa 27 26,.m 9 27]))))))
 (.seq (.seq (.reg [.xv 10 0])
 (.block 2 (.loop (.seq (.seq (.reg [.m 36 10,.xo 37 2 8,.xl 38 37,.xn 39 38,.xc 40 .lss 36 39])
 (.ite (.t 40) .skip (.exit 2)))
 (.seq (.block 3 (.seq (.drw [(0,.xo 43 2 8),(0,.xl 44 43),(0,.m 45 10),(0,.xi 46 1 44 45),(0,.xl 47 46),(0,.xo 48 1 7),(0,.xl 49 48)] [.d 50 (.call (.func 38) #[(.t 47),(.t 49)])])
 (.ite (.t 50) (.seq (.reg [.xb 6 false])
 .ret) .skip)))
 (.reg [.m 41 10,.xa 42 41,.m 10 42]))))))
 (.seq (.reg [.xo 51 3 7,.xl 52 51,.m 53 2,.d 54 (.call (.func 38) #[(.t 52),(.t 53)]),.xt 55 54,.m 56 55,.yo 57 56 true 3 8,.yl 58 56 true 57,.ym 59 56 true 1,.u 60 56 true (.call (.func 38) #[(.t 58),(.t 59)]),.u 61 56 true (.not (.t 60)),.xp 62 56 61,.m 6 62])
 .ret)))))
def Qoa:Zf prog 37 63 Qvz [.t 6]:=.o [] [35,50] Tryz.func37 K1
def Q0h:C:=(.seq (.reg [.xv 4 0])
 (.seq (.seq (.reg [.m 5 1,.m 6 0,.xn 7 6,.xc 8 .lss 5 7])
 (.ite (.t 8) (.seq (.reg [.m 9 0,.m 10 1,.xi 11 1 9 10,.xl 12 11,.d 13 (.conv .i64 (.t 12)),.m 4 13])
 .ret) .skip))
 (.seq (.reg [.xv 4 0])
 .ret)))
def Qpf:Zf prog 83 14 Q0h [.t 4]:=.o [] [] Tryz.func83 K1
end Go.Proofs
set_option linter.unusedSimpArgs false
namespace Go.TM
variable{T:Type}{P:Program}{S:Sys P T}{fn:FuncId}{ro:Option Nat}
def V3.frz1{U U':Qa T}{b:Nat}{e:TypeId}{c:Array Value}(h:V3 U b e c U'):U.frz.lg U':=⟨h.imm,⟨_,(append_nil _).symm⟩,h.tok⟩
def V3.made{U U':Qa T}{b:Nat}{e:TypeId}{c:Array Value}(h:U.le U')(d:U'.free b):V3 U b e c (U'.put b (.cells c e)):=by
 refine⟨h.imm,by show _::U'.M=_;rw[h.own],h.tok,?_⟩;cases a:U.I b with
 |none=>rfl
 |some o=>have:=h.imm b o a;rw[d.1]at this;cases this
end Go.TM
namespace Go.Proofs
open Go.TM
variable{T:Type}{S:TM.Sys prog T}{U:Qa T}
attribute [local irreducible] Qb Zl Wt
def Qae(a:Option Addr)(len cap:Nat)(l:List Int)(e:Z5 U a len l)(g:len<2^60)(n:Int) :
  Qb S 38 #[.slice a len cap,.int .i64 n] (λ v U'=>v=.bool (l.contains n)/\U'=U) U:=by
 refine Qb.of (args:=[_,_]) Qaq Qf S1 ?_
 repeat refine⟨rfl,?_⟩
 refine⟨Nat,λ i=>[(0,.slice a len cap),(1,.int .i64 n),(5,.int .i64 i)],λ i U'=>U'=U/\i<=len/\n∉l.take i,λ i=>len-i,0,T1,⟨rfl,O1,S1⟩,?_⟩;rintro i f _⟨rfl,p,b⟩
 repeat refine⟨rfl,?_⟩
 conv=>whnf
 apply Qe<;>intro d
 .have hlt:i<len:=by simpa using d
  obtain⟨j,x,h,rfl,o,m⟩:=e.at hlt;refine⟨j,i,⟨rfl,rfl,hlt⟩,_,m,?_⟩
  repeat refine⟨rfl,?_⟩
  conv=>whnf
  apply Qe<;>intro d
  .repeat refine⟨rfl,?_⟩
   conv=>whnf
   have c:x=n:=by simpa using d
   refine⟨?_,rfl⟩;have:n∈l:=c▸mem_of_getElem? h;simp[this]
  .have c:x≠n:=by simpa using d
   refine⟨I1,?_⟩;refine⟨rfl,i+1,T1,⟨rfl,O1,?_⟩,L1⟩;rw[Ji h];simp[b,Ne.symm c]
 .have hge:len<=i:=by simpa using d
  repeat refine⟨rfl,?_⟩
  refine⟨?_,rfl⟩;have:l.take i=l:=take_of_length_le (by rw[e.1];exact hge);rw[this]at b;simp[b]
end Go.Proofs
namespace Go.Proofs
open Go.TM Go.ChangeShapes Go.WideShapes Go.RowKit
section
variable{H:Type}{enc:TypeId×Value->H}{W:World}{fuel:Nat}{x:DataW H×List MemPlace}{v:Value}{cs:List Value}
def Q0k:prog.underlying 44=some (.slice 186):=K1
def Qvo:prog.underlying 186=some (.int .u16):=K1
def Qf7:prog.cellsOf 186=1:=K1
def Qek:0<prog.bytesOf 186:=of_decide_eq_true K1
def Q4x{k:IntKind}{t:TypeId}{m:Nat}(e:prog.underlying t=some (.int k))(b:k.min=0)(d:k.max=(m:Int))(h:JZ enc prog W fuel t cs=some x):∃u:Nat,cs=[.int k u]/\u<=m:=by
 obtain⟨n,c,-,a⟩:=DataW.trod_int e h;simp only[Lit.wf,Bool.and_eq_true,decide_eq_true_eq]at a;rw[b,d]at a;obtain⟨u,rfl⟩:=Int.eq_ofNat_of_zero_le a.1;exact⟨u,c,O1⟩
def Zg3(h:JZ enc prog W fuel 5 [v]=some x):∃u:Nat,v=.int .u8 u/\u<256:=by
 obtain⟨u,a,b⟩:=Q4x (m:=255) Zpm D1 D1 h;exact⟨u,by simpa using a,O1⟩
def Zc6{T:Type}(U:Qa T)(a:Option Addr)(len:Nat)(l:List Nat):Prop:=Q5 U a len 1 l λ n vs=>vs=[.int .u16 (n:Int)]/\n<65536
def Zc5(h:JZ enc prog W fuel 44 [v]=some x)(f:Sz prog 44 x.1):∃a len cap l,v=.slice a len cap/\Zc6 (Qa.all W) a len l/\len<2^60:=by
 obtain⟨a,len,cap,l,b,c,d⟩:=Yd (R:=λ(n:Nat)vs=>vs=[.int .u16 (n:Int)]/\n<65536) Q0k Qf7 D1 Qek h f λ m r y e _=>by
  obtain⟨u,b,c⟩:=Q4x (m:=65535) Qvo D1 D1 e;exact⟨u,b,O1⟩
 exact⟨a,len,cap,l,b,c,d⟩
end
end Go.Proofs
end

namespace Go.Proofs
open Go.TM
def Q4z:C:=(.seq (.reg [.d 3 (.box 25 (.t 0)),.xb 6 false])
 (.seq (.seq (.reg [.xd 16 2 3,.d 17 (.call (.func 32) #[(.t 16)]),.xt 18 17,.m 19 18,.yo 20 19 false 1 3,.yl 21 19 false 20,.yn 22 19 false 21,.yk 23 19 false .lss 22 2,.xq 24 19 23])
 (.ite (.t 24) (.seq (.reg [.d 25 (.call (.func 20) #[]),.m 6 25])
 .ret) .skip))
 (.seq (.reg [.xd 26 2 3,.m 27 2,.d 28 (.call (.func 33) #[(.t 26),(.t 27)]),.m 7 28])
 (.seq (.reg [.m 29 1,.d 30 (.conv .i64 (.t 29)),.m 31 7,.xn 32 31,.d 33 (.sub (.t 32) (.ci 1)),.d 34 (.ar .rem (.t 30) (.t 33)),.m 8 34])
 (.seq (.seq (.drw [(0,.xd 35 2 3),(0,.m 36 7),(0,.m 37 8),(0,.xi 38 1 36 37),(0,.xl 39 38),(0,.m 40 7),(0,.m 41 8),(0,.xa 42 41),(0,.xi 43 1 40 42),(0,.xl 44 43)] [.d 45 (.call (.func 37) #[(.t 35),(.t 39),(.t 44)]),.xt 46 45])
 (.ite (.t 46) (.seq (.reg [.d 47 (.call (.func 20) #[]),.m 6 47])
 .ret) .skip))
 (.seq (.reg [.d 48 (.bsl 3 0 #[] []),.m 49 7,.xz 50 48 49 26,.m 9 50])
 (.seq (.drs [(0,.m 51 9),(0,.m 52 8),(0,.m 53 9),(0,.m 54 8),(0,.xa 55 54),(0,.m 56 7),(0,.m 57 8),(0,.xa 58 57),(0,.xi 59 1 56 58),(0,.xl 60 59),(0,.m 61 7),(0,.m 62 8),(0,.xi 63 1 61 62),(0,.xl 64 63),(0,.xi 65 1 51 52)] ⟨.st 1 (.t 65) (.t 60),none,none,none⟩ [.xi 66 1 53 55,⟨.st 1 (.t 66) (.t 64),none,none,none⟩])
 (.seq (.reg [.xd 68 2 3,.m 69 7,.d 70 (.call (.func 21) #[(.t 68),(.t 69)]),.m 67 70,.xe 71 67 0,.xe 72 67 1,.xe 73 67 2,.m 10 71,.m 11 72,.m 12 73])
 (.seq (.reg [.xd 75 2 3,.m 76 9,.d 77 (.call (.func 21) #[(.t 75),(.t 76)]),.m 74 77,.xe 78 74 0,.xe 79 74 1,.xe 80 74 2,.m 13 78,.m 14 79,.m 15 80])
 (.seq (.reg [.m 81 12,.xk 82 .eql 81 0,.m 83 82,.ym 84 83 true 15,.yk 85 83 true .eql 84 0,.xp 86 83 85,.m 87 86,.ym 88 87 true 10,.ym 89 87 true 13,.u 90 87 true (.call (.func 25) #[(.t 88),(.t 89)]),.xp 91 87 90,.m 92 91,.ym 93 92 true 11,.ym 94 92 true 14,.u 95 92 true (.call (.func 25) #[(.t 93),(.t 94)]),.xp 96 92 95,.m 97 96,.u 98 97 true (.call (.func 20) #[]),.xp 99 97 98,.m 6 99])
 .ret))))))))))
def Q41:Zf Tryz.prog 7 100 Q4z [.t 6]:=.o [] [45] Tryz.func7 K1
end Go.Proofs

namespace Go.TM
variable{b:Bk}
def Bk.can_iff{o:List Nat}{i:Nat}:b.can o i=true↔i∉o/\∀k∈Je b.A i,k∈o:=by
 simp[Bk.can]
structure Bk.Ord(b:Bk)(o:List Nat):Prop where
 len:o.length=b.cs.length
 low:∀i∈o,i<b.cs.length
 nod:o.Nodup
 aft:∀X i Y,o=X++i::Y->∀k∈Je b.A i,k∈X
def Q4w{n:Nat}{l:List Nat}(h:∀i,i<n->i∈l):n<=l.length:=by
 have a:∀(n:Nat)(l:List Nat),(∀i,i<n->i∈l)->n<=l.length:=by
  intro n
  induction n with
  |zero=>intro l _;exact Nat.zero_le _
  |succ n b=>
   intro l h;obtain⟨X,Y,e⟩:=append_of_mem (h n O1)
   have:=b (X++Y) λ i c=>by
    have:=h i O1;rw[e]at this;simp only[mem_append,mem_cons]at this ⊢;rcases this with h|h|h
    .exact .inl h
    .omega
    .exact .inr h
   rw[e];simp at this ⊢;omega
 exact a n l h
def Bk.A_n(b:Bk):b.A.length=b.cs.length:=by simp[Bk.A]
def Bk.Ok.ord{b:Bk}(h:b.Ok):∃o,b.Ord o:=by
 obtain⟨L,c,a⟩:=DM h.lo;rw[b.A_n]at a;refine⟨L.reverse,?_,λ i d=>by rw[<- b.A_n];exact c.low i (by simpa using d),(by unfold Nodup;rw[pairwise_reverse];exact c.nod.imp Ne.symm),λ X i Y e k f=>?_⟩
 .rw[length_reverse];have j:=H7 c.nod (n:=b.cs.length) λ x g=>by rw[<- b.A_n];exact c.low x g
  have l:=Q4w a;omega
 .have e':L=Y.reverse++i::X.reverse:=by
   rw[<- reverse_reverse L,e];simp
  have:=c.aft _ _ _ e' k f;simpa using this
def Bk.Ord.has{b:Bk}{o:List Nat}(h:b.Ord o){i:Nat}(d:i<b.cs.length):i∈o:=by
 apply Classical.byContradiction;intro e;have c:(i::o).Nodup:=nodup_cons.2 ⟨e,h.nod⟩
 have:=H7 c (n:=b.cs.length) λ x a=>by
  rcases mem_cons.1 a with rfl|a
  .exact d
  .exact h.low x a
 rw[length_cons,h.len]at this;omega
def Bk.stp_len(b:Bk)(x:List Bool×List Bool)(i:Nat):(b.stp x i).1.length=x.1.length/\(b.stp x i).2.length=x.2.length:=by
 unfold Bk.stp;split <;> simp
def Bk.end_len(b:Bk)(o:List Nat):(b.ends o).1.length=b.rs.length/\(b.ends o).2.length=b.cs.length:=by
 have a:∀(o:List Nat)(x:List Bool×List Bool),(o.foldl b.stp x).1.length=x.1.length/\(o.foldl b.stp x).2.length=x.2.length:=by
  intro o
  induction o with
  |nil=>exact λ x=>⟨rfl,rfl⟩
  |cons i o e=>
   intro x;have c:=e (b.stp x i);have d:=b.stp_len x i;exact⟨c.1.trans d.1,c.2.trans d.2⟩
 have:=a o b.ini;simpa[Bk.ends,Bk.ini]using this
def Q4v{l:List Bool}{i j:Nat}{v:Bool}:(l.set i v).getD j false=if i=j/\i<l.length then v else l.getD j false:=by
 simp only[getD_eq_getElem?_getD,getElem?_set];by_cases e:i=j
 .subst e;by_cases h:i<l.length
  .simp[h]
  .simp[h]
 .simp[e]
def Bk.Ord.split{b:Bk}{o:List Nat}(h:b.Ord o){i:Nat}(a:i<b.cs.length):∃X Y,o=X++i::Y:=append_of_mem (h.has a)
def Bk.nexts(b:Bk)(o:List Nat):List Nat:=(range b.cs.length).filter λ i=>b.can o i
def Bk.pickO(b:Bk)(p:List Nat):Nat->List Nat->List Nat
 |0,o=>o
 |k+1,o=>b.pickO p k (o++[(b.nexts o).getD (p.getD o.length 0 % (b.nexts o).length) 0])
structure Bk.Beg(b:Bk)(o:List Nat):Prop where
 low:∀i∈o,i<b.cs.length
 nod:o.Nodup
 aft:∀X i Y,o=X++i::Y->∀k∈Je b.A i,k∈X
def Bk.Beg.nil:b.Beg []:=⟨S1,.nil,λ X i Y e=>by cases X <;> cases e⟩
def Bk.Beg.le{o:List Nat}(h:b.Beg o):o.length<=b.cs.length:=H7 h.nod h.low
def Bk.Beg.snoc{o:List Nat}{i:Nat}(h:b.Beg o)(p:i<b.cs.length)(n:b.can o i=true):b.Beg (o++[i]):=by
 obtain⟨l,m⟩:=Bk.can_iff.1 n;refine⟨λ j a=>?_,?_,λ X j Y e k d=>?_⟩
 .rcases mem_append.1 a with a|a
  .exact h.low j a
  .simp at a;subst a;exact p
 .rw[nodup_append];exact⟨h.nod,S1,λ x q y f e=>by simp at f;subst f;subst e;exact l q⟩
 .rcases eq_nil_or_concat Y with rfl|⟨c,y,rfl⟩
  .obtain⟨rfl,e2⟩:=append_inj' e S1;cases e2;exact m k d
  .have e':o++[i]=(X++j::c)++[y]:=by rw[e];simp
   obtain⟨g,-⟩:=append_inj' e' S1;exact h.aft X j c g k d
def Bk.Beg.next{o:List Nat}(q:b.Ok)(h:b.Beg o)(t:o.length<b.cs.length):0<(b.nexts o).length:=by
 obtain⟨f,p⟩:=q.ord
 have n:∃i∈f,i∉o:=by
  apply Classical.byContradiction;intro u
  have l:∀i,i<b.cs.length->i∈o:=λ i d=>by
   apply Classical.byContradiction;intro g;exact u ⟨i,p.has d,g⟩
  have:=Q4w l;omega
 have c:∃X i Y,f=X++i::Y/\i∉o/\∀k∈X,k∈o:=by
  have s:∀(Y X:List Nat),f=X++Y->(∀k∈X,k∈o)->(∃i∈Y,i∉o)->∃X i Y,f=X++i::Y/\i∉o/\∀k∈X,k∈o:=by
   intro Y
   induction Y with
   |nil=>rintro X _ _⟨i,d,-⟩;cases d
   |cons y Y v=>
    rintro X e m⟨i,d,g⟩;by_cases r:y∈o
    .refine v (X++[y]) (by rw[e];simp) (λ k j=>?_) ?_
     .rcases mem_append.1 j with j|j
      .exact m k j
      .simp at j;subst j;exact r
     .rcases mem_cons.1 d with rfl|d
      .exact absurd r g
      .exact⟨i,d,g⟩
    .exact⟨X,y,Y,e,r,m⟩
  exact s f [] S1 S1 n
 obtain⟨X,i,Y,e,d,m⟩:=c;refine length_pos_of_mem (a:=i) (mem_filter.2 ⟨mem_range.2 (p.low i (by rw[e];simp)),?_⟩);exact Bk.can_iff.2 ⟨d,λ k j=>m k (p.aft X i Y e k j)⟩
def Bk.nexts_at{o:List Nat}{q:Nat}(h:q<(b.nexts o).length):(b.nexts o).getD q 0<b.cs.length/\b.can o ((b.nexts o).getD q 0)=true:=by
 have d:(b.nexts o).getD q 0∈b.nexts o:=by
  rw[getD_eq_getElem?_getD,getElem?_eq_getElem h];exact getElem_mem h
 obtain⟨a,c⟩:=mem_filter.1 d;exact⟨mem_range.1 a,c⟩
def Bk.pick_beg(a:b.Ok)(p:List Nat):∀(k:Nat)(o:List Nat),b.Beg o->o.length+k<=b.cs.length->b.Beg (b.pickO p k o)/\(b.pickO p k o).length=o.length+k
 |0,o,h,_=>⟨h,rfl⟩
 |k+1,o,h,g=>by
  have f:=h.next a O1;obtain⟨c,d⟩:=Bk.nexts_at (Nat.mod_lt (p.getD o.length 0) f);have:=Bk.pick_beg a p k _ (h.snoc c d) S3;refine⟨this.1,?_⟩;have e:=this.2;simp only[length_append,length_singleton]at e;show(b.pickO p k _).length=_;omega
def Bk.pick_ord(c:b.Ok)(p:List Nat):b.Ord (b.pickO p b.cs.length []):=by
 obtain⟨a,d⟩:=Bk.pick_beg c p b.cs.length [] Bk.Beg.nil S1;exact⟨by simpa using d,a.low,a.nod,a.aft⟩
def Bk.Ord.flaw{o:List Nat}(h:b.Ord o):b.ordF (o.map λ(k:Nat)=>(k:Int))=0:=by
 have c:∀(q p:List Nat),o=p++q->b.ordL p (q.map λ(k:Nat)=>(k:Int))=0:=by
  intro q
  induction q with
  |nil=>intro p _;rfl
  |cons i q l=>
   intro p e;have m:i<b.cs.length:=h.low i (by rw[e];simp);have d:=h.nod;rw[e,nodup_append]at d;have a:i∉p:=λ j=>d.2.2 i j i (mem_cons_self ..) rfl;have f:=h.aft p i q e;show(if Go.TM.btw (i:Int) 0 (b.nc-1)then(if(i:Int).toNat∈p then 5 else if(Je b.A (i:Int).toNat).all (λ k=>p.contains k)then b.ordL (p++[(i:Int).toNat]) (q.map λ(k:Nat)=>(k:Int))else 7)else 6)=0;rw[if_pos (by unfold Bk.nc;simp[btw];omega),Int.toNat_natCast,if_neg a,if_pos (by rw[all_eq_true];intro k g;simpa using f k g)];exact l (p++[i]) (by rw[e];simp)
 unfold Bk.ordF;rw[if_neg (by rw[length_map,h.len];simp)];exact c o [] rfl
abbrev Qjj(o:List Nat):List Int:=o.map λ(k:Nat)=>(k:Int)
structure Bk.Free(b:Bk)(i k:Nat):Prop where
 gi:∀g∈(b.cas i).gs,(b.cas k).ag∉g
 gk:∀g∈(b.cas k).gs,(b.cas i).ag∉g
 ai:(k:Int)∉(b.cas i).af
 ak:(i:Int)∉(b.cas k).af
def Qbj{gs:List (List Int)}{s:List Bool}{a:Int}(i:0<=a)(f:∀g∈gs,∀n∈g,0<=n)(h:∀g∈gs,a∉g):Iq gs (s.set a.toNat false)=Iq gs s:=by
 unfold Iq
 have d:∀g∈gs,(g.all λ r=>(s.set a.toNat false).getD r.toNat false)=g.all λ r=>s.getD r.toNat false:=by
  intro g b;rw[Bool.eq_iff_iff,all_eq_true,all_eq_true]
  have e:∀r∈g,(s.set a.toNat false).getD r.toNat false=s.getD r.toNat false:=λ r c=>by
   rw[Q4v,if_neg];rintro⟨e,-⟩;have:=f g b r c;have:a=r:=O1
   exact h g b (this▸c)
  constructor
  .intro hh r c;rw[<- e r c];exact hh r c
  .intro hh r c;rw[e r c];exact hh r c
 rw[Bool.eq_iff_iff,any_eq_true,any_eq_true];constructor
 .rintro⟨g,b,hx⟩;rw[d g b]at hx;exact⟨g,b,hx⟩
 .rintro⟨g,b,hx⟩;rw[<- d g b]at hx;exact⟨g,b,hx⟩
def Bk.Ok.casIn{b:Bk}{i:Nat}(a:i<b.cs.length):b.cas i∈b.cs:=by
 unfold Bk.cas;rw[getD_eq_getElem?_getD,getElem?_eq_getElem a];exact getElem_mem a
def Zc3{l:List Bool}{i k:Nat}{v:Bool}:(l.set i v).set k v=(l.set k v).set i v:=by
 by_cases e:i=k
 .subst e;rfl
 .exact set_comm v v e
def Bk.stp_swap(a:b.Ok){i k:Nat}(p:i<b.cs.length)(q:k<b.cs.length)(j:b.Free i k)(x:List Bool×List Bool):b.stp (b.stp x i) k=b.stp (b.stp x k) i:=by
 have ci:=Bk.Ok.casIn p;have o:=Bk.Ok.casIn q;have f:=(a.ag _ ci).1;have h:=(a.ag _ o).1;have d:∀g∈(b.cas i).gs,∀n∈g,0<=n:=λ g l n m=>((a.gs _ ci g l).2 n m).1;have e:∀g∈(b.cas k).gs,∀n∈g,0<=n:=λ g l n m=>((a.gs _ o g l).2 n m).1;unfold Bk.stp;by_cases c:Iq (b.cas i).gs x.1=true
 .by_cases h2:Iq (b.cas k).gs x.1=true
  .rw[if_pos c,if_pos h2];simp only;rw[Qbj f e j.gk,Qbj h d j.gi,if_pos c,if_pos h2];rw[Zc3,Zc3 (i:=i) (k:=k)]
  .rw[if_pos c,if_neg h2];simp only;rw[Qbj f e j.gk,if_neg h2,if_pos c]
 .by_cases h2:Iq (b.cas k).gs x.1=true
  .rw[if_neg c,if_pos h2];simp only;rw[Qbj h d j.gi,if_neg c]
  .rw[if_neg c,if_neg h2,if_neg c]
def Bk.ends_app(b:Bk)(X Y:List Nat):b.ends (X++Y)=Y.foldl b.stp (b.ends X):=by simp[Bk.ends]
def Bk.swap_ends(a:b.Ok){i k:Nat}(d:i<b.cs.length)(e:k<b.cs.length)(c:b.Free i k)(X Y:List Nat):b.ends (X++i::k::Y)=b.ends (X++k::i::Y):=by
 rw[b.ends_app,b.ends_app];show Y.foldl b.stp (b.stp (b.stp (b.ends X) i) k)=Y.foldl b.stp (b.stp (b.stp (b.ends X) k) i);rw[Bk.stp_swap a d e c]
def Bk.aft_cas(a:b.Ok){i k:Nat}(c:i<b.cs.length)(h:k∈Je b.A i):(k:Int)∈(b.cas i).af:=by
 have ci:=Bk.Ok.casIn c
 have e:Je b.A i=(b.cas i).af.map Int.toNat:=by
  simp[Je,Bk.A,Bk.cas,getD_eq_getElem?_getD,c]
 rw[e]at h;obtain⟨n,d,f⟩:=mem_map.1 h;have:=(a.af _ ci n d).1;have:(k:Int)=n:=O1
 exact this▸d
def Bk.swap_ord(m:b.Ok){i k:Nat}{X Y:List Nat}(a:b.Ord (X++i::k::Y))(r:b.Free i k):b.Ord (X++k::i::Y):=by
 have x:i<b.cs.length:=a.low i S1;have t:k<b.cs.length:=a.low k S1;have o:(X++k::i::Y).Perm (X++i::k::Y):=(Perm.swap i k Y).append_left X;refine⟨o.length_eq.trans a.len,λ j s=>a.low j (o.mem_iff.1 s),o.nodup_iff.2 a.nod,λ Z j W e n g=>?_⟩;have s:j<b.cs.length:=a.low j (o.mem_iff.1 (by rw[e];simp));have v:∀P Q,X=P++j::Q->n∈P:=λ P Q c=>a.aft P j (Q++i::k::Y) (by rw[c];simp) n g;rcases append_eq_append_iff.1 e with⟨l,c,d⟩|⟨p,c,d⟩
 ·
  cases l with
  |nil=>
   simp only[nil_append,List.cons.injEq]at d;obtain⟨rfl,f⟩:=d;rw[append_nil]at c;subst c;have:=a.aft (Z++[i]) k Y S1 n g;rcases mem_append.1 this with h|h
   .exact h
   .simp at h;subst h;exact absurd (Bk.aft_cas m t g) r.ak
  |cons u l=>
   simp only[cons_append,List.cons.injEq]at d;obtain⟨rfl,f⟩:=d;cases l with
   |nil=>
    simp only[nil_append,List.cons.injEq]at f;obtain⟨rfl,q⟩:=f;have:=a.aft X i (k::Y) rfl n g;rw[c];simp[this]
   |cons w l=>
    simp only[cons_append,List.cons.injEq]at f;obtain⟨rfl,q⟩:=f;have:=a.aft (X++i::k::l) j W (by rw[q];simp) n g;rw[c];simp only[mem_append,mem_cons]at this ⊢;rcases this with h|h|h|h
    .exact .inl h
    .exact .inr (.inr (.inl h))
    .exact .inr (.inl h)
    .exact .inr (.inr (.inr h))
 ·
  cases p with
  |nil=>
   simp only[nil_append,List.cons.injEq]at d;obtain⟨rfl,f⟩:=d;rw[append_nil]at c;subst c;have:=a.aft (X++[i]) j Y S1 n g;rcases mem_append.1 this with h|h
   .exact h
   .simp at h;subst h;exact absurd (Bk.aft_cas m t g) r.ak
  |cons u p=>
   simp only[cons_append,List.cons.injEq]at d;obtain⟨rfl,f⟩:=d;exact v Z p c
end Go.TM

