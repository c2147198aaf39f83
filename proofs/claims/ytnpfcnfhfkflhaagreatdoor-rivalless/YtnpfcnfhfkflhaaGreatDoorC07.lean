/- Lemmas. No conditions. -/
import Derived.Test.YtnpfcnfhfkflhaaGreatDoorC06
set_option linter.all false
open List
namespace Go.TM
variable{b:Bk}
def Zsb(L:List Nat)(k:Nat):(Qae L).contains (k:Int)=L.contains k:=by
 rw[Bool.eq_iff_iff];simp only[contains_eq_mem,decide_eq_true_eq,mem_map];exact⟨λ⟨n,b,e⟩=>(Int.ofNat.inj e)▸b,λ h=>⟨k,h,rfl⟩⟩
def Q0m{α β:Type}(f:α->β):∀(l:List α)(m:Nat),parts (l.map f) m=(parts l m).map (List.map f)
 |l,0=>by rw[P4,P4];rfl
 |[],m+1=>rfl
 |a::l,m+1=>by
  show(parts (l.map f) m).map (f a::·)++parts (l.map f) (m+1)=((parts l m).map (a::·)++parts l (m+1)).map _;rw[Q0m f l m,Q0m f l (m+1),map_append,map_map,map_map];rfl
def Zq3(b:Bk)(p:List Nat):woC b (Qae p)=b.wo (Z7 p).testBit:=by
 unfold woC;congr 1;funext k;rw[Zsb,Wz]
def Zq1{p:List Int}(c:∀n∈p,0<=n):woC b p=b.wo (WR p).testBit:=by
 unfold woC;congr 1;funext k;rw[Bool.eq_iff_iff,Zk8 c];simp
def Bk.dcP_iff{r:Nat}{x:List Int}:b.dcP r x=true↔∀d,d<2^b.cs.length->d&&&WR x=0->b.dcS r d=b.dcS r 0:=by
 unfold Bk.dcP;rw[all_eq_true];constructor
 .intro h d hd c;have:=h d (mem_range.2 hd);simpa[c]using this
 .intro h d hd;by_cases c:d&&&WR x=0
  .simp[h d (mem_range.1 hd) c]
  .simp[c]
def Bk.dcS_zero(c:b.Ok)(r:Nat):b.dcS r 0=b.fatR r:=by
 show(b.wo (WR []).testBit).fatR r=_;rw[Bk.wo_none c]
def Bk.hg_dc(e:b.Ok){r:Nat}{x:List Int}(o:x.Sublist b.every):b.hgB r x=b.dcP r x:=by
 have g:=Bk.every_pos o;rw[Bool.eq_iff_iff,Bk.dcP_iff];have h:=Zri (n:=b.cs.length) (x:=x.map Int.toNat) λ d=>b.dcS r d=b.dcS r 0;rw[show WR x=Z7 (x.map Int.toNat) from rfl,h]
 have f:b.oth x=Qae (Q0k b.cs.length (x.map Int.toNat)):=by
  unfold Bk.oth Bk.kpt Q0k;congr 1;refine filter_congr λ k _=>?_;congr 1;rw[<- Wz,show Z7 (x.map Int.toNat)=WR x from rfl,Bool.eq_iff_iff,Zk8 g];simp
 unfold Bk.hgB;rw[all_eq_true,f,length_map];constructor
 .intro hh m hm p c;have:=all_eq_true.1 (hh m (mem_range.2 O1)) (Qae p) (by rw[Q0m];exact mem_map_of_mem c);simp only[Bk.hgP,beq_iff_eq]at this;show(b.wo (Z7 p).testBit).fatR r=_;rw[<- Zq3,this,Bk.dcS_zero e]
 .intro hh m hm;rw[all_eq_true];intro p c;rw[Q0m]at c;obtain⟨q,j,rfl⟩:=mem_map.1 c;have:=hh m (by have:=mem_range.1 hm;omega) q j;rw[Bk.dcS_zero e]at this;simp only[Bk.hgP,beq_iff_eq];rw[Zq3];exact this
def Bk.dc_every(b:Bk)(r:Nat):b.dcP r b.every=true:=by
 rw[Bk.dcP_iff];intro d e g
 have:d=0:=by
  refine Nat.eq_of_testBit_eq λ k=>?_;rw[Nat.zero_testBit];by_cases f:k<b.cs.length
  .have h1:(d&&&WR b.every).testBit k=false:=by rw[g];simp
   have c:(WR b.every).testBit k=true:=(Zk8 (Bk.every_pos (Sublist.refl _)) k).2 (mem_map.2 ⟨k,mem_range.2 f,rfl⟩);rw[Nat.testBit_and,c,Bool.and_true]at h1;exact h1
  .exact Nat.testBit_lt_two_pow (Nat.lt_of_lt_of_le e (Nat.pow_le_pow_right O1 O1))
 rw[this]
def Bk.dc_facts(b:Bk)(r:Nat):(b.dcL r).Sublist b.every/\b.dcP r (b.dcL r)=true/\∀y:List Int,y.Sublist b.every->b.dcP r y=true->(b.dcL r).length<=y.length:=by
 unfold Bk.dcL;cases h:WP b.every (b.dcP r) 0 (b.cs.length+1)with
 |some x=>
  obtain⟨c,d,e⟩:=Q4w b.every_asc _ _ h;exact⟨c,d,λ y g f=>by have:=e y g f (Nat.zero_le _);show x.length<=_;omega⟩
 |none=>
  have:=Q4v _ _ h _ (Sublist.refl b.every) (Nat.zero_le _) (by rw[b.every_len];omega);rw[b.dc_every]at this;cases this
end Go.TM

