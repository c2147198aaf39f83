/- Lemmas. No conditions. -/
import Derived.Test.YtnpfcnfhfkflhaaGreatDoorC06
set_option linter.all false
open List
namespace Go.TM
variable{b:Bk}
def Zry(L:List Nat)(k:Nat):(Qae L).contains (k:Int)=L.contains k:=by
 rw[Bool.eq_iff_iff];simp only[contains_eq_mem,decide_eq_true_eq,mem_map];exact⟨λ⟨n,b,e⟩=>(Int.ofNat.inj e)▸b,λ h=>⟨k,h,rfl⟩⟩
def Qvy{α β:Type}(f:α->β):∀(l:List α)(m:Nat),parts (l.map f) m=(parts l m).map (List.map f)
 |l,0=>by rw[P4,P4];rfl
 |[],m+1=>rfl
 |a::l,m+1=>by
  show(parts (l.map f) m).map (f a::·)++parts (l.map f) (m+1)=((parts l m).map (a::·)++parts l (m+1)).map _;rw[Qvy f l m,Qvy f l (m+1),map_append,map_map,map_map];rfl
def Zqx(b:Bk)(p:List Nat):woC b (Qae p)=b.wo (Z7 p).testBit:=by
 unfold woC;congr 1;funext k;rw[Zry,Wz]
def Bk.dcP_iff{r:Nat}{x:List Int}:b.dcP r x=true↔∀d,d<2^b.cs.length->d&&&WR x=0->b.dcS r d=b.dcS r 0:=by
 unfold Bk.dcP;rw[all_eq_true];constructor
 .intro h d hd e;have:=h d (mem_range.2 hd);simpa[e]using this
 .intro h d hd;by_cases e:d&&&WR x=0
  .simp[h d (mem_range.1 hd) e]
  .simp[e]
def Bk.dcS_zero(d:b.Ok)(r:Nat):b.dcS r 0=b.fatR r:=by
 show(b.wo (WR []).testBit).fatR r=_;rw[Bk.wo_none d]
def Bk.hg_dc(f:b.Ok){r:Nat}{x:List Int}(t:x.Sublist b.every):b.hgB r x=b.dcP r x:=by
 have j:=Bk.every_pos t;rw[Bool.eq_iff_iff,Bk.dcP_iff];have h:=Zq9 (n:=b.cs.length) (x:=x.map Int.toNat) λ d=>b.dcS r d=b.dcS r 0;rw[show WR x=Z7 (x.map Int.toNat) from rfl,h]
 have g:b.oth x=Qae (Qvo b.cs.length (x.map Int.toNat)):=by
  unfold Bk.oth Bk.kpt Qvo;congr 1;refine filter_congr λ k _=>?_;congr 1;rw[<- Wz,show Z7 (x.map Int.toNat)=WR x from rfl,Bool.eq_iff_iff,Zqv j];simp
 unfold Bk.hgB;rw[all_eq_true,g,length_map];constructor
 .intro hh m hm p e;have:=all_eq_true.1 (hh m (mem_range.2 O1)) (Qae p) (by rw[Qvy];exact mem_map_of_mem e);simp only[Bk.hgP,beq_iff_eq]at this;show(b.wo (Z7 p).testBit).fatR r=_;rw[<- Zqx,this,Bk.dcS_zero f]
 .intro hh m hm;rw[all_eq_true];intro p e;rw[Qvy]at e;obtain⟨q,o,rfl⟩:=mem_map.1 e;have:=hh m (by have:=mem_range.1 hm;omega) q o;rw[Bk.dcS_zero f]at this;simp only[Bk.hgP,beq_iff_eq];rw[Zqx];exact this
def Bk.dc_every(b:Bk)(r:Nat):b.dcP r b.every=true:=by
 rw[Bk.dcP_iff];intro d f h
 have:d=0:=by
  refine Nat.eq_of_testBit_eq λ k=>?_;rw[Nat.zero_testBit];by_cases g:k<b.cs.length
  .have h1:(d&&&WR b.every).testBit k=false:=by rw[h];simp
   have e:(WR b.every).testBit k=true:=(Zqv (Bk.every_pos (Sublist.refl _)) k).2 (mem_map.2 ⟨k,mem_range.2 g,rfl⟩);rw[Nat.testBit_and,e,Bool.and_true]at h1;exact h1
  .exact Nat.testBit_lt_two_pow (Nat.lt_of_lt_of_le f (Nat.pow_le_pow_right O1 O1))
 rw[this]
def Bk.dc_facts(b:Bk)(r:Nat):(b.dcL r).Sublist b.every/\b.dcP r (b.dcL r)=true/\∀y:List Int,y.Sublist b.every->b.dcP r y=true->(b.dcL r).length<=y.length:=by
 unfold Bk.dcL;cases h:WP b.every (b.dcP r) 0 (b.cs.length+1)with
 |some x=>
  obtain⟨d,e,f⟩:=Zom b.every_asc _ _ h;exact⟨d,e,λ y j g=>by have:=f y j g (Nat.zero_le _);show x.length<=_;omega⟩
 |none=>
  have:=Zol _ _ h _ (Sublist.refl b.every) (Nat.zero_le _) (by rw[b.every_len];omega);rw[b.dc_every]at this;cases this
def Bk.dc_fewer(d:b.Ok)(r:Nat){i:Nat}(j:i<(b.dcL r).length):b.hgB r ((b.dcL r).take i++(b.dcL r).drop (i+1))=false:=by
 obtain⟨g,-,h⟩:=b.dc_facts r;have f:=(Zpu (b.dcL r) i).trans g;rw[Bk.hg_dc d f];cases e:b.dcP r ((b.dcL r).take i++(b.dcL r).drop (i+1))with
 |false=>rfl
 |true=>
  have:=h _ f e;rw[Zpq j]at this;omega
def Bk.dcTo(l:List Int)(bits i:Nat):List Int:=Qae ((range i).filter λ k=>Zpz bits k&&!l.contains (k:Int))
def Bk.dcTo_succ(l:List Int)(bits i:Nat):Bk.dcTo l bits (i+1)=Bk.dcTo l bits i++(if Zpz bits i&&!l.contains (i:Int)then[(i:Int)]else[]):=by
 unfold Bk.dcTo;rw[range_succ,filter_append,Qae,map_append];congr 1;cases h:Zpz bits i&&!l.contains (i:Int)
 .rw[filter_cons,h];rfl
 .rw[filter_cons,h];rfl
def Bk.dcTo_sub(b:Bk)(l:List Int)(bits:Nat):(Bk.dcTo l bits b.cs.length).Sublist b.every:=filter_sublist.map _
def Bk.dc_out(j:b.Ok)(r bits:Nat):(b.wo (WR (Bk.dcTo (b.dcL r) bits b.cs.length)).testBit).fatR r=b.fatR r:=by
 obtain⟨o,q,-⟩:=b.dc_facts r;have t:=b.dcTo_sub (b.dcL r) bits;rw[<- Bk.dcS_zero j];refine Bk.dcP_iff.1 q _ ?_ ?_
 .refine jI λ k f=>?_;obtain⟨n,h,rfl⟩:=mem_map.1 f;obtain⟨m,g,rfl⟩:=mem_map.1 (t.subset h);exact mem_range.1 g
 .refine Zoh.2 λ k f u=>?_;obtain⟨n,h,rfl⟩:=mem_map.1 f;obtain⟨x,d,e⟩:=mem_map.1 u;have v:=Bk.every_pos o x d;obtain⟨m,g,rfl⟩:=mem_map.1 h;have:=(mem_filter.1 g).2;simp only[Bool.and_eq_true,Bool.not_eq_true',contains_eq_mem,decide_eq_false_iff_not]at this;refine this.2 ?_
  have:x=(m:Int):=by
   have:((m:Nat):Int).toNat=m:=Int.toNat_natCast m;omega
  exact this▸d
end Go.TM

