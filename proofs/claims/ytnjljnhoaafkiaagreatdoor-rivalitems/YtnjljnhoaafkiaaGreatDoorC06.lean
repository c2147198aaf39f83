/- Lemmas. No conditions. -/
import Derived.Test.YtnjljnhoaafkiaaGreatDoorC05
set_option linter.all false
open List
namespace Go.TM
def Qzz(n:Nat):List Int:=(range n).map λ(j:Nat)=>(j:Int)
def Ztj{n:Nat}{x:Int}:x∈Qzz n↔0<=x/\x<n:=by
 unfold Qzz;simp only[mem_map,mem_range];constructor
 .rintro⟨j,h,rfl⟩;omega
 .rintro⟨h1,h2⟩;exact⟨x.toNat,O1,O1⟩
def Ztg(n:Nat):Asc (Qzz n):=by
 unfold Qzz Asc;rw[pairwise_map];exact pairwise_lt_range.imp λ h=>O1
def Zso(n:Nat):Qzz (n+1)=Qzz n++[(n:Int)]:=by unfold Qzz;rw[range_succ];simp
def WJ.ni(t:WJ)(e:Int):Nat:=(t.items e).length
def WJ.isItem_iff{t:WJ}{e n:Int}:t.isItem e n=true↔0<=n/\n<t.ni e:=by
 unfold WJ.isItem QP WJ.ni;simp only[Bool.and_eq_true,decide_eq_true_eq];omega
def WJ.ni8{t:WJ}(hf:t.flaw=0)(e:Int):t.ni e<=8:=by
 unfold WJ.ni WJ.items;split
 .rename_i he;have hb:=WJ.isEd_lt he;obtain⟨-,-,b⟩:=WJ.flaw_eds hf;rw[getD_eq_getElem?_getD,getElem?_eq_getElem O1];exact b _ (getElem_mem _)
 .simp
structure WJ.Lst(t:WJ)(e:Int)(l:List Int):Prop where
 asc:Asc l
 its:∀x∈l,t.isItem e x=true
def WJ.chk_of{t:WJ}{e:Int}:∀{l:List Int}{p:Option Int},(∀m,p=some m->∀x∈l,m<x)->Asc l->(∀x∈l,t.isItem e x=true)->t.chk e p l=0
 |[],_,_,_,_=>rfl
 |a::l,p,w,ha,f=>by
  have b:=pairwise_cons.1 ha;have h:t.chk e (some a) l=0:=WJ.chk_of (λ m e x hx=>by cases e;exact b.1 x hx) b.2 λ x hx=>f x (mem_cons_of_mem _ hx);rw[WJ.chk_cons,if_pos (f a (mem_cons_self ..))];cases p with
  |none=>exact h
  |some m=>
   have:=w m rfl a (mem_cons_self ..);show(if a<=m then(7:Int)else _)=0;rw[if_neg O1];exact h
def WJ.Lst.chk{t:WJ}{e:Int}{l:List Int}(h:t.Lst e l):t.chk e none l=0:=WJ.chk_of (λ m e=>by cases e) h.asc h.its
def WJ.Lst.filter{t:WJ}{e:Int}{l:List Int}(h:t.Lst e l)(p:Int->Bool):t.Lst e (l.filter p):=⟨h.asc.filter p,λ x hx=>h.its x (mem_filter.1 hx).1⟩
def WJ.Lst.len{t:WJ}{e:Int}{l:List Int}(hf:t.flaw=0)(h:t.Lst e l):l.length<=8:=by
 rcases Zqe hf h.chk S1 with rfl|h
 .simp
 .exact h
def WJ.chkAll_of{t:WJ}{e:Int}:∀{b:List (List Int)},(∀l∈b,t.Lst e l)->t.chkAll e b=0
 |[],_=>rfl
 |l::b,h=>by
  rw[WJ.chkAll,if_pos (h l (mem_cons_self ..)).chk];exact WJ.chkAll_of λ l hl=>h l (mem_cons_of_mem _ hl)
def WJ.openF_of{t:WJ}(hf:t.flaw=0){e:Int}(f:t.isEd e=true){b:List (List Int)}(h:∀l∈b,t.Lst e l):t.openF e b=0:=by
 unfold WJ.openF;rw[if_pos hf,if_pos f];exact WJ.chkAll_of h
section
variable{t:WJ}
section
variable{x y:Int}(hf:t.flaw=0)(hx:t.isEd x=true)(hy:t.isEd y=true){l:List Int}(h:t.Lst x l)
include hf hx hy h
end
end
def Zf5(a b:List Int):List Int:=a.filter λ n=>!b.contains n
def WJ.chosen(t:WJ)(e:Int)(bits:Nat):List Int:=(Qzz (t.ni e)).filter λ n=>bits.testBit n.toNat
def WJ.lst_chosen(t:WJ)(e:Int)(bits:Nat):t.Lst e (t.chosen e bits):=
 ⟨(Ztg _).filter _,λ x hx=>WJ.isItem_iff.2 (Ztj.1 (mem_filter.1 hx).1)⟩
def Qek.lets(c:Qek)(n:Int):Bool:=c.items.contains n==c.keep
def Q4b(cs:List Qek)(n:Int):Bool:=cs.all λ c=>c.lets n
def Qek.on_eq(c:Qek)(l:List Int):c.on l=l.filter c.lets:=by
 unfold Qek.on Qek.lets;congr 1;funext n;cases c.items.contains n <;> cases c.keep <;> rfl
def Zp0:∀(cs:List Qek)(l:List Int),Qli cs l=l.filter (Q4b cs)
 |[],l=>by
  show l=_;exact(filter_eq_self.2 λ _ _=>rfl).symm
 |c::cs,l=>by
  show Qli cs (c.on l)=_;rw[Zp0 cs,Qek.on_eq,filter_filter];congr 1;funext n;show(Q4b cs n&&c.lets n)=(c.lets n&&Q4b cs n);exact Bool.and_comm ..
def WJ.cutF_of{t:WJ}(hf:t.flaw=0){e:Int}(f:t.isEd e=true){l:List Int}(hl:t.Lst e l){cs:List Qek}(w:cs.length<=4)(b:∀c∈cs,t.Lst e c.items):t.cutF e l cs=0:=by
 unfold WJ.cutF;rw[if_pos (WJ.openF_of hf f λ m hm=>by rw[mem_singleton.1 hm];exact hl),if_neg O1]
 exact WJ.chkAll_of λ m hm=>by
  obtain⟨c,h,rfl⟩:=mem_map.1 hm;exact b c h
def WJ.cutL_of{t:WJ}{e:Int}{l:List Int}{cs:List Qek}(h:t.cutF e l cs=0):t.cutL e l cs=l.filter (Q4b cs):=by
 unfold WJ.cutL;rw[if_pos h,Zp0]
end Go.TM
namespace Go.TM
open Go.Proofs
section
variable{t:WJ}{e:Int}{xs ys:List Int}
end
section
variable{t:WJ}(hf:t.flaw=0){x y:Int}(hx:t.isEd x=true)(hy:t.isEd y=true){a b:List Int}(ha:t.Lst x a)(hb:t.Lst y b)
include hf hx hy ha hb
end
end Go.TM
namespace Go.TM
section
variable{t:WJ}{e:Int}
end
def WJ.row(t:WJ)(k:Qp6)(x:Int)(l:List Int):List (Int×Int):=(l.filter λ y=>decide (k.lv<=t.lev k.ed x y)).map λ y=>(x,y)
def WJ.prs_eq(t:WJ)(k:Qp6):t.prs k=k.a.flatMap λ x=>t.row k x k.b:=by
 unfold WJ.prs WJ.reach;congr 1;funext x;unfold WJ.reachRow WJ.row;congr 1;refine filter_congr λ y _=>?_;unfold WJ.okP;rw[Bool.eq_iff_iff];simp
def WJ.row_len(t:WJ)(k:Qp6)(x:Int)(l:List Int):(t.row k x l).length<=l.length:=by
 unfold WJ.row;rw[length_map];exact length_filter_le ..
def Zq8{α β:Type}{f:α->List β}{m:Nat}:∀{l:List α},(∀x,x∈l->(f x).length<=m)->(l.flatMap f).length<=l.length*m
 |[],_=>S1
 |x::l,h=>by
  rw[flatMap_cons,length_append,length_cons,Nat.succ_mul];have h1:=h x (mem_cons_self ..);have h2:=Zq8 (l:=l) λ y hy=>h y (mem_cons_of_mem _ hy);omega
def WJ.prs_len(t:WJ)(k:Qp6):(t.prs k).length<=k.a.length*k.b.length:=by
 rw[WJ.prs_eq];exact Zq8 λ x _=>t.row_len k x k.b
def WJ.talk_of{t:WJ}(hf:t.flaw=0){e lv:Int}(f:t.isEd e=true){a b:List Int}(ha:t.Lst e a)(hb:t.Lst e b)(h1:1<=lv)(h5:lv<=5):t.talkF e a b lv=0:=by
 have h:t.openF e [a,b]=0:=WJ.openF_of hf f λ m hm=>by
  rcases mem_cons.1 hm with rfl|hm
  .exact ha
  .rw[mem_singleton.1 hm];exact hb
 unfold WJ.talkF;rw[if_pos h,if_pos (by unfold QP;simp[h1,h5])]
section
variable{t:WJ}{tk:Qp6}(ha:Asc tk.a)(hb:Asc tk.b)
include ha hb
end
def inP(L:List (Int×Int))(x:Int):Bool:=L.any λ q=>q.1==x
def Zra{L:List (Int×Int)}{k:Nat}{q:Int×Int}{x:Int}(h:L[k]?=some q):inP (L.take (k+1)) x=(inP (L.take k) x|| q.1==x):=by
 unfold inP;rw[Wf h,any_append];simp
def Ztm{t:WJ}{e n:Int}{A O:List Int}:t.prs ⟨e,n,A.filter (λ x=>!inP (t.prs ⟨e,n,A,O⟩) x),O⟩=[]:=by
 rw[eq_nil_iff_forall_not_mem];intro q w;obtain⟨h1,h2,b⟩:=WJ.mem_prs.1 w;obtain⟨f,h5⟩:=mem_filter.1 h1;have:q∈t.prs ⟨e,n,A,O⟩:=WJ.mem_prs.2 ⟨f,h2,b⟩;have h:inP (t.prs ⟨e,n,A,O⟩) q.1=true:=any_eq_true.2 ⟨q,this,S1⟩;rw[h]at h5;cases h5
def Ztv{A:List Int}{L:List (Int×Int)}:Zf5 A (A.filter (inP L))=A.filter λ x=>!inP L x:=by
 unfold Zf5;refine filter_congr λ x hx=>?_;congr 1;rw[Bool.eq_iff_iff];simp[hx]
def Qjd{A:List Int}{i:Nat}{x:Int}(p:Int->Bool)(h:A[i]?=some x):(A.take (i+1)).filter p=(A.take i).filter p++(if p x then[x]else[]):=by
 rw[Wf h,filter_append,filter_cons,filter_nil]
def Zp5{q:Nat->Bool}{β:Type}(f:Nat->β)(k:Nat):((range (k+1)).filter q).map f=((range k).filter q).map f++(if q k then[f k]else[]):=by
 rw[range_succ,filter_append,map_append];cases h:q k <;> simp[h]
end Go.TM





