/- Lemmas. No conditions. -/
import Derived.Test.YtnpfcnfhfkflhaaGreatDoorC00
set_option linter.all false
open List
namespace Go.TM
variable{b:Bk}
def Bk.sty_cas{s:Int×Int}(a:s.1.toNat<b.cs.length)(i:Nat):(b.sty s).cas i=if i=s.1.toNat then{ b.cas s.1.toNat with af:=ZH s.2 (b.cas s.1.toNat).af }else b.cas i:=by
 show(b.cs.set s.1.toNat _).getD i default=_;rw[getD_eq_getElem?_getD,getElem?_set];by_cases e:s.1.toNat=i
 .rw[if_pos e,if_pos a,if_pos e.symm];rfl
 .rw[if_neg e,if_neg (λ h=>e h.symm),<- getD_eq_getElem?_getD];rfl
def Bk.sty_stp{s:Int×Int}(e:s.1.toNat<b.cs.length):(b.sty s).stp=b.stp:=by
 funext x i;have h:=Bk.sty_cas e i;have a:((b.sty s).cas i).gs=(b.cas i).gs:=by rw[h];split <;> simp_all
 have d:((b.sty s).cas i).ag=(b.cas i).ag:=by rw[h];split <;> simp_all
 unfold Bk.stp;rw[a,d]
def Bk.sty_ends{s:Int×Int}(a:s.1.toNat<b.cs.length)(o:List Nat):(b.sty s).ends o=b.ends o:=by
 unfold Bk.ends;rw[Bk.sty_stp a];unfold Bk.ini;rw[b.sty_len];rfl
def Bk.sty_aft{s:Int×Int}(a:s.1.toNat<b.cs.length){i k:Nat}(h:k∈Je b.A i):k∈Je (b.sty s).A i:=by
 unfold Je Bk.A at h ⊢;rw[getD_eq_getElem?_getD,getElem?_map]at h ⊢;show k∈((((b.cs.set s.1.toNat _))[i]?).map _).getD [];rw[getElem?_set];by_cases e:s.1.toNat=i
 .rw[if_pos e,if_pos a];subst e;have d:b.cas s.1.toNat=b.cs[s.1.toNat]:=by simp[Bk.cas,getD_eq_getElem?_getD,a]
  rw[getElem?_eq_getElem a,<- d]at h;simp only[Option.map_some,Option.getD_some,mem_map]at h ⊢;obtain⟨n,f,e⟩:=h;exact⟨n,(Pd _ _ _).2 (.inr f),e⟩
 .rw[if_neg e];exact h
def Bk.sty_ord{s:Int×Int}(f:s.1.toNat<b.cs.length){o:List Nat}(h:(b.sty s).Ord o):b.Ord o:=
 ⟨by rw[h.len,b.sty_len],λ i a=>by have:=h.low i a;rwa [b.sty_len]at this,h.nod,λ X i Y e k d=>h.aft X i Y e k (Bk.sty_aft f d)⟩
def Bk.FrL(b:Bk):List (Int×Int)->Prop
 |[]=>True
 |s::l=>b.Fr s/\(b.sty s).FrL l
def Bk.FrL.snoc{l:List (Int×Int)}{s:Int×Int}:∀{b:Bk},b.FrL l->(b.stys l).Fr s->b.FrL (l++[s]):=by
 induction l with
 |nil=>exact λ h a=>⟨a,trivial⟩
 |cons x l d=>exact λ h a=>⟨h.1,d h.2 a⟩
def Bk.FrL.ok1{l:List (Int×Int)}:∀{b:Bk},b.Ok1->b.FrL l->(b.stys l).Ok1:=by
 induction l with
 |nil=>exact λ h _=>h
 |cons x l d=>exact λ h a=>d (h.sty a.1) a.2
def Bk.FrL.ends{l:List (Int×Int)}:∀{b:Bk},b.FrL l->∀o,(b.stys l).ends o=b.ends o:=by
 induction l with
 |nil=>exact λ _ _=>rfl
 |cons x l a=>exact λ h o=>(a h.2 o).trans (Bk.sty_ends h.1.cl o)
def Bk.FrL.ord{l:List (Int×Int)}:∀{b:Bk},b.FrL l->∀{o},(b.stys l).Ord o->b.Ord o:=by
 induction l with
 |nil=>exact λ _ _ h=>h
 |cons x l d=>exact λ h o a=>Bk.sty_ord h.1.cl (d h.2 a)
def Qcf{nameB:ByteArray->Bool}{nr nc:Int}{seen:List ByteArray}{c:Cs}{l:List Cs}:WC nameB nr nc seen (c::l)=0↔(nameB c.nm=true/\QR seen c.nm=false/\btw c.ag 0 (nr-1)=true/\ZX nr c.gs=0/\J1 nc none c.af=0/\WC nameB nr nc (seen++[c.nm]) l=0):=by
 rw[WC]
 grind
def Qvv{nameB:ByteArray->Bool}{nr nc:Int}{af:List Int}(j:J1 nc none af=0):∀{cs:List Cs}{seen:List ByteArray}{k:Nat}{c:Cs},WC nameB nr nc seen cs=0->cs[k]?=some c->WC nameB nr nc seen (cs.set k { c with af:=af })=0
 |[],_,_,_,_,h=>by simp at h
 |x::cs,seen,0,c,h,g=>by
  obtain rfl:x=c:=by simpa using g
  obtain⟨a,b,d,e,-,f⟩:=Qcf.1 h;exact Qcf.2 ⟨a,b,d,e,j,f⟩
 |x::cs,seen,k+1,c,h,g=>by
  obtain⟨a,b,d,e,l,f⟩:=Qcf.1 h;exact Qcf.2 ⟨a,b,d,e,l,Qvv j f (by simpa using g)⟩
def Bk.sty_csF{nameB:ByteArray->Bool}(h:b.csF nameB=0)(d:b.Ok1){s:Int×Int}(f:b.Fr s):(b.sty s).csF nameB=0:=by
 have g:=(d.sty f);unfold Bk.csF at h ⊢;split at h
 .cases h
 rename_i l;rw[b.sty_len,if_neg l];have a:(b.sty s).nc=b.nc:=by unfold Bk.nc;rw[b.sty_len]
 rw[a];have o:b.cs[s.1.toNat]?=some (b.cas s.1.toNat):=by simp[Bk.cas,getD_eq_getElem?_getD,f.cl]
 have j:{ b.cas s.1.toNat with af:=ZH s.2 (b.cas s.1.toNat).af }∈(b.sty s).cs:=mem_of_getElem? (i:=s.1.toNat) (by show(b.cs.set _ _)[_]?=_;rw[getElem?_set,if_pos rfl,if_pos f.cl]);refine Qvv (YE (g.ri _ j) (λ n q=>by have:=g.af _ j n q;rwa [a]at this) (λ m e=>by cases e)) h o
def Bk.FrL.csF{nameB:ByteArray->Bool}{l:List (Int×Int)}:∀{b:Bk},b.csF nameB=0->b.Ok1->b.FrL l->(b.stys l).csF nameB=0:=by
 induction l with
 |nil=>exact λ h _ _=>h
 |cons x l e=>exact λ h d a=>e (Bk.sty_csF h d a.1) (d.sty a.1) a.2
def Bk.FrL.flaw{nameB:ByteArray->Bool}{l:List (Int×Int)}(a:b.flaw nameB=0)(h:b.FrL l):(b.stys l).flaw nameB=if Wq (b.stys l).A then 8 else 0:=by
 have d:=Bk.ok_of a;have f:(b.stys l).rsF nameB=b.rsF nameB:=by unfold Bk.rsF;rw[Bk.stys_rs]
 have e:b.rsF nameB=0/\b.csF nameB=0:=by
  unfold Bk.flaw at a;split at a
  .rename_i h1;split at a
   .rename_i h2;exact⟨h1,h2⟩
   .rename_i h2;exact absurd a h2
  .rename_i h1;exact absurd a h1
 unfold Bk.flaw;rw[f,if_pos e.1,if_pos (Bk.FrL.csF e.2 d.ok1 h)]
def Bk.FrL.fatR{l:List (Int×Int)}(f:b.Ok)(a:(b.stys l).Ok)(h:b.FrL l)(r:Nat)(g:b.fatR r≠0):(b.stys l).fatR r=b.fatR r:=by
 rcases Qlg (b.all.countP λ o=>(b.ends o).1.getD r false) b.all.length with e|e|e
 .exact absurd e g
 .have e:b.fatR r=1:=e;rw[e,Bk.fatR_one];exact λ o d=>by rw[h.ends];exact b.fatR_one.1 e o (h.ord d)
 .have e:b.fatR r=2:=e;rw[e,Bk.fatR_two _ a];exact λ o d=>by rw[h.ends];exact(b.fatR_two f).1 e o (h.ord d)
def Bk.FrL.fatC{l:List (Int×Int)}(f:b.Ok)(a:(b.stys l).Ok)(h:b.FrL l)(r:Nat)(g:b.fatC r≠0):(b.stys l).fatC r=b.fatC r:=by
 rcases Qlg (b.all.countP λ o=>(b.ends o).2.getD r false) b.all.length with e|e|e
 .exact absurd e g
 .have e:b.fatC r=1:=e;rw[e,Bk.fatC_one];exact λ o d=>by rw[h.ends];exact b.fatC_one.1 e o (h.ord d)
 .have e:b.fatC r=2:=e;rw[e,Bk.fatC_two _ a];exact λ o d=>by rw[h.ends];exact(b.fatC_two f).1 e o (h.ord d)
end Go.TM

