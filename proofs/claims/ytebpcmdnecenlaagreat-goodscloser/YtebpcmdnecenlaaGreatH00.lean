/- A part of the proof: lemmas that the last text uses. No conditions of its own. -/
import Derived.Conc.Own
import Derived.RunT
import Derived.Orders
set_option linter.unusedSimpArgs false
set_option linter.unusedVariables false
namespace Go
def Value.single:Value->Bool
 | .agg _ | .tuple _=>false
 | _=>true
end Go
namespace Go.TM
inductive Res where
 | obj (b:Nat) (o:Obj)
 | cell (b i:Nat) (v:Value) (T:TypeId) (n:Nat)
def Res.blk:Res->Nat
 | .obj b _=>b
 | .cell b _ _ _ _=>b
def Res.ok (w:World):Res->Prop
 | .obj b o=>w.heap[b]?=some o
 | .cell b i v T n=>∃c,w.heap[b]?=some (.cells c T (0,0))/\c.size=n/\c[i]?=some v
def Res.apart:Res->Res->Prop
 | .cell b i _ _ _,.cell c j _ _ _=>b≠c\/i≠j
 | r,s=>r.blk≠s.blk
structure View (T:Type) where
 I:Nat->Option Obj
 M:List Res
 tok:T
variable {T:Type}
structure View.ok (Z:View T) (w:World):Prop where
 imm:∀b o,Z.I b=some o->w.heap[b]?=some o
 held:∀r∈Z.M,r.ok w
 apart:Z.M.Pairwise Res.apart
 sep:∀r∈Z.M,Z.I r.blk=none
def View.canW (Z:View T):Loc->Prop
 | .cell a=>(∃c t fr,Res.obj a.block (.cells c t fr)∈Z.M/\a.off<c.size)\/(∃v t n,Res.cell a.block a.off v t n∈Z.M)
 | .obj b=>∃o,Res.obj b o∈Z.M
 | _=>False
def View.canR (Z:View T):Loc->Prop
 | .cell a=>Z.canW (.cell a)\/∃c t fr,Z.I a.block=some (.cells c t fr)/\a.off<c.size
 | .obj b=>Z.canW (.obj b)\/∃o,Z.I b=some o
 | _=>False
def Loc.new (w:World):Loc->Prop
 | .cell a=>w.heap.size<=a.block
 | .obj b=>w.heap.size<=b
 | _=>False
def Mark.still:Mark->Bool
 | .acquire _ | .release _ | .releaseMerge _ | .disable | .enable | .read _ | .write _=>false
 | _=>true
def EvOk (Z:View T) (w:World) (e:Event):Prop:=
 match e.loc with
 | .cell a=>e.sync=false/\(if e.write then Z.canW (.cell a)\/Loc.new w (.cell a) else Z.canR (.cell a)\/Loc.new w (.cell a))
 | .obj b=>e.sync=false/\(if e.write then Z.canW (.obj b)\/Loc.new w (.obj b) else Z.canR (.obj b)\/Loc.new w (.obj b))
 | .mark m=>Mark.still m=true
 | _=>False
structure Guar (Z:View T) (w w':World) (Z':View T):Prop where
 os:w'.os=w.os
 tape:w'.tape=w.tape
 output:w'.output=w.output
 size:w.heap.size<=w'.heap.size
 cells:∀b c t fr,w.heap[b]?=some (.cells c t fr)->∃c' fr',w'.heap[b]?=some (.cells c' t fr')/\c'.size=c.size/\(∀i,¬Z.canW (.cell ⟨b,i,none⟩)->c'[i]?=c[i]?)/\(fr'=fr\/(Z.canW (.obj b)/\∀i,i<c.size->Z.canW (.cell ⟨b,i,none⟩)))
 objs:∀b o,w.heap[b]?=some o->(∀c t fr,o≠.cells c t fr)->¬Z.canW (.obj b)->w'.heap[b]?=some o
 cw:∀l,Z'.canW l->Z.canW l\/Loc.new w l
 cr:∀l,Z'.canR l->Z.canR l\/Loc.new w l
theorem Guar.refl (Z:View T) (w:World):Guar Z w w Z:=
 ⟨rfl,rfl,rfl,Nat.le_refl _,λ _ c _ fr h=>⟨c,fr,h,rfl,λ _ _=>rfl,.inl rfl⟩,λ _ _ h _ _=>h,λ _ h=>.inl h,λ _ h=>.inl h⟩
theorem Loc.new_mono {w w':World} (h:w.heap.size<=w'.heap.size) {l:Loc} (hl:Loc.new w' l):Loc.new w l:=by
 cases l <;> simp_all [Loc.new] <;> omega
theorem not_new_of_cell {w:World} {b:Nat} {o:Obj} (h:w.heap[b]?=some o) (i:Nat):¬Loc.new w (.cell ⟨b,i,none⟩):=by
 have:=(Array.getElem?_eq_some_iff.1 h).1
 simp [Loc.new];omega
theorem not_new_of_obj {w:World} {b:Nat} {o:Obj} (h:w.heap[b]?=some o):¬Loc.new w (.obj b):=by
 have:=(Array.getElem?_eq_some_iff.1 h).1
 simp [Loc.new];omega
theorem Guar.trans {Z Z1 Z2:View T} {w w_1 w_2:World} (h:Guar Z w w_1 Z1) (k:Guar Z1 w_1 w_2 Z2):Guar Z w w_2 Z2:=by
 refine⟨k.os.trans h.os,k.tape.trans h.tape,k.output.trans h.output,Nat.le_trans h.size k.size,?_,?_,?_,?_⟩
 ·intro b c t fr hb
  obtain⟨c_1,f1,h_1,hs_1,hc_1,hf_1⟩:=h.cells b c t fr hb
  obtain⟨c_2,f2,h_2,hs2,hc_2,hf_2⟩:=k.cells b c_1 t f1 h_1
  refine⟨c_2,f2,h_2,hs2.trans hs_1,λ i hi=>?_,?_⟩
  ·rw [hc_2 i λ hw=>?_,hc_1 i hi]
   rcases h.cw _ hw with hw | hw
   ·exact hi hw
   ·exact not_new_of_cell hb i hw
  ·rcases hf_2 with rfl | ⟨ho,hi⟩
   ·exact hf_1
   ·refine .inr ⟨?_,λ i hlt=>?_⟩
    ·rcases h.cw _ ho with hw | hw
     ·exact hw
     ·exact absurd hw (not_new_of_obj hb)
    ·rcases h.cw _ (hi i (by rw [hs_1];exact hlt)) with hw | hw
     ·exact hw
     ·exact absurd hw (not_new_of_cell hb i)
 ·intro b o hb hne hw
  have h_1:=h.objs b o hb hne hw
  refine k.objs b o h_1 hne λ hw'=>?_
  rcases h.cw _ hw' with hw' | hw'
  ·exact hw hw'
  ·exact not_new_of_obj hb hw'
 ·intro l hl
  rcases k.cw l hl with hl | hl
  ·exact h.cw l hl
  ·exact .inr (Loc.new_mono h.size hl)
 ·intro l hl
  rcases k.cr l hl with hl | hl
  ·exact h.cr l hl
  ·exact .inr (Loc.new_mono h.size hl)
theorem EvOk.of {Z Z1:View T} {w w_1:World} (h:Guar Z w w_1 Z1) {e:Event} (he:EvOk Z1 w_1 e):EvOk Z w e:=by
 obtain⟨loc,wr,sy⟩:=e
 cases loc with
 | cell a=>
  simp only [EvOk] at he ⊢
  refine⟨he.1,?_⟩
  have h2:=he.2
  split at h2 <;> rename_i hwr <;> simp only [hwr,if_true,if_false,Bool.false_eq_true]
  ·rcases h2 with h2 | h2
   ·exact h.cw _ h2
   ·exact .inr (Loc.new_mono h.size h2)
  ·rcases h2 with h2 | h2
   ·exact h.cr _ h2
   ·exact .inr (Loc.new_mono h.size h2)
 | obj b=>
  simp only [EvOk] at he ⊢
  refine⟨he.1,?_⟩
  have h2:=he.2
  split at h2 <;> rename_i hwr <;> simp only [hwr,if_true,if_false,Bool.false_eq_true]
  ·rcases h2 with h2 | h2
   ·exact h.cw _ h2
   ·exact .inr (Loc.new_mono h.size h2)
  ·rcases h2 with h2 | h2
   ·exact h.cr _ h2
   ·exact .inr (Loc.new_mono h.size h2)
 | output=>exact he
 | goroutines=>exact he
 | mark m=>exact he
def View.sees (Z:View T) (a:Addr) (v:Value):Prop:=
 a.spot=none/\((∃c t fr,(Z.I a.block=some (.cells c t fr)\/Res.obj a.block (.cells c t fr)∈Z.M)/\c[a.off]?=some v)\/(∃t n,Res.cell a.block a.off v t n∈Z.M))
def View.has (Z:View T) (b:Nat) (o:Obj):Prop:=Z.I b=some o\/Res.obj b o∈Z.M
inductive Upd (a:Addr) (v:Value):List Res->List Res->Prop
 | obj {c t M}:a.spot=none->a.off<c.size->Upd a v (.obj a.block (.cells c t (0,0))::M) (.obj a.block (.cells (c.setIfInBounds a.off v) t (0,0))::M)
 | cell {u t n M}:a.spot=none->Upd a v (.cell a.block a.off u t n::M) (.cell a.block a.off v t n::M)
 | there {r M M'}:Upd a v M M'->Upd a v (r::M) (r::M')
inductive UpdObj (b:Nat) (o':Obj):Obj->List Res->List Res->Prop
 | here {o M}:UpdObj b o' o (.obj b o::M) (.obj b o'::M)
 | there {o r M M'}:UpdObj b o' o M M'->UpdObj b o' o (r::M) (r::M')
def Obj.shapeOf:Obj->Option (TypeId×Nat)
 | .cells c t _=>some (t,c.size)
 | _=>none
def Obj.isCells:Obj->Bool
 | .cells ..=>true
 | _=>false
def View.put (Z:View T) (b:Nat) (o:Obj):View T:={ Z with M:=.obj b o::Z.M }
def View.free (Z:View T) (b:Nat):Prop:=Z.I b=none/\∀r∈Z.M,r.blk≠b
def SemV (P:Program) {α:Type}:Sem α->(α->View T->Prop)->View T->Prop
 | .pure a,Q,Z=>Q a Z
 | .load m a k,Q,Z=>m=.plain/\∃v,Z.sees a v/\SemV P (k v) Q Z
 | .store m a v k,Q,Z=>m=.plain/\v.single=true/\∃M',Upd a v Z.M M'/\SemV P k Q { Z with M:=M' }
 | .new o k,Q,Z=>∀b,Z.free b->SemV P (k b) Q (Z.put b o)
 | .shape r k,Q,Z=>∃o,Z.has r o/\SemV P (k (Obj.shapeOf o)) Q Z
 | .freeze a n k,Q,Z=>n≠0/\∃c t M',Z.M=.obj a.block (.cells c t (0,0))::M'/\SemV P k Q { Z with M:=.obj a.block (.cells c t (a.off,a.off+n))::M' }
 | .frozen a k,Q,Z=>∃c t,Z.has a.block (.cells c t (0,0))/\SemV P (k false) Q Z
 | .getObj r k,Q,Z=>∃o,Z.has r o/\Obj.isCells o=false/\o.isChan=false/\SemV P (k o) Q Z
 | .setObj r o k,Q,Z=>∃o0 M',UpdObj r o o0 Z.M M'/\Obj.isCells o0=false/\Obj.isCells o=false/\o.isChan=false/\SemV P k Q { Z with M:=M' }
 | .choose q k,Q,Z=>if q.forced then SemV P (k 0) Q Z else ∀t,SemV P (k (q.cut t)) Q Z
 | .sys _ _,_,_=>False
 | .program k,Q,Z=>SemV P (k P) Q Z
 | .mark m k,Q,Z=>Mark.still m=true/\SemV P k Q Z
 | .halt _,_,_=>False
theorem View.sees_cell {Z:View T} {w:World} (h:Z.ok w) {a:Addr} {v:Value} (hs:Z.sees a v):w.cell? a=some v/\Z.canR (.cell a):=by
 obtain⟨hsp,⟨c,t,fr,hb,hc⟩ | ⟨t,n,hm⟩⟩:=hs
 ·have hlt:a.off<c.size:=(Array.getElem?_eq_some_iff.1 hc).1
  rcases hb with hb | hb
  ·exact⟨by simp [World.cell?,h.imm _ _ hb,hsp,hc],.inr ⟨c,t,fr,hb,hlt⟩⟩
  ·have:=h.held _ hb
   simp only [Res.ok] at this
   exact⟨by simp [World.cell?,this,hsp,hc],.inl (.inl ⟨c,t,fr,hb,hlt⟩)⟩
 ·obtain⟨c,hb,_,hc⟩:=h.held _ hm
  exact⟨by simp [World.cell?,hb,hsp,hc],.inl (.inr ⟨v,t,n,hm⟩)⟩
theorem View.has_heap {Z:View T} {w:World} (h:Z.ok w) {b:Nat} {o:Obj} (hs:Z.has b o):w.heap[b]?=some o:=by
 rcases hs with hs | hs
 ·exact h.imm _ _ hs
 ·exact h.held _ hs
theorem setCell_heap (w:World) (a:Addr) (v:Value) (c:Array Value) (t:TypeId) (fr:Nat×Nat) (hsp:a.spot=none) (h:w.heap[a.block]?=some (.cells c t fr)) :
  (w.setCell a v).heap[a.block]?=some (.cells (c.setIfInBounds a.off v) t fr):=by
 simp [World.setCell,Array.getElem?_modify,h,hsp]
theorem setCell_heap_ne (w:World) (a:Addr) (v:Value) {b:Nat} (h:b≠a.block):(w.setCell a v).heap[b]?=w.heap[b]?:=by
 simp only [World.setCell,Array.getElem?_modify]
 rw [if_neg (λ e=>h e.symm)]
theorem setCell_size (w:World) (a:Addr) (v:Value):(w.setCell a v).heap.size=w.heap.size:=by simp [World.setCell]
inductive Like (a:Addr) (v:Value):Res->Res->Prop
 | obj {b c t}:b=a.block->a.spot=none->a.off<c.size->Like a v (.obj b (.cells c t (0,0))) (.obj b (.cells (c.setIfInBounds a.off v) t (0,0)))
 | cell {b i u t n}:b=a.block->i=a.off->a.spot=none->Like a v (.cell b i u t n) (.cell b i v t n)
theorem Upd.split {a:Addr} {v:Value} {M M':List Res} (h:Upd a v M M'):∃M₁ r r' M₂,M=M₁++r::M₂/\M'=M₁++r'::M₂/\Like a v r r':=by
 induction h with
 | obj hsp hlt=>exact⟨[],_,_,_,rfl,rfl,.obj rfl hsp hlt⟩
 | cell hsp=>exact⟨[],_,_,_,rfl,rfl,.cell rfl rfl hsp⟩
 | there _ ih=>obtain⟨M₁,r,r',M₂,rfl,rfl,hl⟩:=ih;exact⟨_::M₁,r,r',M₂,rfl,rfl,hl⟩
theorem UpdObj.split {b:Nat} {o' o:Obj} {M M':List Res} (h:UpdObj b o' o M M'):∃M₁ M₂,M=M₁++.obj b o::M₂/\M'=M₁++.obj b o'::M₂:=by
 induction h with
 | here=>exact⟨[],_,rfl,rfl⟩
 | there _ ih=>obtain⟨M₁,M₂,rfl,rfl⟩:=ih;exact⟨_::M₁,M₂,rfl,rfl⟩
theorem Like.blk {a:Addr} {v:Value} {r s:Res} (h:Like a v r s):s.blk=r.blk:=by cases h <;> rfl
theorem Like.blk' {a:Addr} {v:Value} {r s:Res} (h:Like a v r s):r.blk=a.block:=by cases h <;> simp_all [Res.blk]
theorem Like.apart {a:Addr} {v:Value} {r s:Res} (h:Like a v r s) (x:Res):s.apart x↔r.apart x:=by
 cases h <;> cases x <;> simp [Res.apart,Res.blk]
theorem Res.apart_symm {r s:Res} (h:r.apart s):s.apart r:=by
 cases r <;> cases s <;> simp_all [Res.apart,Res.blk,eq_comm]
theorem Like.apart' {a:Addr} {v:Value} {r s:Res} (h:Like a v r s) (x:Res):x.apart s↔x.apart r:=
 ⟨λ k=>Res.apart_symm ((h.apart x).1 (Res.apart_symm k)),λ k=>Res.apart_symm ((h.apart x).2 (Res.apart_symm k))⟩
def Res.lets:Res->Loc->Prop
 | .obj b (.cells c _ _),.cell a=>a.block=b/\a.off<c.size
 | .cell b i _ _ _,.cell a=>a.block=b/\a.off=i
 | .obj b _,.obj b'=>b'=b
 | _,_=>False
theorem canW_iff {Z:View T} {l:Loc}:Z.canW l↔∃r∈Z.M,r.lets l:=by
 cases l with
 | cell a=>
  simp only [View.canW]
  constructor
  ·rintro (⟨c,t,fr,hm,hlt⟩ | ⟨v,t,n,hm⟩)
   ·exact⟨_,hm,rfl,hlt⟩
   ·exact⟨_,hm,rfl,rfl⟩
  ·rintro⟨r,hr,hl⟩
   cases r with
   | obj b o=>
    cases o <;> simp only [Res.lets] at hl
    obtain⟨rfl,hlt⟩:=hl
    exact .inl ⟨_,_,_,hr,hlt⟩
   | cell b i v t n=>
    simp only [Res.lets] at hl
    obtain⟨rfl,rfl⟩:=hl
    exact .inr ⟨_,_,_,hr⟩
 | obj b=>
  simp only [View.canW]
  constructor
  ·rintro⟨o,h⟩;exact⟨_,h,by cases o <;> rfl⟩
  ·rintro⟨r,hr,hl⟩
   cases r with
   | obj b' o=>refine⟨o,?_⟩;cases o <;> (simp only [Res.lets] at hl;exact hl ▸ hr)
   | cell b' i v t n=>exact hl.elim
 | output=>simp [View.canW];intro r _ h;cases r with | obj b o=>cases o <;> exact h | cell=>exact h
 | goroutines=>simp [View.canW];intro r _ h;cases r with | obj b o=>cases o <;> exact h | cell=>exact h
 | mark _=>simp [View.canW];intro r _ h;cases r with | obj b o=>cases o <;> exact h | cell=>exact h
theorem Like.lets {a:Addr} {v:Value} {r s:Res} (h:Like a v r s) (l:Loc):s.lets l↔r.lets l:=by
 cases h <;> cases l <;> simp [Res.lets]
theorem Like.canAt {a:Addr} {v:Value} {r s:Res} (h:Like a v r s):r.lets (.cell a):=by
 cases h <;> simp_all [Res.lets]
theorem canR_iff {Z:View T} {l:Loc}:Z.canR l↔(∃r∈Z.M,r.lets l)\/(match l with | .cell a=>∃c t fr,Z.I a.block=some (.cells c t fr)/\a.off<c.size | .obj b=>∃o,Z.I b=some o | _=>False):=by
 have:=canW_iff (Z:=Z) (l:=l)
 cases l <;> simp only [View.canR,<- this] <;> simp [View.canW]
theorem ok_setCell {Z:View T} {w:World} (h:Z.ok w) {a:Addr} {v:Value} {M':List Res} (hu:Upd a v Z.M M') :
  (∃u,w.cell? a=some u)/\w.frozen? a=false/\Z.canW (.cell a)/\View.ok { Z with M:=M' } (w.setCell a v)/\Guar Z w (w.setCell a v) { Z with M:=M' }:=by
 obtain⟨M₁,r,r',M₂,hM,rfl,hl⟩:=hu.split
 have hr:r∈Z.M:=by rw [hM];simp
 have hcw:Z.canW (.cell a):=canW_iff.2 ⟨r,hr,hl.canAt⟩
 have hok:=h.held r hr
 have hsp:a.spot=none:=by cases hl <;> assumption
 obtain⟨c,t,hb,hlt⟩:∃c t,w.heap[a.block]?=some (.cells c t (0,0))/\a.off<c.size:=by
  cases hl with
  | obj e _ hlt=>subst e;exact⟨_,_,hok,hlt⟩
  | cell e e' _=>subst e;subst e';obtain⟨c,hb,_,hc⟩:=hok;exact⟨c,_,hb,(Array.getElem?_eq_some_iff.1 hc).1⟩
 have hset:=setCell_heap w a v c t (0,0) hsp hb
 have hlets:∀l,(∃s∈M₁++r'::M₂,s.lets l)↔∃s∈Z.M,s.lets l:=by
  intro l
  rw [hM]
  simp only [List.mem_append,List.mem_cons]
  constructor
  ·rintro⟨s,hs | rfl | hs,hl'⟩
   ·exact⟨s,.inl hs,hl'⟩
   ·exact⟨r,.inr (.inl rfl),(hl.lets l).1 hl'⟩
   ·exact⟨s,.inr (.inr hs),hl'⟩
  ·rintro⟨s,hs | rfl | hs,hl'⟩
   ·exact⟨s,.inl hs,hl'⟩
   ·exact⟨r',.inr (.inl rfl),(hl.lets l).2 hl'⟩
   ·exact⟨s,.inr (.inr hs),hl'⟩
 have hap:=h.apart
 rw [hM] at hap
 refine⟨⟨c[a.off],by simp [World.cell?,hb,hsp,hlt]⟩,by simp [World.frozen?,hb],hcw,⟨?_,?_,?_,?_⟩,?_⟩
 ·intro b o hI
  have hne:b≠a.block:=by
   intro e
   have:=h.sep r hr
   rw [hl.blk',<- e,hI] at this
   cases this
  rw [setCell_heap_ne _ _ _ hne]
  exact h.imm b o hI
 ·intro s hs
  simp only [List.mem_append,List.mem_cons] at hs
  have other:∀s,s∈Z.M->r.apart s->s.ok (w.setCell a v):=by
   intro s hs hap
   have hso:=h.held s hs
   cases s with
   | obj b o=>
    have hne:b≠a.block:=by
     cases hl <;> simp_all [Res.apart,Res.blk] <;> exact λ e=>hap e.symm
    simp only [Res.ok] at hso ⊢
    rw [setCell_heap_ne _ _ _ hne];exact hso
   | cell b i u t' n=>
    obtain⟨c',hb',hn,hc'⟩:=hso
    by_cases hne:b=a.block
    ·subst hne
     cases hl with
     | obj e _ _=>exact absurd e.symm (by simpa [Res.apart,Res.blk] using λ e=>hap e.symm)
     | cell e e' _=>
      have hi:i≠a.off:=by
       simp [Res.apart] at hap
       rcases hap with hap | hap
       ·exact absurd e hap
       ·exact λ x=>hap (e'.trans x.symm)
      rw [hb] at hb'
      cases hb'
      refine⟨c.setIfInBounds a.off v,hset,by simpa using hn,?_⟩
      rw [Array.getElem?_setIfInBounds_ne (λ x=>hi x.symm)];exact hc'
    ·exact⟨c',by rw [setCell_heap_ne _ _ _ hne];exact hb',hn,hc'⟩
  rw [List.pairwise_append,List.pairwise_cons] at hap
  rcases hs with hs | rfl | hs
  ·exact other s (by rw [hM];simp [hs]) (Res.apart_symm (hap.2.2 s hs r (by simp)))
  ·cases hl with
   | obj e _ _=>subst e;simp only [Res.ok] at hok ⊢;rw [hok] at hb;cases hb;exact hset
   | cell e e' _=>
    subst e;subst e'
    obtain⟨c',hb',hn,hc'⟩:=hok
    rw [hb] at hb';cases hb'
    exact⟨_,hset,by simpa using hn,by rw [Array.getElem?_setIfInBounds_self_of_lt hlt]⟩
  ·exact other s (by rw [hM];simp [hs]) (hap.2.1.1 s hs)
 ·show List.Pairwise Res.apart (M₁++r'::M₂)
  rw [List.pairwise_append,List.pairwise_cons] at hap ⊢
  refine⟨hap.1,⟨λ s hs=>(hl.apart s).2 (hap.2.1.1 s hs),hap.2.1.2⟩,λ s hs x hx=>?_⟩
  rcases List.mem_cons.1 hx with rfl | hx
  ·exact (hl.apart' s).2 (hap.2.2 s hs r (by simp))
  ·exact hap.2.2 s hs x (by simp [hx])
 ·intro s hs
  show Z.I s.blk=none
  simp only [List.mem_append,List.mem_cons] at hs
  rcases hs with hs | rfl | hs
  ·exact h.sep s (by rw [hM];simp [hs])
  ·rw [hl.blk];exact h.sep r hr
  ·exact h.sep s (by rw [hM];simp [hs])
 ·refine⟨rfl,rfl,rfl,by rw [setCell_size];exact Nat.le_refl _,?_,?_,?_,?_⟩
  ·intro b c' t' fr hb'
   by_cases hne:b=a.block
   ·subst hne
    rw [hb] at hb';cases hb'
    refine⟨_,_,hset,by simp,λ i hi=>?_,.inl rfl⟩
    rw [Array.getElem?_setIfInBounds_ne]
    rintro rfl
    refine hi (canW_iff.2 ⟨r,hr,?_⟩)
    have:=hl.canAt
    cases hl <;> simp_all [Res.lets]
   ·exact⟨c',fr,by rw [setCell_heap_ne _ _ _ hne];exact hb',rfl,λ _ _=>rfl,.inl rfl⟩
  ·intro b o ho hne _
   by_cases e:b=a.block
   ·subst e;rw [hb] at ho;cases ho;exact absurd rfl (hne _ _ _)
   ·rw [setCell_heap_ne _ _ _ e];exact ho
  ·intro l hl'
   rw [canW_iff] at hl' ⊢
   exact .inl ((hlets l).1 hl')
  ·intro l hl'
   rw [canR_iff] at hl' ⊢
   exact .inl (hl'.imp (hlets l).1 id)
def World.plus (w:World) (o:Obj):World:={ w with heap:=w.heap.push o }
theorem ok_new {Z:View T} {w:World} (h:Z.ok w) (o:Obj) :
  Z.free w.heap.size/\View.ok (Z.put w.heap.size o) (World.plus w o)/\Guar Z w (World.plus w o) (Z.put w.heap.size o):=by
 have hold:∀b,b<w.heap.size->(World.plus w o).heap[b]?=w.heap[b]?:=λ b hb=>by
  simp only [World.plus,Array.getElem?_push];rw [if_neg (by omega)]
 have hlt:∀r∈Z.M,r.blk<w.heap.size:=by
  intro r hr
  have:=h.held r hr
  cases r with
  | obj b o=>exact (Array.getElem?_eq_some_iff.1 this).1
  | cell b i v t n=>obtain⟨c,hb,_⟩:=this;exact (Array.getElem?_eq_some_iff.1 hb).1
 have hfree:Z.free w.heap.size:=by
  refine⟨?_,λ r hr e=>by have:=hlt r hr;omega⟩
  cases e:Z.I w.heap.size with
  | none=>rfl
  | some x=>have:=(Array.getElem?_eq_some_iff.1 (h.imm _ _ e)).1;omega
 have hne:∀b o',Z.I b=some o'->b<w.heap.size:=λ b o' e=>(Array.getElem?_eq_some_iff.1 (h.imm _ _ e)).1
 refine⟨hfree,⟨λ b o' e=>by rw [hold _ (hne b o' e)];exact h.imm b o' e,?_,?_,?_⟩,?_⟩
 ·intro r hr
  rcases List.mem_cons.1 hr with rfl | hr
  ·simp [Res.ok,World.plus]
  ·have:=h.held r hr
   cases r with
   | obj b o'=>exact (hold b (hlt _ hr)).trans this
   | cell b i v t n=>obtain⟨c,hb,x⟩:=this;exact⟨c,(hold b (hlt _ hr)).trans hb,x⟩
 ·refine List.pairwise_cons.2 ⟨λ r hr=>?_,h.apart⟩
  have:=hlt r hr
  cases r <;> simp_all [Res.apart,Res.blk] <;> omega
 ·intro r hr
  rcases List.mem_cons.1 hr with rfl | hr
  ·exact hfree.1
  ·exact h.sep r hr
 ·refine⟨rfl,rfl,rfl,by simp [World.plus],?_,?_,?_,?_⟩
  ·intro b c t fr hb
   exact⟨c,fr,by rw [hold _ (Array.getElem?_eq_some_iff.1 hb).1];exact hb,rfl,λ _ _=>rfl,.inl rfl⟩
  ·intro b o' hb _ _
   rw [hold _ (Array.getElem?_eq_some_iff.1 hb).1];exact hb
  ·intro l hl
   rw [canW_iff] at hl ⊢
   obtain⟨r,hr,hl⟩:=hl
   rcases List.mem_cons.1 hr with rfl | hr
   ·refine .inr ?_
    cases l <;> cases o <;> simp_all [Res.lets,Loc.new]
   ·exact .inl ⟨r,hr,hl⟩
  ·intro l hl
   rw [canR_iff] at hl ⊢
   rcases hl with⟨r,hr,hl⟩ | hl
   ·rcases List.mem_cons.1 hr with rfl | hr
    ·refine .inr ?_
     cases l <;> cases o <;> simp_all [Res.lets,Loc.new]
    ·exact .inl (.inl ⟨r,hr,hl⟩)
   ·exact .inl (.inr hl)
theorem ok_setObj {Z:View T} {w:World} (h:Z.ok w) {b:Nat} {o' o:Obj} {M':List Res} (hu:UpdObj b o' o Z.M M') (h1:Obj.isCells o=false) (h2:Obj.isCells o'=false) :
  w.heap[b]?=some o/\Z.canW (.obj b)/\View.ok { Z with M:=M' } { w with heap:=w.heap.setIfInBounds b o' }/\Guar Z w { w with heap:=w.heap.setIfInBounds b o' } { Z with M:=M' }:=by
 obtain⟨M₁,M₂,hM,rfl⟩:=hu.split
 have hr:Res.obj b o∈Z.M:=by rw [hM];simp
 have hb:w.heap[b]?=some o:=h.held _ hr
 have hlt:=(Array.getElem?_eq_some_iff.1 hb).1
 have hcw:Z.canW (.obj b):=⟨o,hr⟩
 have hap:=h.apart
 rw [hM] at hap
 have hold:∀x,x≠b->(w.heap.setIfInBounds b o')[x]?=w.heap[x]?:=λ x hx=>by
  rw [Array.getElem?_setIfInBounds_ne (λ e=>hx e.symm)]
 have hlets:∀l,(Res.obj b o').lets l↔(Res.obj b o).lets l:=by
  intro l
  cases o <;> cases o' <;> simp_all [Obj.isCells] <;> cases l <;> simp [Res.lets]
 have hall:∀l,(∃s∈M₁++Res.obj b o'::M₂,s.lets l)↔∃s∈Z.M,s.lets l:=by
  intro l
  rw [hM]
  simp only [List.mem_append,List.mem_cons]
  constructor
  ·rintro⟨s,hs | rfl | hs,hl'⟩
   ·exact⟨s,.inl hs,hl'⟩
   ·exact⟨_,.inr (.inl rfl),(hlets l).1 hl'⟩
   ·exact⟨s,.inr (.inr hs),hl'⟩
  ·rintro⟨s,hs | rfl | hs,hl'⟩
   ·exact⟨s,.inl hs,hl'⟩
   ·exact⟨_,.inr (.inl rfl),(hlets l).2 hl'⟩
   ·exact⟨s,.inr (.inr hs),hl'⟩
 have ap1:∀x,(Res.obj b o').apart x↔(Res.obj b o).apart x:=λ x=>by cases x <;> simp [Res.apart,Res.blk]
 refine⟨hb,hcw,⟨?_,?_,?_,?_⟩,?_⟩
 ·intro x ox hI
  have hne:x≠b:=by rintro rfl;have:=h.sep _ hr;simp only [Res.blk] at this;rw [hI] at this;cases this
  show (w.heap.setIfInBounds b o')[x]?=_
  rw [hold x hne];exact h.imm x ox hI
 ·intro s hs
  have other:∀s,s∈Z.M->(Res.obj b o).apart s->s.ok { w with heap:=w.heap.setIfInBounds b o' }:=by
   intro s hs hap
   have hso:=h.held s hs
   cases s with
   | obj x ox=>
    have hne:x≠b:=by simp [Res.apart,Res.blk] at hap;exact λ e=>hap e.symm
    show (w.heap.setIfInBounds b o')[x]?=_
    rw [hold x hne];exact hso
   | cell x i u t n=>
    have hne:x≠b:=by simp [Res.apart,Res.blk] at hap;exact λ e=>hap e.symm
    obtain⟨c',hb',hn,hc'⟩:=hso
    exact⟨c',(hold x hne).trans hb',hn,hc'⟩
  simp only [List.mem_append,List.mem_cons] at hs
  rw [List.pairwise_append,List.pairwise_cons] at hap
  rcases hs with hs | rfl | hs
  ·exact other s (by rw [hM];simp [hs]) (Res.apart_symm (hap.2.2 s hs _ (by simp)))
  ·show (w.heap.setIfInBounds b o')[b]?=_
   rw [Array.getElem?_setIfInBounds_self_of_lt hlt]
  ·exact other s (by rw [hM];simp [hs]) (hap.2.1.1 s hs)
 ·show List.Pairwise Res.apart (M₁++Res.obj b o'::M₂)
  rw [List.pairwise_append,List.pairwise_cons] at hap ⊢
  refine⟨hap.1,⟨λ s hs=>(ap1 s).2 (hap.2.1.1 s hs),hap.2.1.2⟩,λ s hs x hx=>?_⟩
  rcases List.mem_cons.1 hx with rfl | hx
  ·exact Res.apart_symm ((ap1 s).2 (Res.apart_symm (hap.2.2 s hs _ (by simp))))
  ·exact hap.2.2 s hs x (by simp [hx])
 ·intro s hs
  show Z.I s.blk=none
  simp only [List.mem_append,List.mem_cons] at hs
  rcases hs with hs | rfl | hs
  ·exact h.sep s (by rw [hM];simp [hs])
  ·exact (h.sep _ hr:Z.I b=none)
  ·exact h.sep s (by rw [hM];simp [hs])
 ·refine⟨rfl,rfl,rfl,by simp,?_,?_,?_,?_⟩
  ·intro x c' t' fr hb'
   by_cases e:x=b
   ·subst e;rw [hb] at hb';cases hb';simp [Obj.isCells] at h1
   ·exact⟨c',fr,(hold x e).trans hb',rfl,λ _ _=>rfl,.inl rfl⟩
  ·intro x ox ho hne hw
   by_cases e:x=b
   ·subst e;exact absurd hcw hw
   ·exact (hold x e).trans ho
  ·intro l hl'
   rw [canW_iff] at hl' ⊢
   exact .inl ((hall l).1 hl')
  ·intro l hl'
   rw [canR_iff] at hl' ⊢
   exact .inl (hl'.imp (hall l).1 id)
theorem freeze_heap (w:World) (a:Addr) (n:Nat) (hn:n≠0) (c:Array Value) (t:TypeId) (h:w.heap[a.block]?=some (.cells c t (0,0))):(w.freeze a n).heap[a.block]?=some (.cells c t (a.off,a.off+n)):=by
 simp [World.freeze,hn,Array.getElem?_modify,h]
theorem freeze_heap_ne (w:World) (a:Addr) (n:Nat) {b:Nat} (h:b≠a.block):(w.freeze a n).heap[b]?=w.heap[b]?:=by
 unfold World.freeze
 split
 ·rfl
 ·simp only [Array.getElem?_modify]
  rw [if_neg (λ e=>h e.symm)]
theorem freeze_size (w:World) (a:Addr) (n:Nat):(w.freeze a n).heap.size=w.heap.size:=by unfold World.freeze;split <;> simp
theorem freeze_os (w:World) (a:Addr) (n:Nat):(w.freeze a n).os=w.os/\(w.freeze a n).tape=w.tape/\(w.freeze a n).output=w.output:=by unfold World.freeze;split <;> exact⟨rfl,rfl,rfl⟩
theorem ok_freeze {Z:View T} {w:World} (h:Z.ok w) {a:Addr} {n:Nat} (hn:n≠0) {c:Array Value} {t:TypeId} {M':List Res} (hM:Z.M=.obj a.block (.cells c t (0,0))::M') :
  View.ok { Z with M:=.obj a.block (.cells c t (a.off,a.off+n))::M' } (w.freeze a n)/\Guar Z w (w.freeze a n) { Z with M:=.obj a.block (.cells c t (a.off,a.off+n))::M' }:=by
 have hr:Res.obj a.block (.cells c t (0,0))∈Z.M:=by rw [hM];simp
 have hb:w.heap[a.block]?=some (.cells c t (0,0)):=h.held _ hr
 have hap:=h.apart
 rw [hM,List.pairwise_cons] at hap
 have hlets:∀l,(Res.obj a.block (.cells c t (a.off,a.off+n))).lets l↔(Res.obj a.block (.cells c t (0,0))).lets l:=λ l=>by cases l <;> rfl
 have hall:∀l,(∃s∈Res.obj a.block (.cells c t (a.off,a.off+n))::M',s.lets l)↔∃s∈Z.M,s.lets l:=by
  intro l
  rw [hM]
  constructor
  ·rintro⟨s,hs,hl⟩
   rcases List.mem_cons.1 hs with rfl | hs
   ·exact⟨_,List.mem_cons_self ..,(hlets l).1 hl⟩
   ·exact⟨s,List.mem_cons_of_mem _ hs,hl⟩
  ·rintro⟨s,hs,hl⟩
   rcases List.mem_cons.1 hs with rfl | hs
   ·exact⟨_,List.mem_cons_self ..,(hlets l).2 hl⟩
   ·exact⟨s,List.mem_cons_of_mem _ hs,hl⟩
 have ne:∀r∈M',r.blk≠a.block:=λ r hr' e=>by
  have:=hap.1 r hr'
  cases r <;> simp_all [Res.apart,Res.blk]
 refine⟨⟨λ b o hI=>?_,λ s hs=>?_,?_,λ s hs=>?_⟩,?_⟩
 ·have:b≠a.block:=by rintro rfl;have:=h.sep _ hr;simp only [Res.blk] at this;rw [hI] at this;cases this
  rw [freeze_heap_ne _ _ _ this];exact h.imm b o hI
 ·rcases List.mem_cons.1 hs with rfl | hs
  ·exact freeze_heap w a n hn c t hb
  ·have hne:=ne s hs
   have hso:=h.held s (by rw [hM];simp [hs])
   cases s with
   | obj b o=>exact (freeze_heap_ne w a n hne).trans hso
   | cell b i v t n'=>obtain⟨c',h1,h2⟩:=hso;exact⟨c',(freeze_heap_ne w a n hne).trans h1,h2⟩
 ·show List.Pairwise Res.apart (_::M')
  rw [List.pairwise_cons]
  refine⟨λ r hr'=>?_,hap.2⟩
  have:=ne r hr'
  cases r <;> simp_all [Res.apart,Res.blk] <;> exact λ e=>this e.symm
 ·rcases List.mem_cons.1 hs with rfl | hs
  ·exact (h.sep _ hr:Z.I a.block=none)
  ·exact h.sep s (by rw [hM];simp [hs])
 ·refine⟨(freeze_os w a n).1,(freeze_os w a n).2.1,(freeze_os w a n).2.2,by rw [freeze_size];exact Nat.le_refl _,?_,?_,?_,?_⟩
  ·intro b c' t' fr hb'
   by_cases e:b=a.block
   ·subst e
    rw [hb] at hb';cases hb'
    exact⟨c,_,freeze_heap w a n hn c t hb,rfl,λ _ _=>rfl,.inr ⟨canW_iff.2 ⟨_,hr,rfl⟩,λ i hi=>canW_iff.2 ⟨_,hr,rfl,hi⟩⟩⟩
   ·exact⟨c',fr,by rw [freeze_heap_ne _ _ _ e];exact hb',rfl,λ _ _=>rfl,.inl rfl⟩
  ·intro b o ho hne _
   by_cases e:b=a.block
   ·subst e;rw [hb] at ho;cases ho;exact absurd rfl (hne _ _ _)
   ·rw [freeze_heap_ne _ _ _ e];exact ho
  ·intro l hl
   rw [canW_iff] at hl ⊢
   exact .inl ((hall l).1 hl)
  ·intro l hl
   rw [canR_iff] at hl ⊢
   exact .inl (hl.imp (hall l).1 id)
theorem ok_drawn {Z:View T} {w:World} (h:Z.ok w) (d:Nat):Z.ok { w with drawn:=d }:=⟨h.imm,h.held,h.apart,h.sep⟩
theorem guar_drawn (Z:View T) (w:World) (d:Nat):Guar Z w { w with drawn:=d } Z:=
 ⟨rfl,rfl,rfl,Nat.le_refl _,λ _ c _ fr h=>⟨c,fr,h,rfl,λ _ _=>rfl,.inl rfl⟩,λ _ _ h _ _=>h,λ _ h=>.inl h,λ _ h=>.inl h⟩
def LowE (w:World) (e:Event):Prop:=
 match e.loc with
 | .cell a=>a.block<w.heap.size
 | .obj b=>b<w.heap.size
 | _=>True
theorem LowE.mono {w w':World} {e:Event} (h:LowE w e) (hs:w.heap.size<=w'.heap.size):LowE w' e:=by
 obtain⟨loc,wr,sy⟩:=e
 cases loc <;> simp only [LowE] at h ⊢ <;> omega
theorem cell_lt {w:World} {a:Addr} {v:Value} (h:w.cell? a=some v):a.block<w.heap.size:=by
 apply Classical.byContradiction
 intro hn
 have:w.heap[a.block]?=none:=Array.getElem?_eq_none (Nat.le_of_not_lt hn)
 simp [World.cell?,this] at h
theorem SemV.sound {P:Program} {α:Type} (s:Sem α):∀{Q:α->View T->Prop} {Z:View T} {w:World} {es₀:Array Event},SemV P s Q Z->Z.ok w ->
  ∃a w' es Z',s.runT P w es₀=(.ok a w',es₀++es)/\(∀e∈es,EvOk Z w e/\LowE w' e)/\Guar Z w w' Z'/\Z'.ok w'/\Q a Z'/\Z'.tok=Z.tok:=by
 induction s with
 | pure a=>exact λ {Q Z w es₀} h ok=>⟨a,w,#[],Z,by simp [Sem.runT],by simp,.refl _ _,ok,h,rfl⟩
 | load m a k ih=>
  intro Q Z w es₀ h ok
  obtain⟨rfl,v,hs,h⟩:=h
  obtain⟨hc,hr⟩:=View.sees_cell ok hs
  obtain⟨x,w',es,Z',hrun,hev,hg,hok,hq⟩:=ih v (es₀:=es₀.push ⟨.cell a,false,false⟩) h ok
  refine⟨x,w',#[⟨.cell a,false,false⟩]++es,Z',?_,?_,hg,hok,hq⟩
  ·simp only [Sem.runT,hc]
   rw [show (Mode.plain == Mode.atomic)=false from rfl,hrun]
   simp
  ·intro e he
   rcases Array.mem_append.1 he with he | he
   ·simp at he;subst he;exact⟨⟨rfl,.inl hr⟩,Nat.lt_of_lt_of_le (cell_lt hc) hg.size⟩
   ·exact hev e he
 | store m a v k ih=>
  intro Q Z w es₀ h ok
  obtain⟨rfl,hv,M',hu,h⟩:=h
  obtain⟨⟨u,hc⟩,hf,hcw,hok1,hg1⟩:=ok_setCell ok hu
  obtain⟨x,w',es,Z',hrun,hev,hg,hok,hq⟩:=ih (es₀:=es₀.push ⟨.cell a,true,false⟩) h hok1
  refine⟨x,w',#[⟨.cell a,true,false⟩]++es,Z',?_,?_,hg1.trans hg,hok,hq⟩
  ·have:Sem.runT P (.store .plain a v k) w es₀=k.runT P (w.setCell a v) (es₀.push ⟨.cell a,true,false⟩):=by
    cases v <;> first | (simp [Value.single] at hv;done) | (simp only [Sem.runT,hc,hf];rfl)
   rw [this,hrun]
   simp
  ·intro e he
   rcases Array.mem_append.1 he with he | he
   ·simp at he;subst he;exact⟨⟨rfl,.inl hcw⟩,Nat.lt_of_lt_of_le (cell_lt hc) (hg1.trans hg).size⟩
   ·exact⟨EvOk.of hg1 (hev e he).1,(hev e he).2⟩
 | new o k ih=>
  intro Q Z w es₀ h ok
  obtain⟨hf,hok1,hg1⟩:=ok_new ok o
  obtain⟨x,w',es,Z',hrun,hev,hg,hok,hq⟩:=ih w.heap.size (es₀:=es₀) (h _ hf) hok1
  exact⟨x,w',es,Z',hrun,λ e he=>⟨EvOk.of hg1 (hev e he).1,(hev e he).2⟩,hg1.trans hg,hok,hq⟩
 | shape r k ih=>
  intro Q Z w es₀ h ok
  obtain⟨o,ho,h⟩:=h
  have hb:=View.has_heap ok ho
  have hsh:w.shape? r=Obj.shapeOf o:=by
   simp only [World.shape?,hb];cases o <;> rfl
  obtain⟨x,w',es,Z',hrun,hev,hg,hok,hq⟩:=ih _ (es₀:=es₀) h ok
  exact⟨x,w',es,Z',by simp only [Sem.runT];rw [hsh];exact hrun,hev,hg,hok,hq⟩
 | freeze a n k ih=>
  intro Q Z w es₀ h ok
  obtain⟨hn,c,t,M',hM,h⟩:=h
  obtain⟨hok1,hg1⟩:=ok_freeze ok hn hM
  obtain⟨x,w',es,Z',hrun,hev,hg,hok,hq⟩:=ih (es₀:=es₀) h hok1
  exact⟨x,w',es,Z',by simpa only [Sem.runT] using hrun,λ e he=>⟨EvOk.of hg1 (hev e he).1,(hev e he).2⟩,hg1.trans hg,hok,hq⟩
 | frozen a k ih=>
  intro Q Z w es₀ h ok
  obtain⟨c,t,hb,h⟩:=h
  have hb:=View.has_heap ok hb
  obtain⟨x,w',es,Z',hrun,hev,hg,hok,hq⟩:=ih false (es₀:=es₀) h ok
  have hfr:w.frozen? a=false:=by simp [World.frozen?,hb]
  exact⟨x,w',es,Z',by simp only [Sem.runT,hfr];exact hrun,hev,hg,hok,hq⟩
 | getObj r k ih=>
  intro Q Z w es₀ h ok
  obtain⟨o,ho,hc,hch,h⟩:=h
  have hb:=View.has_heap ok ho
  obtain⟨x,w',es,Z',hrun,hev,hg,hok,hq⟩:=ih o (es₀:=es₀.push ⟨.obj r,false,false⟩) h ok
  refine⟨x,w',#[⟨.obj r,false,false⟩]++es,Z',?_,?_,hg,hok,hq⟩
  ·have:Sem.runT P (.getObj r k) w es₀=(k o).runT P w (es₀.push ⟨.obj r,false,o.isChan⟩):=by
    simp only [Sem.runT,hb];cases o <;> simp_all [Obj.isCells]
   rw [this,hch,hrun]
   simp
  ·intro e he
   rcases Array.mem_append.1 he with he | he
   ·simp at he;subst he
    refine⟨⟨rfl,.inl ?_⟩,Nat.lt_of_lt_of_le (Array.getElem?_eq_some_iff.1 hb).1 hg.size⟩
    rcases ho with ho | ho
    ·exact .inr ⟨o,ho⟩
    ·exact .inl ⟨o,ho⟩
   ·exact hev e he
 | setObj r o k ih=>
  intro Q Z w es₀ h ok
  obtain⟨o0,M',hu,h1,h2,hch,h⟩:=h
  obtain⟨hb,hcw,hok1,hg1⟩:=ok_setObj ok hu h1 h2
  obtain⟨x,w',es,Z',hrun,hev,hg,hok,hq⟩:=ih (es₀:=es₀.push ⟨.obj r,true,false⟩) h hok1
  refine⟨x,w',#[⟨.obj r,true,false⟩]++es,Z',?_,?_,hg1.trans hg,hok,hq⟩
  ·have:Sem.runT P (.setObj r o k) w es₀=k.runT P { w with heap:=w.heap.setIfInBounds r o } (es₀.push ⟨.obj r,true,o.isChan⟩):=by
    simp only [Sem.runT,hb];cases o0 <;> simp_all [Obj.isCells]
   rw [this,hch,hrun]
   simp
  ·intro e he
   rcases Array.mem_append.1 he with he | he
   ·simp at he;subst he;exact⟨⟨rfl,.inl hcw⟩,Nat.lt_of_lt_of_le (Array.getElem?_eq_some_iff.1 hb).1 (hg1.trans hg).size⟩
   ·exact⟨EvOk.of hg1 (hev e he).1,(hev e he).2⟩
 | choose q k ih=>
  intro Q Z w es₀ h ok
  simp only [SemV] at h
  by_cases hq:q.forced=true
  ·rw [if_pos hq] at h
   obtain⟨x,w',es,Z',hrun,hev,hg,hok,hq'⟩:=ih 0 (es₀:=es₀) h ok
   exact⟨x,w',es,Z',by simp only [Sem.runT,hq,if_true];exact hrun,hev,hg,hok,hq'⟩
  ·rw [if_neg hq] at h
   obtain⟨x,w',es,Z',hrun,hev,hg,hok,hq'⟩:=ih _ (es₀:=es₀) (h (w.tape w.drawn q)) (ok_drawn ok (w.drawn+1))
   exact⟨x,w',es,Z',by simp only [Sem.runT,hq];exact hrun,λ e he=>⟨EvOk.of (guar_drawn Z w _) (hev e he).1,(hev e he).2⟩,(guar_drawn Z w _).trans hg,hok,hq'⟩
 | sys c k ih=>exact λ {Q Z w es₀} h ok=>h.elim
 | program k ih=>
  intro Q Z w es₀ h ok
  obtain⟨x,w',es,Z',hrun,hev,hg,hok,hq⟩:=ih P (es₀:=es₀) h ok
  exact⟨x,w',es,Z',by simpa only [Sem.runT] using hrun,hev,hg,hok,hq⟩
 | mark m k ih=>
  intro Q Z w es₀ h ok
  obtain⟨hm,h⟩:=h
  obtain⟨x,w',es,Z',hrun,hev,hg,hok,hq⟩:=ih (es₀:=es₀.push ⟨.mark m,false,true⟩) h ok
  refine⟨x,w',#[⟨.mark m,false,true⟩]++es,Z',?_,?_,hg,hok,hq⟩
  ·simp only [Sem.runT];rw [hrun];simp
  ·intro e he
   rcases Array.mem_append.1 he with he | he
   ·simp at he;subst he;exact⟨hm,trivial⟩
   ·exact hev e he
 | halt h=>exact λ {Q Z w es₀} h ok=>h.elim
theorem SemV.mono {P:Program} {α:Type} (s:Sem α):∀{Q Q':α->View T->Prop} {Z:View T},SemV P s Q Z->(∀a Z,Q a Z->Q' a Z)->SemV P s Q' Z:=by
 induction s with
 | pure a=>exact λ h q=>q _ _ h
 | load m a k ih=>exact λ⟨e,v,hs,h⟩ q=>⟨e,v,hs,ih v h q⟩
 | store m a v k ih=>exact λ⟨e,e',M',hu,h⟩ q=>⟨e,e',M',hu,ih h q⟩
 | new o k ih=>exact λ h q b hb=>ih b (h b hb) q
 | shape r k ih=>exact λ⟨o,ho,h⟩ q=>⟨o,ho,ih _ h q⟩
 | freeze a n k ih=>exact λ⟨x,c,t,M',hM,h⟩ q=>⟨x,c,t,M',hM,ih h q⟩
 | frozen a k ih=>exact λ⟨c,t,hb,h⟩ q=>⟨c,t,hb,ih _ h q⟩
 | getObj r k ih=>exact λ⟨o,a,b,c,h⟩ q=>⟨o,a,b,c,ih _ h q⟩
 | setObj r o k ih=>exact λ⟨o0,M',a,b,c,d,h⟩ q=>⟨o0,M',a,b,c,d,ih h q⟩
 | choose q k ih=>
  intro Q Q' Z h hq
  simp only [SemV] at h ⊢
  split <;> rename_i hf <;> simp only [hf,if_true,if_false,Bool.false_eq_true] at h
  ·exact ih 0 h hq
  ·exact λ t=>ih _ (h t) hq
 | sys c k ih=>exact λ h _=>h
 | program k ih=>exact λ h q=>ih _ h q
 | mark m k ih=>exact λ⟨a,h⟩ q=>⟨a,ih h q⟩
 | halt h=>exact λ h _=>h
theorem SemV_bind {P:Program} {α β:Type} (s:Sem α) (f:α->Sem β):∀{Q:β->View T->Prop} {Z:View T},SemV P (s.bind f) Q Z↔SemV P s (λ a Z=>SemV P (f a) Q Z) Z:=by
 induction s with
 | pure a=>exact λ {_ _}=>Iff.rfl
 | load m a k ih=>intro Q Z;simp only [Sem.bind,SemV,ih]
 | store m a v k ih=>intro Q Z;simp only [Sem.bind,SemV,ih]
 | new o k ih=>intro Q Z;simp only [Sem.bind,SemV,ih]
 | shape r k ih=>intro Q Z;simp only [Sem.bind,SemV,ih]
 | freeze a n k ih=>intro Q Z;simp only [Sem.bind,SemV,ih]
 | frozen a k ih=>intro Q Z;simp only [Sem.bind,SemV,ih]
 | getObj r k ih=>intro Q Z;simp only [Sem.bind,SemV,ih]
 | setObj r o k ih=>intro Q Z;simp only [Sem.bind,SemV,ih]
 | choose q k ih=>intro Q Z;simp only [Sem.bind,SemV,ih]
 | sys c k ih=>intro Q Z;simp only [Sem.bind,SemV]
 | program k ih=>intro Q Z;simp only [Sem.bind,SemV,ih]
 | mark m k ih=>intro Q Z;simp only [Sem.bind,SemV,ih]
 | halt h=>intro Q Z;simp only [Sem.bind,SemV]
end Go.TM
namespace Go.TM
variable {T:Type} {P:Program}
structure Sys (P:Program) (T:Type) where
 syn:(Bool->Goroutine->View T->Prop)->Bool->Goroutine->View T->Prop
 mono:∀{X Y:Bool->Goroutine->View T->Prop},(∀m g Z,X m g Z->Y m g Z)->∀m g Z,syn X m g Z->syn Y m g Z
def Shift (Z Z':View T):Prop:=Z'.tok=Z.tok/\∀w,Z.ok w->Z'.ok w/\(∀l,Z'.canW l->Z.canW l)/\(∀l,Z'.canR l->Z.canR l)
theorem Shift.refl (Z:View T):Shift Z Z:=⟨rfl,λ _ h=>⟨h,λ _ h=>h,λ _ h=>h⟩⟩
theorem Shift.trans {Z Z1 Z2:View T} (h:Shift Z Z1) (k:Shift Z1 Z2):Shift Z Z2:=
 ⟨k.1.trans h.1,λ w ok=>let ⟨a,b,c⟩:=h.2 w ok;let ⟨a',b',c'⟩:=k.2 w a;⟨a',λ l x=>b l (b' l x),λ l x=>c l (c' l x)⟩⟩
abbrev Stp (T:Type):=Bool->Goroutine->View T->Prop
def Priv (P:Program) (X:Stp T) (m:Bool) (g:Goroutine) (Z:View T):Prop:=
 g.status=.running/\∀w,Z.ok w->∃g' w' es Z',stepG P m g w=.go g' w' es/\(∀e∈es,EvOk Z w e/\LowE w' e)/\Guar Z w w' Z'/\Z'.ok w'/\Z'.tok=Z.tok/\X m g' Z'
def FJ (S:Sys P T) (Stop:Stp T) (X:Stp T) (m:Bool) (g:Goroutine) (Z:View T):Prop:=
 ∃Z1,Shift Z Z1/\(Stop m g Z1\/Priv P X m g Z1\/S.syn X m g Z1)
def J (S:Sys P T) (Stop:Stp T) (m:Bool) (g:Goroutine) (Z:View T):Prop:=
 ∀X:Stp T,(∀m g Z,FJ S Stop X m g Z->X m g Z)->X m g Z
theorem Priv.mono {X Y:Stp T} (h:∀m g Z,X m g Z->Y m g Z) {m:Bool} {g:Goroutine} {Z:View T} (k:Priv P X m g Z):Priv P Y m g Z:=
 ⟨k.1,λ w ok=>let ⟨g',w',es,Z',a,b,c,d,e,f⟩:=k.2 w ok;⟨g',w',es,Z',a,b,c,d,e,h _ _ _ f⟩⟩
theorem FJ.mono {S:Sys P T} {Stop X Y:Stp T} (h:∀m g Z,X m g Z->Y m g Z) {m:Bool} {g:Goroutine} {Z:View T} (k:FJ S Stop X m g Z):FJ S Stop Y m g Z:=by
 obtain⟨Z1,hs,k | k | k⟩:=k
 ·exact⟨Z1,hs,.inl k⟩
 ·exact⟨Z1,hs,.inr (.inl (k.mono h))⟩
 ·exact⟨Z1,hs,.inr (.inr (S.mono h _ _ _ k))⟩
variable {S:Sys P T} {Stop:Stp T} {m:Bool}
theorem J.fold {g:Goroutine} {Z:View T} (h:FJ S Stop (J S Stop) m g Z):J S Stop m g Z:=
 λ X hX=>hX _ _ _ (h.mono λ _ _ _ k=>k X hX)
theorem J.ind {X:Stp T} (hX:∀m g Z,FJ S Stop (λ m g Z=>X m g Z/\J S Stop m g Z) m g Z->X m g Z) {g:Goroutine} {Z:View T} (h:J S Stop m g Z):X m g Z:=
 (h (λ m g Z=>X m g Z/\J S Stop m g Z) λ m g Z k=>⟨hX m g Z k,J.fold (k.mono λ _ _ _ x=>x.2)⟩).1
theorem J.unfold {g:Goroutine} {Z:View T} (h:J S Stop m g Z):FJ S Stop (J S Stop) m g Z:=
 J.ind (X:=FJ S Stop (J S Stop)) (λ _ _ _ k=>k.mono λ _ _ _ x=>x.2) h
theorem J.stop {g:Goroutine} {Z:View T} (h:Stop m g Z):J S Stop m g Z:=.fold ⟨Z,.refl _,.inl h⟩
theorem J.priv {g:Goroutine} {Z:View T} (h:Priv P (J S Stop) m g Z):J S Stop m g Z:=.fold ⟨Z,.refl _,.inr (.inl h)⟩
theorem J.syn {g:Goroutine} {Z:View T} (h:S.syn (J S Stop) m g Z):J S Stop m g Z:=.fold ⟨Z,.refl _,.inr (.inr h)⟩
theorem J.still {g g':Goroutine} {Z:View T} (hs:g.status=.running) (h:∀w,stepG P m g w=.go g' w) (k:J S Stop m g' Z):J S Stop m g Z:=
 .priv ⟨hs,λ w ok=>⟨g',w,#[],Z,h w,by simp,.refl _ _,ok,rfl,k⟩⟩
theorem seen_sub (P:Program) (fn:FuncId) (es:Array Event):∀e∈seen P fn es,e∈es:=by
 dsimp only [seen]
 rw [<- Array.foldl_toList]
 have key:∀(l:List Event) (x:Bool×Array Event),(∀e∈x.2,e∈es)->(∀e∈l,e∈es) ->
   ∀e∈(l.foldl (λ (x:Bool×Array Event) e=>match e.loc with | .mark (.extern f)=>((P.funcs[f]?).any (·.norace),x.2) | _=>(x.1,if x.1 && !e.sync then x.2 else x.2.push e)) x).2,e∈es:=by
  intro l
  induction l with
  | nil=>exact λ x hx _=>hx
  | cons a l ih=>
   intro x hx hl
   simp only [List.foldl_cons]
   refine ih _ ?_ λ e he=>hl e (List.mem_cons_of_mem _ he)
   split
   ·exact hx
   ·dsimp only
    split
    ·exact hx
    ·intro e he
     rcases Array.mem_push.1 he with he | rfl
     ·exact hx e he
     ·exact hl _ (List.mem_cons_self ..)
 exact key es.toList _ (by simp) (by simp)
theorem J.sem {α:Type} {g:Goroutine} {Z:View T} (s:Sem α) {Q:α->View T->Prop} (hs:g.status=.running) (h:SemV P s Q Z)
  (hstep:∀w x w' es,s.runT P w #[]=(.ok x w',es)->(∃Z',Q x Z')->∃g' es',stepG P m g w=.go g' w' es'/\(∀e∈es',e∈es)/\(∀Z',Q x Z'->J S Stop m g' Z')):J S Stop m g Z:=by
 refine .priv ⟨hs,λ w ok=>?_⟩
 obtain⟨x,w',es,Z',hr,hev,hg,hok,hq,ht⟩:=SemV.sound s (es₀:=#[]) h ok
 obtain⟨g',es',hst,hsub,hk⟩:=hstep w x w' es (by simpa using hr) ⟨Z',hq⟩
 exact⟨g',w',es',Z',hst,λ e he=>hev e (hsub e he),hg,hok,ht,hk Z' hq⟩
def fr (b:Frame) (a:Act) (todo:List Item):Frame:={ b with tmps:=a.tmps,todo:=todo,defers:=a.defers,mode:=.run }
def R (b:Frame) (a:Act) (todo:List Item) (cs:List Frame):Goroutine:={ frame:=fr b a todo,callers:=cs,status:=.running,dying:=none }
def Rf (f:Frame) (cs:List Frame):Goroutine:={ frame:=f,callers:=cs,status:=.running,dying:=none }
theorem fr_eval (b:Frame) (a:Act) (todo:List Item):(fr b a todo).eval=a.eval:=by funext x;cases x <;> rfl
section moves
variable {b:Frame} {a:Act} {k:List Item} {cs:List Frame} {w:World}
theorem sg_skip:stepG P m (R b a (.code .skip::k) cs) w=.go (R b a k cs) w:=by simp [R,stepG,stepG.exec,fr]
theorem sg_label {l:Nat}:stepG P m (R b a (.code (.label l)::k) cs) w=.go (R b a k cs) w:=by simp [R,stepG,stepG.exec,fr]
theorem sg_inBlock {id:Nat}:stepG P m (R b a (.inBlock id::k) cs) w=.go (R b a k cs) w:=by simp [R,stepG,stepG.exec,fr]
theorem sg_inScope {c:Code}:stepG P m (R b a (.inScope c::k) cs) w=.go (R b a k cs) w:=by simp [R,stepG,stepG.exec,fr]
theorem sg_seq {x y:Code}:stepG P m (R b a (.code (.seq x y)::k) cs) w=.go (R b a (.code x::.code y::k) cs) w:=by simp [R,stepG,stepG.exec,fr]
theorem sg_cond {c:Operand} {x y:Code} {t:Bool} (h:a.eval c=.bool t) :
  stepG P m (R b a (.code (.cond c x y)::k) cs) w=.go (R b a (.code (if t then x else y)::k) cs) w:=by
 have h':(fr b a (.code (.cond c x y)::k)).eval c=.bool t:=by rw [fr_eval];exact h
 simp only [fr] at h'
 simp [R,stepG,stepG.exec,fr,h']
theorem sg_block {id:Nat} {c:Code}:stepG P m (R b a (.code (.block id c)::k) cs) w=.go (R b a (.code c::.inBlock id::k) cs) w:=by simp [R,stepG,stepG.exec,fr]
theorem sg_loop {c:Code}:stepG P m (R b a (.code (.loop c)::k) cs) w=.go (R b a (.code c::.inLoop c::k) cs) w:=by simp [R,stepG,stepG.exec,fr]
theorem sg_inLoop {c:Code}:stepG P m (R b a (.inLoop c::k) cs) w=.go (R b a (.code c::.inLoop c::k) cs) w:=by simp [R,stepG,stepG.exec,fr]
theorem sg_scope {c:Code}:stepG P m (R b a (.code (.scope c)::k) cs) w=.go (R b a (.code c::.inScope c::k) cs) w:=by simp [R,stepG,stepG.exec,fr]
theorem sg_exit {id:Nat} {k':List Item} (h:exitTo id k=some k'):stepG P m (R b a (.code (.exit id)::k) cs) w=.go (R b a k' cs) w:=by simp [R,stepG,stepG.exec,fr,h]
theorem sg_region {id:Nat} {ops:Array Oper}:stepG P m (R b a (.code (.region id ops false)::k) cs) w=.go (R b a (.inRegion ops (List.range ops.size)::k) cs) w:=by simp [R,stepG,stepG.exec,fr]
theorem sg_region_end {ops:Array Oper}:stepG P m (R b a (.inRegion ops []::k) cs) w=.go (R b a k cs) w:=by simp [R,stepG,stepG.exec,fr]
theorem sg_unwanted {ops:Array Oper} {i:Nat} {rest:List Nat} {o:Oper} (ho:ops[i]?=some o) (hw:Region.wanted o (yielded ops a.tmps)=false) :
  stepG P m (R b a (.inRegion ops (i::rest)::k) cs) w=.go (R b (a.put o.dst undef) (.inRegion ops rest::k) cs) w:=by
 cases hd:o.dst <;> simp [R,stepG,stepG.exec,fr,ho,hw,Frame.finish,Act.put,hd]
theorem sg_oper {ops:Array Oper} {i:Nat} {rest:List Nat} {o:Oper} (ho:ops[i]?=some o) (hw:Region.wanted o (yielded ops a.tmps)=true)
  (hr:b.roundOf=none\/∀c,o.op≠.defer c) :
  stepG P m (R b a (.inRegion ops (i::rest)::k) cs) w=stepG.apply P true (fr b a (.inRegion ops (i::rest)::k)) cs none (execOp a.eval o) w:=by
 have he:=fr_eval b a (.inRegion ops (i::rest)::k)
 simp only [fr] at he
 rcases hr with hr | hr
 ·rw [hr] at he
  simp [R,stepG,stepG.exec,stepG.oper,Frame.oper?,fr,ho,hw,hr]
  rw [he]
 ·simp only [R,stepG,stepG.exec,stepG.oper,Frame.oper?,fr,ho,Option.map_some,hw,Option.getD_some,if_true,he]
  cases hro:b.roundOf with
  | none=>simp
  | some l=>cases hop:o.op <;> first | rfl | exact absurd hop (hr _)
theorem fr_finish {ops:Array Oper} {i:Nat} {rest:List Nat} {o:Oper} (ho:ops[i]?=some o) (v:Value) :
  (fr b a (.inRegion ops (i::rest)::k)).finish v=fr b (a.put o.dst v) (.inRegion ops rest::k):=by
 cases h:o.dst <;> simp [Frame.finish,fr,Act.put,ho,h]
end moves
inductive Ex where
 | normal
 | exit (id:Nat)
 | ret
def LeaveV (S:Sys P T) (Stop:Stp T) (m:Bool) (b:Frame) (cs:List Frame) (jump:Option Code) (a:Act) (Z:View T):Prop:=
 match b.roundOf with
 | none=>(jump=none\/jump=some .ret)/\∀todo,J S Stop m (Rf { fr b a todo with mode:=.returning } cs) Z
 | some l=>∃c rest,cs=c::rest/\SemV P (Instr.endRound l jump) (λ v Z'=>J S Stop m (Rf (c.finish v) rest) Z') Z
def AfterV (S:Sys P T) (Stop:Stp T) (m:Bool) (b:Frame) (k:List Item) (cs:List Frame):Ex->Act->View T->Prop
 | .normal,a,Z=>J S Stop m (R b a k cs) Z
 | .exit id,a,Z=>(∃k',exitTo id k=some k'/\J S Stop m (R b a k' cs) Z)\/(exitTo id k=none/\LeaveV S Stop m b cs (some (.exit id)) a Z)
 | .ret,a,Z=>LeaveV S Stop m b cs (some .ret) a Z
def Fr (fn:FuncId) (ro:Option Nat) (b:Frame):Prop:=b.fn=fn/\b.roundOf=ro/\b.kind≠.early/\(ro.isSome->b.kind=.normal)
def CodeV (S:Sys P T) (fn:FuncId) (ro:Option Nat) (c:Code) (Q:Ex->Act->View T->Prop) (a:Act) (Z:View T):Prop:=
 ∀(Stop:Stp T) (m:Bool) (b:Frame) (k:List Item) (cs:List Frame),Fr fn ro b->(∀e a' Z',Q e a' Z'->AfterV S Stop m b k cs e a' Z')->J S Stop m (R b a (.code c::k) cs) Z
def OpsV (S:Sys P T) (fn:FuncId) (ro:Option Nat) (ops:Array Oper) (todo:List Nat) (Q:Ex->Act->View T->Prop) (a:Act) (Z:View T):Prop:=
 ∀(Stop:Stp T) (m:Bool) (b:Frame) (k:List Item) (cs:List Frame),Fr fn ro b->(∀e a' Z',Q e a' Z'->AfterV S Stop m b k cs e a' Z')->J S Stop m (R b a (.inRegion ops todo::k) cs) Z
def CallsV (S:Sys P T) (f:FuncId) (args:Array Value) (Q:Value->View T->Prop) (Z:View T):Prop:=
 ∀(Stop:Stp T) (m:Bool) (c:Frame) (cs:List Frame),(∀v Z',Q v Z'->J S Stop m (Rf (c.finish v) cs) Z')->J S Stop m (Rf (Frame.enter P f args .normal) (c::cs)) Z
def RoundV (S:Sys P T) (l:Nat) (f:FuncId) (tmps:Array Value) (assign body:Code) (Q:Value->View T->Prop) (Z:View T):Prop:=
 ∀(Stop:Stp T) (m:Bool) (c:Frame) (cs:List Frame),(∀v Z',Q v Z'->J S Stop m (Rf (c.finish v) cs) Z')->J S Stop m (Rf (Frame.round l f tmps assign body .normal) (c::cs)) Z
theorem AfterV.push {b:Frame} {x:Item} {k:List Item} {cs:List Frame} {e:Ex} {a:Act} {Z:View T} (hx:∀id k,exitTo id (x::k)=exitTo id k) (he:e≠.normal)
  (h:AfterV S Stop m b k cs e a Z):AfterV S Stop m b (x::k) cs e a Z:=by
 cases e with
 | normal=>exact absurd rfl he
 | exit id=>simpa only [AfterV,hx] using h
 | ret=>exact h
section rules
variable {fn:FuncId} {ro:Option Nat} {Q:Ex->Act->View T->Prop} {a:Act} {Z:View T}
theorem CodeV.mono {c:Code} {Q':Ex->Act->View T->Prop} (h:CodeV S fn ro c Q a Z) (hq:∀e a Z,Q e a Z->Q' e a Z):CodeV S fn ro c Q' a Z:=
 λ Stop m b k cs hb hc=>h Stop m b k cs hb λ e a' Z' q=>hc e a' Z' (hq e a' Z' q)
theorem CallsV.mono {f:FuncId} {args:Array Value} {R R':Value->View T->Prop} (h:CallsV S f args R Z) (hr:∀v Z,R v Z->R' v Z):CallsV S f args R' Z:=
 λ Stop m c cs k=>h Stop m c cs λ v Z' r=>k v Z' (hr v Z' r)
theorem RoundV.mono {l:Nat} {f:FuncId} {tmps:Array Value} {as bd:Code} {R R':Value->View T->Prop} (h:RoundV S l f tmps as bd R Z) (hr:∀v Z,R v Z->R' v Z):RoundV S l f tmps as bd R' Z:=
 λ Stop m c cs k=>h Stop m c cs λ v Z' r=>k v Z' (hr v Z' r)
theorem J.shift {g:Goroutine} {Z Z':View T} (hs:Shift Z Z') (h:J S Stop m g Z'):J S Stop m g Z:=by
 obtain⟨Z1,h1,h⟩:=h.unfold
 exact .fold ⟨Z1,hs.trans h1,h⟩
theorem ov_shift {ops:Array Oper} {todo:List Nat} {Z':View T} (hs:Shift Z Z') (h:OpsV S fn ro ops todo Q a Z'):OpsV S fn ro ops todo Q a Z:=λ Stop m b k cs hb hc=>.shift hs (h Stop m b k cs hb hc)
theorem CallsV.shift {f:FuncId} {args:Array Value} {R:Value->View T->Prop} {Z':View T} (hs:Shift Z Z') (h:CallsV S f args R Z'):CallsV S f args R Z:=λ Stop m c cs k=>.shift hs (h Stop m c cs k)
theorem RoundV.shift {l:Nat} {f:FuncId} {tmps:Array Value} {as bd:Code} {R:Value->View T->Prop} {Z':View T} (hs:Shift Z Z') (h:RoundV S l f tmps as bd R Z'):RoundV S l f tmps as bd R Z:=λ Stop m c cs k=>.shift hs (h Stop m c cs k)
theorem CallsV.post {f:FuncId} {args:Array Value} {R R':Value->View T->Prop} (h:CallsV S f args R Z) (hr:∀v Z,R v Z->∃Z',Shift Z Z'/\R' v Z'):CallsV S f args R' Z:=
 λ Stop m c cs k=>h Stop m c cs λ v Z' r=>let ⟨_,hs,r'⟩:=hr v Z' r;.shift hs (k v _ r')
theorem cv_skip (h:Q .normal a Z):CodeV S fn ro .skip Q a Z:=λ _ _ _ _ _ _ hc=>.still rfl (λ _=>sg_skip) (hc _ _ _ h)
theorem cv_label {l:Nat} (h:Q .normal a Z):CodeV S fn ro (.label l) Q a Z:=λ _ _ _ _ _ _ hc=>.still rfl (λ _=>sg_label) (hc _ _ _ h)
theorem cv_seq {x y:Code} (h:CodeV S fn ro x (λ e a' Z'=>match e with | .normal=>CodeV S fn ro y Q a' Z' | e=>Q e a' Z') a Z):CodeV S fn ro (.seq x y) Q a Z:=by
 intro Stop m b k cs hb hc
 refine .still rfl (λ _=>sg_seq) (h Stop m b (.code y::k) cs hb λ e a' Z' q=>?_)
 cases e with
 | normal=>exact q Stop m b k cs hb hc
 | exit id=>exact (hc _ _ _ q).push (λ _ _=>rfl) (by simp)
 | ret=>exact (hc _ _ _ q).push (x:=.code y) (λ _ _=>rfl) (by simp)
theorem cv_cond {c:Operand} {x y:Code} (t:Bool) (hc:a.eval c=.bool t) (h:CodeV S fn ro (if t then x else y) Q a Z):CodeV S fn ro (.cond c x y) Q a Z:=
 λ Stop m b k cs hb hq=>.still rfl (λ _=>sg_cond hc) (h Stop m b k cs hb hq)
theorem cv_block {id:Nat} {c:Code} (h:CodeV S fn ro c (λ e a' Z'=>match e with | .normal=>Q .normal a' Z' | .exit id'=>if id'=id then Q .normal a' Z' else Q (.exit id') a' Z' | .ret=>Q .ret a' Z') a Z) :
  CodeV S fn ro (.block id c) Q a Z:=by
 intro Stop m b k cs hb hc
 refine .still rfl (λ _=>sg_block) (h Stop m b (.inBlock id::k) cs hb λ e a' Z' q=>?_)
 cases e with
 | normal=>exact .still rfl (λ _=>sg_inBlock) (hc _ _ _ q)
 | exit id'=>
  by_cases hid:id'=id
  ·simp only [hid,if_true] at q
   exact .inl ⟨k,by simp [exitTo,hid],hc _ _ _ q⟩
  ·simp only [hid,if_false] at q
   have hne:(id == id')=false:=by simp;exact λ h=>hid h.symm
   simpa only [AfterV,exitTo,hne,Bool.false_eq_true,if_false] using hc _ _ _ q
 | ret=>exact hc _ _ _ q
theorem cv_scope {c:Code} (h:CodeV S fn ro c Q a Z):CodeV S fn ro (.scope c) Q a Z:=by
 intro Stop m b k cs hb hc
 refine .still rfl (λ _=>sg_scope) (h Stop m b (.inScope c::k) cs hb λ e a' Z' q=>?_)
 cases e with
 | normal=>exact .still rfl (λ _=>sg_inScope) (hc _ _ _ q)
 | exit id=>exact (hc _ _ _ q).push (λ _ _=>rfl) (by simp)
 | ret=>exact (hc _ _ _ q).push (x:=.inScope c) (λ _ _=>rfl) (by simp)
theorem cv_exit {id:Nat} (h:Q (.exit id) a Z):CodeV S fn ro (.exit id) Q a Z:=by
 intro Stop m b k cs hb hc
 rcases hc _ _ _ h with⟨k',hk,hj⟩ | ⟨hk,hl⟩
 ·exact .still rfl (λ _=>sg_exit hk) hj
 ·cases hro:b.roundOf with
  | none=>simp only [LeaveV,hro] at hl;simp at hl
  | some l=>
   simp only [LeaveV,hro] at hl
   obtain⟨c,rest,rfl,hs⟩:=hl
   have hkn:b.kind=.normal:=hb.2.2.2 (by rw [<- hb.2.1,hro];rfl)
   refine .sem _ rfl hs λ w x w' es hrun _=>⟨Rf (c.finish x) rest,seen P b.fn es,?_,seen_sub P _ es,λ _ h=>h⟩
   obtain⟨hr,he⟩:Sem.run P (Instr.endRound l (some (.exit id))) w=.ok x w'/\Sem.events P (Instr.endRound l (some (.exit id))) w #[]=es:=by simpa using hrun
   simp [R,stepG,stepG.exec,fr,hro,hk,hr,he,doReturn,hkn,GStep.after,Rf]
theorem cv_ret (h:Q .ret a Z):CodeV S fn ro .ret Q a Z:=by
 intro Stop m b k cs hb hc
 have hl:=hc _ _ _ h
 cases hro:b.roundOf with
 | none=>
  simp only [AfterV,LeaveV,hro] at hl
  refine .still rfl (λ w=>?_) (hl.2 (.code .ret::k))
  simp [R,Rf,stepG,stepG.exec,fr,hro]
 | some l=>
  simp only [AfterV,LeaveV,hro] at hl
  obtain⟨c,rest,rfl,hs⟩:=hl
  have hkn:b.kind=.normal:=hb.2.2.2 (by rw [<- hb.2.1,hro];rfl)
  refine .sem _ rfl hs λ w x w' es hrun _=>⟨Rf (c.finish x) rest,seen P b.fn es,?_,seen_sub P _ es,λ _ h=>h⟩
  obtain⟨hr,he⟩:Sem.run P (Instr.endRound l (some .ret)) w=.ok x w'/\Sem.events P (Instr.endRound l (some .ret)) w #[]=es:=by simpa using hrun
  simp [R,stepG,stepG.exec,fr,hro,hr,he,doReturn,hkn,GStep.after,Rf]
theorem cv_region {id:Nat} {ops:Array Oper} (h:OpsV S fn ro ops (List.range ops.size) Q a Z):CodeV S fn ro (.region id ops false) Q a Z:=
 λ Stop m b k cs hb hc=>.still rfl (λ _=>sg_region) (h Stop m b k cs hb hc)
theorem ov_nil {ops:Array Oper} (h:Q .normal a Z):OpsV S fn ro ops [] Q a Z:=λ _ _ _ _ _ _ hc=>.still rfl (λ _=>sg_region_end) (hc _ _ _ h)
def NextV (S:Sys P T) (ro:Option Nat) (o:Oper) (a:Act) (K:Act->View T->Prop):Next->View T->Prop
 | .value v,Z=>K (a.put o.dst v) Z
 | .skip,Z=>K (a.put o.dst undef) Z
 | .defer d,Z=>ro=none/\K ({ a with defers:=d::a.defers }.put o.dst undef) Z
 | .enter f args,Z=>CallsV S f args (λ v Z'=>K (a.put o.dst v) Z') Z
 | .round l f tmps assign body,Z=>RoundV S l f tmps assign body (λ v Z'=>K (a.put o.dst v) Z') Z
 | _,_=>False
def OpV (S:Sys P T) (ro:Option Nat) (o:Oper) (a:Act) (K:Act->View T->Prop) (Z:View T):Prop:=SemV P (execOp a.eval o) (NextV S ro o a K) Z
theorem ov_cons {ops:Array Oper} {i:Nat} {rest:List Nat} {o:Oper} (ho:ops[i]?=some o) (hw:Region.wanted o (yielded ops a.tmps)=true) (hd:ro=none\/∀c,o.op≠.defer c)
  (h:OpV S ro o a (OpsV S fn ro ops rest Q) Z):OpsV S fn ro ops (i::rest) Q a Z:=by
 intro Stop m b k cs hb hc
 have hke:(b.kind == CallKind.early)=false:=by simpa using hb.2.2.1
 have hd':b.roundOf=none\/∀c,o.op≠.defer c:=by rw [hb.2.1];exact hd
 refine .sem _ rfl h λ w x w' es hrun hex=>?_
 rw [sg_oper ho hw hd']
 have hr:(execOp a.eval o).run P w=.ok x w':=by have:=Sem.runT_fst P (execOp a.eval o) w #[];rw [hrun] at this;exact this.symm
 cases x with
 | value v=>
  refine⟨R b (a.put o.dst v) (.inRegion ops rest::k) cs,seen P b.fn es,?_,seen_sub P _ es,λ Z' q=>q Stop m b k cs hb hc⟩
  have:=fr_finish (b:=b) (a:=a) (k:=k) (rest:=rest) ho v
  simp only [stepG.apply,if_true,hrun]
  simp [fr,hke,GStep.after,R] at this ⊢
  exact this
 | skip=>
  refine⟨R b (a.put o.dst undef) (.inRegion ops rest::k) cs,seen P b.fn es,?_,seen_sub P _ es,λ Z' q=>q Stop m b k cs hb hc⟩
  have:=fr_finish (b:=b) (a:=a) (k:=k) (rest:=rest) ho undef
  simp only [stepG.apply,if_true,hrun]
  simp [fr,hke,GStep.after,R] at this ⊢
  exact this
 | defer d=>
  refine⟨R b ({ a with defers:=d::a.defers }.put o.dst undef) (.inRegion ops rest::k) cs,seen P b.fn es,?_,seen_sub P _ es,λ Z' q=>q.2 Stop m b k cs hb hc⟩
  have:=fr_finish (b:=b) (a:={ a with defers:=d::a.defers }) (k:=k) (rest:=rest) ho undef
  simp only [stepG.apply,if_true,hrun]
  simp [fr,hke,GStep.after,R] at this ⊢
  exact this
 | enter f args=>
  refine⟨Rf (Frame.enter P f args .normal) (fr b a (.inRegion ops (i::rest)::k)::cs),seen P b.fn es,?_,seen_sub P _ es,λ Z' q=>?_⟩
  ·simp only [stepG.apply,if_true,hrun]
   simp [fr,hke,GStep.after,Rf]
  ·refine q Stop m _ cs λ v Z'' q'=>?_
   have:=q' Stop m b k cs hb hc
   rw [fr_finish ho]
   exact this
 | round l f tmps assign body=>
  refine⟨Rf (Frame.round l f tmps assign body .normal) (fr b a (.inRegion ops (i::rest)::k)::cs),seen P b.fn es,?_,seen_sub P _ es,λ Z' q=>?_⟩
  ·simp only [stepG.apply,if_true,hrun]
   simp [fr,hke,GStep.after,Rf]
  ·refine q Stop m _ cs λ v Z'' q'=>?_
   have:=q' Stop m b k cs hb hc
   rw [fr_finish ho]
   exact this
 | _=>obtain⟨_,hq⟩:=hex;exact hq.elim
theorem ov_unwanted {ops:Array Oper} {i:Nat} {rest:List Nat} {o:Oper} (ho:ops[i]?=some o) (hw:Region.wanted o (yielded ops a.tmps)=false)
  (h:OpsV S fn ro ops rest Q (a.put o.dst undef) Z):OpsV S fn ro ops (i::rest) Q a Z:=
 λ Stop m b k cs hb hc=>.still rfl (λ _=>sg_unwanted ho hw) (h Stop m b k cs hb hc)
theorem OpsV.mono {ops:Array Oper} {todo:List Nat} {Q':Ex->Act->View T->Prop} (h:OpsV S fn ro ops todo Q a Z) (hq:∀e a Z,Q e a Z->Q' e a Z):OpsV S fn ro ops todo Q' a Z:=
 λ Stop m b k cs hb hc=>h Stop m b k cs hb λ e a' Z' q=>hc e a' Z' (hq e a' Z' q)
end rules
def addI (I:Nat->Option Obj) (b:Nat) (o:Obj):Nat->Option Obj:=λ x=>if x=b then some o else I x
theorem lets_perm {M M':List Res} (h:∀r,r∈M'->r∈M) {l:Loc}:(∃r∈M',r.lets l)->∃r∈M,r.lets l:=λ⟨r,hr,hl⟩=>⟨r,h r hr,hl⟩
theorem shift_freeze {Z:View T} {b:Nat} {o:Obj} {M':List Res} (h:List.Perm Z.M (.obj b o::M')):Shift Z { Z with I:=addI Z.I b o,M:=M' }:=by
 have hmem:∀r,r∈M'->r∈Z.M:=λ r hr=>h.mem_iff.2 (List.mem_cons_of_mem _ hr)
 have hb:Res.obj b o∈Z.M:=h.mem_iff.2 (List.mem_cons_self ..)
 refine⟨rfl,λ w ok=>?_⟩
 have hap:=(h.pairwise_iff (λ {x y} h=>Res.apart_symm h)).1 ok.apart
 rw [List.pairwise_cons] at hap
 refine⟨⟨?_,λ r hr=>ok.held r (hmem r hr),hap.2,?_⟩,λ l hl=>?_,λ l hl=>?_⟩
 ·intro x ox hx
  simp only [addI] at hx
  split at hx
  ·rename_i e;cases hx;subst e;exact ok.held _ hb
  ·exact ok.imm x ox hx
 ·intro r hr
  have hne:r.blk≠b:=by
   have:=hap.1 r hr
   cases r <;> simp_all [Res.apart,Res.blk] <;> exact λ e=>this e.symm
  simp only [addI,if_neg hne]
  exact ok.sep r (hmem r hr)
 ·rw [canW_iff] at hl ⊢;exact lets_perm hmem hl
 ·rw [canR_iff] at hl ⊢
  rcases hl with hl | hl
  ·exact .inl (lets_perm hmem hl)
  ·cases l with
   | cell a=>
    obtain⟨c,t,f,hc,hlt⟩:=hl
    simp only [addI] at hc
    split at hc
    ·rename_i e;cases hc;exact .inl ⟨_,hb,e,hlt⟩
    ·exact .inr ⟨c,t,f,hc,hlt⟩
   | obj x=>
    obtain⟨ox,hx⟩:=hl
    simp only [addI] at hx
    split at hx
    ·rename_i e;cases hx;exact .inl ⟨_,hb,by cases o <;> simp [Res.lets,e]⟩
    ·exact .inr ⟨ox,hx⟩
   | output=>exact hl.elim
   | goroutines=>exact hl.elim
   | mark _=>exact hl.elim
end Go.TM
namespace Go.TM
variable {T:Type} {P:Program} {S:Sys P T} {fn:FuncId} {ro:Option Nat}
structure View.le (Z Z':View T):Prop where
 imm:∀b o,Z.I b=some o->Z'.I b=some o
 own:Z'.M=Z.M
 tok:Z'.tok=Z.tok
theorem View.le.refl (Z:View T):Z.le Z:=⟨λ _ _ h=>h,rfl,rfl⟩
theorem View.le.trans {a b c:View T} (h:a.le b) (k:b.le c):a.le c:=⟨λ x o e=>k.imm x o (h.imm x o e),k.own.trans h.own,k.tok.trans h.tok⟩
theorem sg_draw {m:Bool} {b:Frame} {a:Act} {k:List Item} {cs:List Frame} {w:World} {id:Nat} {ops:Array Oper} :
  stepG P m (R b a (.code (.region id ops true)::k) cs) w =
   .go (R b a (.inRegion ops (Region.schedule (P.follows .mixedOrders) ops (w.tape w.drawn (.order b.fn id)))::k) cs) { w with drawn:=w.drawn+1 }:=by
 simp [R,stepG,stepG.exec,fr,choose,Sem.run,Question.forced,Question.cut]
theorem cv_draw {Q:Ex->Act->View T->Prop} {a:Act} {Z:View T} {id:Nat} {ops:Array Oper} (h:∀t,OpsV S fn ro ops (Region.schedule (P.follows .mixedOrders) ops t) Q a Z) :
  CodeV S fn ro (.region id ops true) Q a Z:=by
 intro Stop m b k cs hb hc
 refine .priv ⟨rfl,λ w ok=>⟨_,_,#[],Z,sg_draw,by simp,guar_drawn Z w _,ok_drawn ok _,rfl,h _ Stop m b k cs hb hc⟩⟩
def NextQ (S:Sys P T) (K:Value->View T->Prop):Next->View T->Prop
 | .value v,Z=>K v Z
 | .skip,Z=>K undef Z
 | .enter f args,Z=>CallsV S f args K Z
 | .round l f tmps assign body,Z=>RoundV S l f tmps assign body K Z
 | _,_=>False
def OpQ (S:Sys P T) (o:Oper) (a:Act) (K:Value->View T->Prop) (Z:View T):Prop:=SemV P (execOp a.eval o) (NextQ S K) Z
theorem OpQ.mono {o:Oper} {a:Act} {K K':Value->View T->Prop} {Z:View T} (h:OpQ S o a K Z) (hk:∀v Z,K v Z->K' v Z):OpQ S o a K' Z:=
 SemV.mono _ h λ n Z hn=>by
  cases n <;> first | exact hk _ _ hn | exact CallsV.mono hn hk | exact RoundV.mono hn hk | exact hn
theorem OpQ.opV {o:Oper} {a:Act} {K:Act->View T->Prop} {Z:View T} (h:OpQ S o a (λ v Z=>K (a.put o.dst v) Z) Z):OpV S ro o a K Z:=
 SemV.mono _ h λ n Z hn=>by cases n <;> first | exact hn | exact hn.elim
def Mono (F:View T->Prop):Prop:=∀Z Z',F Z->Z.le Z'->F Z'
inductive DrawG (S:Sys P T) (ops:Array Oper) (rl:List Nat) (B:Nat->Nat->Prop) (late:Nat->Bool) (G:View T->Prop) (Z:View T) (Fin:Act->View T->Prop):List Nat->(View T->Prop)->Act->Prop
 | nil {C a}:(∀Z',Z.le Z'->C Z'->Fin a Z')->DrawG S ops rl B late G Z Fin [] C a
 | un {i rest C a o}:i∉rl->ops[i]?=some o->Region.wanted o (yielded ops a.tmps)=false->DrawG S ops rl B late G Z Fin rest C (a.put o.dst undef)->DrawG S ops rl B late G Z Fin (i::rest) C a
 | det {i rest C a o} (v:Value):i∉rl->ops[i]?=some o->Region.wanted o (yielded ops a.tmps)=true ->
   (∀Z',Z.le Z'->C Z'->OpQ S o a (λ v' Z2=>v'=v/\∃Z1,Shift Z2 Z1/\Z'.le Z1) Z') ->
   (late i=true->∀Z',G Z'->OpQ S o a (λ v' Z2=>v'=v/\∃Z1,Shift Z2 Z1/\Z'.le Z1) Z') ->
   DrawG S ops rl B late G Z Fin rest C (a.put o.dst v)->DrawG S ops rl B late G Z Fin (i::rest) C a
 | rel {i rest C a o} (F:Value->View T->Prop):i∈rl->(∀v,Mono (F v))->ops[i]?=some o->Region.wanted o (yielded ops a.tmps)=true ->
   (∀Z',Z.le Z'->C Z'->OpQ S o a (λ v' Z2=>∃Z1,Shift Z2 Z1/\F v' Z1/\Z'.le Z1) Z') ->
   (∀v,(∃Z',Z.le Z'/\C Z'/\F v Z')->DrawG S ops rl B late G Z Fin rest (λ Z'=>C Z'/\F v Z') (a.put o.dst v))->DrawG S ops rl B late G Z Fin (i::rest) C a
 | last {i C a o}:i∈rl->Mono G->(∀j,late j=false->B j i)->ops[i]?=some o->Region.wanted o (yielded ops a.tmps)=true ->
   (∀Z',Z.le Z'->C Z'->OpQ S o a (λ v' Z2=>v'=undef/\∃Z1,Shift Z2 Z1/\G Z1) Z')->((∃Z',Z.le Z'/\C Z')->∀Z',G Z'->Fin (a.put o.dst undef) Z')->DrawG S ops rl B late G Z Fin [i] C a
def edges (ops:Array Oper) (i:Nat):List Nat:=((ops[i]?).map λ o=>(o.after.toList.filter (Region.binds .any)).map (·.on)).getD []
inductive BefOp (ops:Array Oper):Nat->Nat->Prop
 | edge {i j}:j∈edges ops i->BefOp ops j i
 | trans {i j k}:BefOp ops k j->j∈edges ops i->BefOp ops k i
def masks (ops:Array Oper):Nat->List Nat
 | 0=>[]
 | n+1=>let acc:=masks ops n;acc++[(edges ops n).foldl (λ s j=>s ||| 2 ^ j ||| acc.getD j 0) 0]
theorem masks_length (ops:Array Oper):∀n,(masks ops n).length=n
 | 0=>rfl
 | n+1=>by simp [masks,masks_length ops n]
theorem foldl_bits (acc:List Nat) (j:Nat):∀(l:List Nat) (s:Nat),(l.foldl (λ s j=>s ||| 2 ^ j ||| acc.getD j 0) s).testBit j=true->s.testBit j=true\/∃k∈l,k=j\/(acc.getD k 0).testBit j=true
 | [],s,h=>.inl h
 | k::l,s,h=>by
  simp only [List.foldl_cons] at h
  rcases foldl_bits acc j l _ h with h | ⟨x,hx,h⟩
  ·simp only [Nat.testBit_or,Bool.or_eq_true] at h
   rcases h with (h | h) | h
   ·exact .inl h
   ·refine .inr ⟨k,List.mem_cons_self ..,.inl ?_⟩
    rw [Nat.testBit_two_pow] at h
    exact of_decide_eq_true h
   ·exact .inr ⟨k,List.mem_cons_self ..,.inr h⟩
  ·exact .inr ⟨x,List.mem_cons_of_mem _ hx,h⟩
theorem masks_before (ops:Array Oper):∀n i j,((masks ops n).getD i 0).testBit j=true->BefOp ops j i:=by
 intro n
 induction n with
 | zero=>intro i j h;simp [masks] at h
 | succ n ih=>
  intro i j h
  simp only [masks] at h
  by_cases hi:i<n
  ·rw [List.getD_eq_getElem?_getD,List.getElem?_append_left (by rw [masks_length];exact hi),<- List.getD_eq_getElem?_getD] at h
   exact ih i j h
  ·rw [List.getD_eq_getElem?_getD,List.getElem?_append_right (by rw [masks_length];omega),masks_length,<- List.getD_eq_getElem?_getD] at h
   by_cases e:i=n
   ·subst e
    simp only [Nat.sub_self,List.getD_cons_zero] at h
    rcases foldl_bits _ j _ 0 h with h | ⟨k,hk,rfl | h⟩
    ·simp at h
    ·exact .edge hk
    ·exact .trans (ih k j h) hk
   ·have:i-n=(i-n-1)+1:=by omega
    rw [this] at h
    simp at h
def dstOf (ops:Array Oper) (i:Nat):Option Tmp:=(ops[i]?).bind (·.dst)
def looks (ops:Array Oper) (i:Nat):List Tmp:=((ops[i]?).map (Oper.looksAt ops)).getD []
def drawOk (ops:Array Oper) (rl qs ts:List Nat):Bool:=
 let n:=ops.size
 let ms:=masks ops n
 let bf (j i:Nat):Bool:=(ms.getD i 0).testBit j
 let all:=qs++ts
 (List.range n).all (λ i=>all.contains i) && (decide all.Nodup && all.all (λ i=>decide (i<n))) &&
 (ops.toList.all λ o=>!(o.op matches .select ..)) &&
 (List.range n).all (λ i=>(List.range n).all λ j=>i == j || (match dstOf ops i with | some d=>dstOf ops j != some d | none=>true)) &&
 qs.all (λ i=>(List.range n).all λ j=>i == j || (match dstOf ops j with | some d=>!(looks ops i).contains d || bf j i || bf i j | none=>true)) &&
 (List.range all.length).all (λ p=>(edges ops (all.getD p 0)).all λ j=>(all.take p).contains j) &&
 (List.range qs.length).all (λ p=>!rl.contains (qs.getD p 0) || ((all.drop (p+1)).all λ j=>bf (qs.getD p 0) j)) &&
 (List.range ts.length).all (λ p=>(qs++ts.take p).all λ j=>bf j (ts.getD p 0))
structure DrawFit (ops:Array Oper) (rl qs ts:List Nat):Prop where
 mem:∀i,i<ops.size↔i∈qs++ts
 nodup:(qs++ts).Nodup
 nosel:∀(i:Nat) o,ops[i]?=some o->∀cs b,o.op≠.select cs b
 once:∀i j d,dstOf ops i=some d->dstOf ops j=some d->i=j
 look:∀i,i∈qs->∀j d,i≠j->dstOf ops j=some d->d∈looks ops i->BefOp ops j i\/BefOp ops i j
 order:∀p i,(qs++ts)[p]?=some i->∀j∈edges ops i,j∈(qs++ts).take p
 behind:∀p i,qs[p]?=some i->i∈rl->∀j∈(qs++ts).drop (p+1),BefOp ops i j
 tail:∀p i,ts[p]?=some i->∀j∈qs++ts.take p,BefOp ops j i
theorem dstOf_lt {ops:Array Oper} {i:Nat} {d:Tmp} (h:dstOf ops i=some d):i<ops.size:=by
 simp only [dstOf] at h
 cases hi:ops[i]? with
 | none=>simp [hi] at h
 | some o=>exact (Array.getElem?_eq_some_iff.1 hi).1
theorem drawOk_fit {ops:Array Oper} {rl qs ts:List Nat} (h:drawOk ops rl qs ts=true):DrawFit ops rl qs ts:=by
 simp only [drawOk,Bool.and_eq_true] at h
 obtain⟨⟨⟨⟨⟨⟨⟨h1,h2⟩,h3⟩,h4⟩,h5⟩,h6⟩,h7⟩,h8⟩:=h
 have hmem:∀i,i<ops.size->i∈qs++ts:=λ i hi=>by
  have:=List.all_eq_true.1 h1 i (List.mem_range.2 hi);simpa using this
 obtain⟨hnd,hlt⟩:(qs++ts).Nodup/\∀i∈qs++ts,i<ops.size:=by
  exact⟨of_decide_eq_true h2.1,λ i hi=>of_decide_eq_true (List.all_eq_true.1 h2.2 i hi)⟩
 refine⟨λ i=>⟨hmem i,hlt i⟩,hnd,?_,?_,?_,?_,?_,?_⟩
 ·intro i o ho cs b e
  have:=List.all_eq_true.1 h3 o (Array.mem_toList_iff.2 (Array.mem_of_getElem? ho))
  simp [e] at this
 ·intro i j d hi hj
  have:=List.all_eq_true.1 (List.all_eq_true.1 h4 i (List.mem_range.2 (dstOf_lt hi))) j (List.mem_range.2 (dstOf_lt hj))
  simp only [hi,hj,Bool.or_eq_true,beq_iff_eq] at this
  rcases this with h | h
  ·exact h
  ·simp at h
 ·intro i hi j d hne hj hd
  have:=List.all_eq_true.1 (List.all_eq_true.1 h5 i hi) j (List.mem_range.2 (dstOf_lt hj))
  simp only [hj,Bool.or_eq_true,beq_iff_eq] at this
  rcases this with h | (h | h) | h
  ·exact absurd h hne
  ·simp [hd] at h
  ·exact .inl (masks_before _ _ _ _ h)
  ·exact .inr (masks_before _ _ _ _ h)
 ·intro p i hp j hj
  have hpl:=(List.getElem?_eq_some_iff.1 hp).1
  have:=List.all_eq_true.1 h6 p (List.mem_range.2 hpl)
  rw [List.getD_eq_getElem?_getD,hp,Option.getD_some] at this
  simpa using List.all_eq_true.1 this j hj
 ·intro p i hp hr j hj
  have hpl:=(List.getElem?_eq_some_iff.1 hp).1
  have:=List.all_eq_true.1 h7 p (List.mem_range.2 hpl)
  rw [List.getD_eq_getElem?_getD,hp,Option.getD_some] at this
  simp only [Bool.or_eq_true] at this
  rcases this with h | h
  ·simp [hr] at h
  ·exact masks_before _ _ _ _ (List.all_eq_true.1 h j hj)
 ·intro p i hp j hj
  have hpl:=(List.getElem?_eq_some_iff.1 hp).1
  have:=List.all_eq_true.1 h8 p (List.mem_range.2 hpl)
  have e:ts.getD p 0=i:=by rw [List.getD_eq_getElem?_getD,hp];rfl
  rw [e] at this
  exact masks_before _ _ _ _ (List.all_eq_true.1 this j hj)
theorem ready_spec {ops:Array Oper} {listed:Array Bool} {i:Nat}:i∈Region.ready .any ops listed↔i<ops.size/\listed.getD i true=false/\∀j∈edges ops i,listed.getD j false=true:=by
 simp only [Region.ready,List.mem_filter,List.mem_range,Bool.and_eq_true,Bool.not_eq_true']
 constructor
 ·rintro⟨hi,h1,h2⟩
  refine⟨hi,h1,λ j hj=>?_⟩
  obtain⟨o,ho⟩:∃o,ops[i]?=some o:=⟨ops[i],by simp [hi]⟩
  simp only [ho,Option.map_some,Option.getD_some] at h2
  simp only [edges,ho,Option.map_some,Option.getD_some,List.mem_map,List.mem_filter,Array.mem_toList_iff] at hj
  obtain⟨e,⟨he,hb⟩,rfl⟩:=hj
  have:=(Array.all_eq_true'.1 h2) e he
  simpa [hb] using this
 ·rintro⟨hi,h1,h2⟩
  refine⟨hi,h1,?_⟩
  obtain⟨o,ho⟩:∃o,ops[i]?=some o:=⟨ops[i],by simp [hi]⟩
  simp only [ho,Option.map_some,Option.getD_some]
  rw [Array.all_eq_true']
  intro e he
  by_cases hb:Region.binds .any e=true
  ·have:=h2 e.on (by simp only [edges,ho,Option.map_some,Option.getD_some,List.mem_map,List.mem_filter,Array.mem_toList_iff];exact⟨e,⟨he,hb⟩,rfl⟩)
   rw [this];simp
  ·simp [hb]
structure Agree (ops:Array Oper) (val:Nat->Value) (D:Nat->Prop) (a0 a:Act):Prop where
 defers:a.defers=a0.defers
 size:a.tmps.size=a0.tmps.size
 wr:∀(s:Nat) (j:Nat),dstOf ops j=some s->D j->s<a0.tmps.size->a.tmps[s]?=some (val j)
 not:∀s:Nat,(∀j,dstOf ops j=some s->¬D j)->a.tmps[s]?=a0.tmps[s]?
theorem Agree.put {ops:Array Oper} {rl qs ts:List Nat} (hf:DrawFit ops rl qs ts) {val:Nat->Value} {D:Nat->Prop} {a0 a:Act} (h:Agree ops val D a0 a) {i:Nat} {o:Oper} (ho:ops[i]?=some o) :
  Agree ops val (λ j=>D j\/j=i) a0 (a.put o.dst (val i)):=by
 have hd:dstOf ops i=o.dst:=by simp [dstOf,ho]
 cases hdst:o.dst with
 | none=>
  rw [hdst] at hd
  refine⟨h.defers,h.size,λ s j hj hD hs=>?_,λ s hs=>h.not s λ j hj hD=>hs j hj (.inl hD)⟩
  rcases hD with hD | rfl
  ·exact h.wr s j hj hD hs
  ·rw [hd] at hj;cases hj
 | some d=>
  rw [hdst] at hd
  refine⟨h.defers,by simp [Act.put,h.size],λ s j hj hD hs=>?_,λ s hs=>?_⟩
  ·by_cases e:d=s
   ·subst e
    obtain rfl:=hf.once _ _ _ hj hd
    simp only [Act.put]
    rw [Array.getElem?_setIfInBounds_self_of_lt (by rw [h.size];exact hs)]
   ·rcases hD with hD | rfl
    ·simp only [Act.put]
     rw [Array.getElem?_setIfInBounds_ne e]
     exact h.wr s j hj hD hs
    ·rw [hd] at hj;cases hj;exact absurd rfl e
  ·have e:d≠s:=λ e=>hs i (e ▸ hd) (.inr rfl)
   simp only [Act.put]
   rw [Array.getElem?_setIfInBounds_ne e]
   exact h.not s λ j hj hD=>hs j hj (.inl hD)
theorem Agree.val {ops:Array Oper} {val val':Nat->Value} {D:Nat->Prop} {a0 a:Act} (h:Agree ops val D a0 a) (hv:∀j,D j->val' j=val j):Agree ops val' D a0 a:=
 ⟨h.defers,h.size,λ s j hj hD hs=>by rw [hv j hD];exact h.wr s j hj hD hs,h.not⟩
theorem Agree.slot {ops:Array Oper} {val:Nat->Value} {D D':Nat->Prop} {a0 a a':Act} (h:Agree ops val D a0 a) (h':Agree ops val D' a0 a') {s:Nat} (hs:∀j,dstOf ops j=some s->(D j↔D' j)):a.tmps[s]?=a'.tmps[s]?:=by
 by_cases hw:∃j,dstOf ops j=some s/\D j
 ·obtain⟨j,hj,hD⟩:=hw
  by_cases hlt:s<a0.tmps.size
  ·rw [h.wr s j hj hD hlt,h'.wr s j hj ((hs j hj).1 hD) hlt]
  ·rw [Array.getElem?_eq_none (by rw [h.size];omega),Array.getElem?_eq_none (by rw [h'.size];omega)]
 ·rw [h.not s λ j hj hD=>hw ⟨j,hj,hD⟩,h'.not s λ j hj hD=>hw ⟨j,hj,(hs j hj).2 hD⟩]
theorem same_op {ops:Array Oper} {a a':Act} {i:Nat} {o:Oper} (ho:ops[i]?=some o) (hns:∀cs b,o.op≠.select cs b) (h:∀s∈looks ops i,a.tmps[s]?=a'.tmps[s]?) :
  execOp a.eval o=execOp a'.eval o/\Region.wanted o (yielded ops a.tmps)=Region.wanted o (yielded ops a'.tmps):=by
 have hl:looks ops i=Oper.looksAt ops o:=by simp [looks,ho]
 rw [hl] at h
 constructor
 ·refine execOp_congr o hns λ x hx=>?_
  cases x with
  | tmp t=>
   have:=h t (by simp only [Oper.looksAt,List.mem_append,List.mem_filterMap,Array.mem_toList_iff];exact .inl ⟨.tmp t,hx,rfl⟩)
   simp only [Act.eval,Array.getD_eq_getD_getElem?,this]
  | _=>rfl
 ·unfold Region.wanted
  cases hg:o.guard with
  | none=>rfl
  | some p=>
   obtain⟨j,want⟩:=p
   simp only []
   have:yielded ops a.tmps j=yielded ops a'.tmps j:=by
    unfold yielded
    cases hj:(ops[j]?).bind (·.dst) with
    | none=>rfl
    | some t=>
     have:=h t (by simp only [Oper.looksAt,hg,List.mem_append];exact .inr (by simp [hj]))
     simp only [Option.bind_some,this]
   rw [this]
section sound
variable {ops:Array Oper} {rl qs ts:List Nat}
def Li (listed:Array Bool) (i:Nat):Prop:=listed.getD i false=true
theorem Li_set {listed:Array Bool} {i j:Nat} (h:i<listed.size):Li (listed.setIfInBounds i true) j↔Li listed j\/j=i:=by
 simp only [Li,Array.getD_eq_getD_getElem?,Array.getElem?_setIfInBounds]
 by_cases e:i=j
 ·subst e;simp [h]
 ·have:¬j=i:=λ x=>e x.symm
  simp [e,this]
theorem before_take (hf:DrawFit ops rl qs ts) {i j:Nat} (h:BefOp ops j i):∀p,(qs++ts)[p]?=some i->j∈(qs++ts).take p:=by
 induction h with
 | edge he=>exact λ p hp=>hf.order p _ hp _ he
 | trans _ he ih=>
  intro p hp
  have:=hf.order p _ hp _ he
  obtain⟨p',hp'⟩:=List.mem_iff_getElem?.1 this
  rw [List.getElem?_take] at hp'
  split at hp'
  ·have h2:=ih p' hp'
   have:(qs++ts).take p' ⊆ (qs++ts).take p:=List.take_subset_take_left _ (by omega)
   exact this h2
  ·cases hp'
theorem before_listed {listed:Array Bool} (down:∀i,Li listed i->∀j∈edges ops i,Li listed j) {i j:Nat} (h:BefOp ops j i):Li listed i->Li listed j:=by
 induction h with
 | edge he=>exact λ hi=>down _ hi _ he
 | trans _ he ih=>exact λ hi=>ih (down _ hi _ he)
theorem before_ready {listed:Array Bool} (down:∀i,Li listed i->∀j∈edges ops i,Li listed j) {i j:Nat} (h:BefOp ops j i) (hr:∀j∈edges ops i,Li listed j):Li listed j:=by
 cases h with
 | edge he=>exact hr _ he
 | trans h he=>exact before_listed down h (hr _ he)
theorem pos_uniq (hf:DrawFit ops rl qs ts) {p p' i:Nat} (h:(qs++ts)[p]?=some i) (h':(qs++ts)[p']?=some i):p=p':=by
 have hp:=(List.getElem?_eq_some_iff.1 h).1
 have hp':=(List.getElem?_eq_some_iff.1 h').1
 exact (List.getElem?_inj hp hf.nodup).1 (h.trans h'.symm)
structure Inv (S:Sys P T) (ops:Array Oper) (rl qs:List Nat) (late:Nat->Bool) (G:View T->Prop) (Z₀:View T) (a0:Act) (Fin:Act->View T->Prop) (listed:Array Bool) (ac:Act) (Z:View T)
  (pre L:List Nat) (C:View T->Prop) (av:Act) (val:Nat->Value):Prop where
 split:qs=pre++L
 der:DrawG S ops rl (BefOp ops) late G Z₀ Fin L C av
 mono:Mono C
 base:Z₀.le Z
 c:C Z
 av:Agree ops val (·∈pre) a0 av
 ac:Agree ops val (Li listed) a0 ac
 sub:∀i,Li listed i->i∈pre
 size:listed.size=ops.size
 down:∀i,Li listed i->∀j∈edges ops i,Li listed j
 rels:∀i∈pre,i∈rl->Li listed i
 pend:∀i∈pre,¬Li listed i->∃o ai p,qs[p]?=some i/\ops[i]?=some o/\Agree ops val (·∈qs.take p) a0 ai /\
  ((Region.wanted o (yielded ops ai.tmps)=false/\val i=undef) \/
   (Region.wanted o (yielded ops ai.tmps)=true/\(∀Z',Z.le Z'->OpQ S o ai (λ v' Z2=>v'=val i/\∃Z1,Shift Z2 Z1/\Z'.le Z1) Z')/\(late i=true->∀Z',G Z'->OpQ S o ai (λ v' Z2=>v'=val i/\∃Z1,Shift Z2 Z1/\Z'.le Z1) Z')))
variable {late:Nat->Bool} {G:View T->Prop} {Z₀:View T} {a0:Act} {Fin:Act->View T->Prop} {listed:Array Bool} {ac av:Act} {Z:View T} {pre L:List Nat} {C:View T->Prop} {val:Nat->Value}
def setv (val:Nat->Value) (i:Nat) (v:Value):Nat->Value:=λ j=>if j=i then v else val j
theorem setv_ne {val:Nat->Value} {i j:Nat} {v:Value} (h:j≠i):setv val i v j=val j:=by simp [setv,h]
theorem setv_same (val:Nat->Value) (i:Nat) (v:Value):setv val i v i=v:=by simp [setv]
theorem not_pre (hf:DrawFit ops rl qs ts) {x:Nat} {rest:List Nat} (h:qs=pre++x::rest):x∉pre:=by
 intro hx
 have:=(List.nodup_append.1 hf.nodup).1
 rw [h] at this
 exact (List.nodup_append.1 this).2.2 x hx x (List.mem_cons_self ..) rfl
theorem take_pre {x:Nat} {rest:List Nat} (h:qs=pre++x::rest):qs.take pre.length=pre/\qs[pre.length]?=some x:=by
 subst h;exact⟨by simp,by simp⟩
theorem all_get {p i:Nat} (hp:qs[p]?=some i):(qs++ts)[p]?=some i:=by
 rw [List.getElem?_append_left (List.getElem?_eq_some_iff.1 hp).1];exact hp
theorem Inv.note (hf:DrawFit ops rl qs ts) {x:Nat} {rest:List Nat} (h:Inv S ops rl qs late G Z₀ a0 Fin listed ac Z pre (x::rest) C av val) (v:Value) :
  Agree ops (setv val x v) (·∈pre) a0 av/\Agree ops (setv val x v) (Li listed) a0 ac /\
  (∀i∈pre,¬Li listed i->∃o ai p,qs[p]?=some i/\ops[i]?=some o/\Agree ops (setv val x v) (·∈qs.take p) a0 ai /\
   ((Region.wanted o (yielded ops ai.tmps)=false/\setv val x v i=undef) \/
    (Region.wanted o (yielded ops ai.tmps)=true/\(∀Z',Z.le Z'->OpQ S o ai (λ v' Z2=>v'=setv val x v i/\∃Z1,Shift Z2 Z1/\Z'.le Z1) Z')/\(late i=true->∀Z',G Z'->OpQ S o ai (λ v' Z2=>v'=setv val x v i/\∃Z1,Shift Z2 Z1/\Z'.le Z1) Z')))):=by
 have hx:=not_pre hf h.split
 refine⟨h.av.val λ j hj=>setv_ne (λ e=>hx (e ▸ hj)),h.ac.val λ j hj=>setv_ne (λ e=>hx (e ▸ h.sub j hj)),λ i hi hl=>?_⟩
 obtain⟨o,ai,p,hp,ho,hag,hh⟩:=h.pend i hi hl
 have hne:i≠x:=λ e=>hx (e ▸ hi)
 refine⟨o,ai,p,hp,ho,hag.val λ j hj=>setv_ne λ e=>?_,by rw [setv_ne hne];exact hh⟩
 subst e
 obtain⟨p',hp'⟩:=List.mem_iff_getElem?.1 hj
 rw [List.getElem?_take] at hp'
 split at hp'
 ·rename_i hlt
  have e1:=pos_uniq hf (all_get (ts:=ts) hp') (all_get (take_pre h.split).2)
  obtain⟨pi,hpi⟩:=List.mem_iff_getElem?.1 hi
  have hpl:pi<pre.length:=(List.getElem?_eq_some_iff.1 hpi).1
  have e2:=pos_uniq hf (all_get (ts:=ts) hp) (all_get (ts:=ts) (p:=pi) (i:=i) (by rw [h.split,List.getElem?_append_left hpl];exact hpi))
  omega
 ·cases hp'
theorem Inv.adv (hf:DrawFit ops rl qs ts) {x:Nat} {rest:List Nat} (h:Inv S ops rl qs late G Z₀ a0 Fin listed ac Z pre (x::rest) C av val) {v:Value} {o:Oper} (ho:ops[x]?=some o) (hrl:x∉rl)
  (hd:DrawG S ops rl (BefOp ops) late G Z₀ Fin rest C (av.put o.dst v))
  (hh:(Region.wanted o (yielded ops av.tmps)=false/\v=undef)\/(Region.wanted o (yielded ops av.tmps)=true/\(∀Z',Z₀.le Z'->C Z'->OpQ S o av (λ v' Z2=>v'=v/\∃Z1,Shift Z2 Z1/\Z'.le Z1) Z')/\(late x=true->∀Z',G Z'->OpQ S o av (λ v' Z2=>v'=v/\∃Z1,Shift Z2 Z1/\Z'.le Z1) Z'))) :
  Inv S ops rl qs late G Z₀ a0 Fin listed ac Z (pre++[x]) rest C (av.put o.dst v) (setv val x v):=by
 obtain⟨n1,n2,n3⟩:=h.note hf v
 have hput:=Agree.put hf n1 ho
 rw [setv_same] at hput
 refine⟨by rw [h.split];simp,hd,h.mono,h.base,h.c,?_,n2,λ i hi=>List.mem_append_left _ (h.sub i hi),h.size,h.down,?_,?_⟩
 ·have e:(λ j=>j∈pre\/j=x)=(·∈pre++[x]):=by funext j;simp
  rw [<- e];exact hput
 ·intro i hi hr
  rcases List.mem_append.1 hi with hi | hi
  ·exact h.rels i hi hr
  ·simp at hi;subst hi;exact absurd hr hrl
 ·intro i hi hl
  rcases List.mem_append.1 hi with hi | hi
  ·exact n3 i hi hl
  ·simp at hi;subst hi
   refine⟨o,av,pre.length,(take_pre h.split).2,ho,by rw [(take_pre h.split).1];exact n1,?_⟩
   rw [setv_same]
   rcases hh with hh | ⟨hw,hh,hg⟩
   ·exact .inl hh
   ·exact .inr ⟨hw,λ Z' hle=>hh Z' (h.base.trans hle) (h.mono _ _ h.c hle),hg⟩
theorem looks_agree (hf:DrawFit ops rl qs ts) (down:∀i,Li listed i->∀j∈edges ops i,Li listed j) {p i:Nat} (hp:qs[p]?=some i) (hl:¬Li listed i) (hr:∀j∈edges ops i,Li listed j)
  {s j:Nat} (hs:s∈looks ops i) (hj:dstOf ops j=some s):Li listed j↔j∈qs.take p:=by
 have hpa:=all_get (ts:=ts) hp
 have hpl:=(List.getElem?_eq_some_iff.1 hp).1
 by_cases e:i=j
 ·subst e
  refine⟨λ h=>absurd h hl,λ h=>?_⟩
  obtain⟨p',hp'⟩:=List.mem_iff_getElem?.1 h
  rw [List.getElem?_take] at hp'
  split at hp'
  ·have:=pos_uniq hf (all_get (ts:=ts) hp') hpa;omega
  ·cases hp'
 ·rcases hf.look i (List.mem_of_getElem? hp) j s e hj hs with hb | hb
  ·have h1:=before_ready down hb hr
   have h2:=before_take hf hb p hpa
   rw [List.take_append_of_le_length (by omega)] at h2
   exact⟨λ _=>h2,λ _=>h1⟩
  ·refine⟨λ h=>absurd (before_listed down hb h) hl,λ h=>?_⟩
   obtain⟨p',hp'⟩:=List.mem_iff_getElem?.1 h
   rw [List.getElem?_take] at hp'
   split at hp'
   ·have h2:=before_take hf hb p' (all_get (ts:=ts) hp')
    obtain⟨p2,hp2⟩:=List.mem_iff_getElem?.1 h2
    rw [List.getElem?_take] at hp2
    split at hp2
    ·have:=pos_uniq hf hp2 hpa;omega
    ·cases hp2
   ·cases hp'
theorem Inv.reach (hf:DrawFit ops rl qs ts) {i:Nat} (hi:i∈qs) (hr:∀j∈edges ops i,Li listed j) :
  ∀(L pre:List Nat) (C:View T->Prop) (av:Act) (val:Nat->Value),Inv S ops rl qs late G Z₀ a0 Fin listed ac Z pre L C av val ->
   ∃pre' L' C' av' val',Inv S ops rl qs late G Z₀ a0 Fin listed ac Z pre' L' C' av' val'/\(i∈pre'\/∃rest,L'=i::rest/\i∈rl):=by
 intro L
 induction L with
 | nil=>
  intro pre C av val h
  exact⟨pre,[],C,av,val,h,.inl (by have:=h.split;simp at this;exact this ▸ hi)⟩
 | cons x rest ih=>
  intro pre C av val h
  by_cases hx:x∈rl
  ·by_cases e:x=i
   ·subst e;exact⟨pre,_,C,av,val,h,.inr ⟨rest,rfl,hx⟩⟩
   ·by_cases hpre:i∈pre
    ·exact⟨pre,_,C,av,val,h,.inl hpre⟩
    ·exfalso
     have hm:i∈rest:=by
      rw [h.split] at hi
      simp at hi
      rcases hi with hi | hi | hi
      ·exact absurd hi hpre
      ·exact absurd hi.symm e
      ·exact hi
     have hb:BefOp ops x i:=by
      refine hf.behind pre.length x (take_pre h.split).2 hx i ?_
      rw [h.split];simp [hm]
     exact not_pre hf h.split (h.sub x (before_ready h.down hb hr))
  ·have hder:=h.der
   cases hder with
   | un _ ho hw hd=>exact ih _ _ _ _ (h.adv hf ho hx hd (.inl ⟨hw,rfl⟩))
   | det v _ ho hw hop hg hd=>exact ih _ _ _ _ (h.adv hf ho hx hd (.inr ⟨hw,hop,hg⟩))
   | rel F hm=>exact absurd hm hx
   | last hm=>exact absurd hm hx
theorem opV_quiet {o:Oper} {a:Act} {K:Value->View T->Prop} {K':Act->View T->Prop} (h:OpQ S o a K Z) (hk:∀v Z,K v Z->K' (a.put o.dst v) Z):OpV S ro o a K' Z:=
 OpQ.opV (h.mono hk)
theorem not_defer {o:Oper} {a:Act} {K:Value->View T->Prop} (h:OpQ S o a K Z):∀c,o.op≠.defer c:=by
 intro c e
 unfold OpQ at h
 simp only [execOp,e] at h
 have h':=(SemV_bind (P:=P) (resolve a.eval c o.type) (λ d=>(pure (.defer d):Sem Next))).1 h
 have hn:SemV P (resolve a.eval c o.type) (λ _ _=>False) Z:=SemV.mono _ h' λ d Z hd=>hd
 obtain⟨callee,args,ats⟩:=c
 cases callee with
 | value f=>cases hv:a.eval f <;> simp [resolve,Deferred.ofValue,hv,SemV,pure,stuck] at hn
 | invoke r mth=>simp [resolve,SemV,pure] at hn
 | builtin bb=>simp [resolve,SemV,pure] at hn
theorem lin_step {k t:Nat} {listed:Array Bool} (h:Region.ready .any ops listed≠[]):∃i∈Region.ready .any ops listed,∃t',Region.linearise.go .any ops (k+1) t listed []=i::Region.linearise.go .any ops k t' (listed.setIfInBounds i true) []:=by
 have hlt:t % (Region.ready .any ops listed).length<(Region.ready .any ops listed).length:=Nat.mod_lt _ (List.length_pos_iff.2 h)
 refine⟨(Region.ready .any ops listed)[t % (Region.ready .any ops listed).length],List.getElem_mem _,t / (Region.ready .any ops listed).length,?_⟩
 have hg:(Region.ready .any ops listed)[t % (Region.ready .any ops listed).length]?=some (Region.ready .any ops listed)[t % (Region.ready .any ops listed).length]:=List.getElem?_eq_getElem hlt
 simp only [Region.linearise.go]
 change (match (Region.ready .any ops listed)[t % (Region.ready .any ops listed).length]? with
   | some i=>Region.linearise.go .any ops k (t / (Region.ready .any ops listed).length) (listed.setIfInBounds i true) [i]
   | none=>[].reverse)=_
 rw [hg]
 simp only []
 rw [linearise_go_acc,List.reverse_singleton,List.singleton_append]
theorem ready_some (hf:DrawFit ops rl qs ts) {listed:Array Bool} (hs:listed.size=ops.size):∀(p i:Nat),(qs++ts)[p]?=some i->¬Li listed i->∃x,x∈Region.ready .any ops listed:=by
 intro p
 induction p using Nat.strongRecOn with
 | ind p ih=>
  intro i hp hi
  by_cases he:∀j∈edges ops i,Li listed j
  ·refine⟨i,ready_spec.2 ⟨(hf.mem i).2 (List.mem_of_getElem? hp),?_,he⟩⟩
   have hlt:i<listed.size:=by rw [hs];exact (hf.mem i).2 (List.mem_of_getElem? hp)
   simp only [Li,Array.getD_eq_getD_getElem?,Array.getElem?_eq_getElem hlt,Option.getD_some,Bool.not_eq_true] at hi ⊢
   exact hi
  ·obtain⟨j,hj,hl⟩:∃j∈edges ops i,¬Li listed j:=by
    apply Classical.byContradiction
    intro hc
    exact he λ j hj=>Classical.byContradiction λ hl=>hc ⟨j,hj,hl⟩
   obtain⟨p',hp'⟩:=List.mem_iff_getElem?.1 (hf.order p i hp j hj)
   rw [List.getElem?_take] at hp'
   split at hp'
   ·exact ih p' (by assumption) j hp' hl
   ·cases hp'
theorem ready_li {listed:Array Bool} {i:Nat} (h:i∈Region.ready .any ops listed):¬Li listed i:=by
 have:=(ready_spec.1 h).2.1
 simp only [Li,Array.getD_eq_getD_getElem?] at this ⊢
 cases hx:listed[i]? <;> simp_all
theorem down_take (hf:DrawFit ops rl qs ts) {listed:Array Bool} {p:Nat} (hl:∀i,Li listed i↔i∈(qs++ts).take p):∀i,Li listed i->∀j∈edges ops i,Li listed j:=by
 intro i hi j hj
 rw [hl] at hi ⊢
 obtain⟨p1,hp1⟩:=List.mem_iff_getElem?.1 hi
 rw [List.getElem?_take] at hp1
 split at hp1
 ·have:=hf.order p1 i hp1 j hj
  exact List.take_subset_take_left _ (by omega) this
 ·cases hp1
theorem tail_go (hf:DrawFit ops rl qs ts):∀(q:Nat) (p t:Nat) (listed:Array Bool),p+q=ts.length->listed.size=ops.size->(∀i,Li listed i↔i∈(qs++ts).take (qs.length+p)) ->
  Region.linearise.go .any ops q t listed []=ts.drop p:=by
 intro q
 induction q with
 | zero=>intro p t listed hp _ _;simp [Region.linearise.go,List.drop_of_length_le (show ts.length<=p by omega)]
 | succ q ih=>
  intro p t listed hp hs hl
  have hlt:p<ts.length:=by omega
  have hx:ts[p]?=some ts[p]:=List.getElem?_eq_getElem hlt
  have hxa:(qs++ts)[qs.length+p]?=some ts[p]:=by rw [List.getElem?_append_right (by omega)];simp
  have hxl:¬Li listed ts[p]:=by
   rw [hl]
   intro h
   obtain⟨p1,hp1⟩:=List.mem_iff_getElem?.1 h
   rw [List.getElem?_take] at hp1
   split at hp1
   ·have:=pos_uniq hf hp1 hxa;omega
   ·cases hp1
  obtain⟨y,hy⟩:=ready_some hf hs _ _ hxa hxl
  obtain⟨i,hi,t',hgo⟩:=lin_step (k:=q) (t:=t) (List.ne_nil_of_mem hy)
  have hdown:=down_take hf hl
  have hie:i=ts[p]:=by
   have hnl:=ready_li hi
   have hr:=(ready_spec.1 hi).2.2
   have hm:=(hf.mem i).1 (ready_spec.1 hi).1
   obtain⟨p1,hp1⟩:=List.mem_iff_getElem?.1 hm
   by_cases h1:p1<qs.length+p
   ·exfalso;apply hnl;rw [hl];exact List.mem_iff_getElem?.2 ⟨p1,by rw [List.getElem?_take,if_pos h1];exact hp1⟩
   ·by_cases h2:p1=qs.length+p
    ·subst h2;rw [hxa] at hp1;cases hp1;rfl
    ·exfalso
     have hp2:ts[p1-qs.length]?=some i:=by rw [List.getElem?_append_right (by omega)] at hp1;exact hp1
     refine hxl (before_ready hdown (hf.tail _ i hp2 ts[p] ?_) hr)
     refine List.mem_append_right _ (List.mem_iff_getElem?.2 ⟨p,?_⟩)
     rw [List.getElem?_take,if_pos (by omega)];exact hx
  subst hie
  rw [hgo,ih (p+1) t' _ (by omega) (by simpa using hs),List.drop_eq_getElem_cons hlt]
  intro j
  rw [Li_set (by rw [hs];exact (ready_spec.1 hi).1),hl]
  have:(qs++ts).take (qs.length+(p+1))=(qs++ts).take (qs.length+p)++[ts[p]]:=by
   rw [<- Nat.add_assoc,List.take_add_one,hxa];rfl
  rw [this];simp
theorem Agree.eq {val:Nat->Value} {D D':Nat->Prop} {a0 a a':Act} (h:Agree ops val D a0 a) (h':Agree ops val D' a0 a') (hd:∀j,D j↔D' j):a=a':=by
 obtain⟨ta,da⟩:=a
 obtain⟨tb,db⟩:=a'
 have h1:da=db:=h.defers.trans h'.defers.symm
 have h2:ta=tb:=by
  apply Array.ext_getElem?
  intro s
  exact h.slot h' (s:=s) λ j _=>hd j
 rw [h1,h2]
theorem draw_go (hf:DrawFit ops rl qs ts) {Q:Ex->Act->View T->Prop}:∀(r t:Nat) (listed:Array Bool) (ac:Act) (Z:View T) (pre L:List Nat) (C:View T->Prop) (av:Act) (val:Nat->Value),
  Inv S ops rl qs late G Z₀ a0 (λ a Z=>OpsV S fn ro ops ts Q a Z) listed ac Z pre L C av val->(qs.filter λ i=>!listed.getD i false).length=r ->
  OpsV S fn ro ops (Region.linearise.go .any ops (r+ts.length) t listed []) Q ac Z:=by
 intro r
 induction r generalizing Z₀ with
 | zero=>
  intro t listed ac Z pre L C av val h hr
  have hall:∀i∈qs,Li listed i:=by
   intro i hi
   have:=List.filter_eq_nil_iff.1 (List.length_eq_zero_iff.1 hr) i hi
   simpa [Li] using this
  have hL:L=[]:=by
   cases L with
   | nil=>rfl
   | cons x rest=>exact absurd (h.sub x (hall x (by rw [h.split];simp))) (not_pre hf h.split)
  subst hL
  have hpre:pre=qs:=by have:=h.split;simp at this;exact this.symm
  subst hpre
  have hder:=h.der
  cases hder with
  | nil hfin=>
   have e:av=ac:=h.av.eq h.ac λ j=>⟨hall j,h.sub j⟩
   have:=hfin Z h.base h.c
   rw [e] at this
   rw [Nat.zero_add,tail_go hf ts.length 0 t listed (by omega) h.size λ i=>?_]
   ·simpa using this
   ·rw [Nat.add_zero,List.take_left']
    ·exact⟨h.sub i,hall i⟩
    ·rfl
 | succ r ih=>
  intro t listed ac Z pre L C av val h hr
  obtain⟨q,hq⟩:∃q,q∈qs.filter λ i=>!listed.getD i false:=List.exists_mem_of_length_pos (by omega)
  have hqs:=(List.mem_filter.1 hq).1
  have hql:¬Li listed q:=by have:=(List.mem_filter.1 hq).2;simpa [Li] using this
  obtain⟨pq,hpq⟩:=List.mem_iff_getElem?.1 hqs
  obtain⟨y,hy⟩:=ready_some hf h.size _ _ (all_get (ts:=ts) hpq) hql
  obtain⟨i,hi,t',hgo⟩:=lin_step (k:=r+ts.length) (t:=t) (List.ne_nil_of_mem hy)
  have hnl:=ready_li hi
  have hred:=(ready_spec.1 hi).2.2
  have hlt:=(ready_spec.1 hi).1
  have hiq:i∈qs:=by
   rcases List.mem_append.1 ((hf.mem i).1 hlt) with hm | hm
   ·exact hm
   ·obtain⟨p1,hp1⟩:=List.mem_iff_getElem?.1 hm
    exact absurd (before_ready h.down (hf.tail p1 i hp1 q (List.mem_append_left _ hqs)) hred) hql
  rw [show r+1+ts.length=(r+ts.length)+1 by omega,hgo]
  have hls:∀j,Li (listed.setIfInBounds i true) j↔Li listed j\/j=i:=λ j=>Li_set (by rw [h.size];exact hlt)
  have hcount:(qs.filter λ x=>!(listed.setIfInBounds i true).getD x false).length=r:=by
   have hnd:=(List.nodup_append.1 hf.nodup).1
   have e:(qs.filter λ x=>!(listed.setIfInBounds i true).getD x false)=(qs.filter λ x=>!listed.getD x false).filter (λ x=>x != i):=by
    rw [List.filter_filter]
    refine List.filter_congr λ x _=>?_
    have:=hls x
    simp only [Li] at this
    cases hx:(listed.setIfInBounds i true).getD x false <;> cases hx':listed.getD x false <;> by_cases e:x=i <;> simp_all
   rw [e,<- List.Nodup.erase_eq_filter (hnd.filter _),List.length_erase_of_mem (List.mem_filter.2 ⟨hiq,by simpa [Li] using hnl⟩),hr]
   rfl
  obtain⟨pre',L',C',av',val',h',hcase⟩:=h.reach hf hiq hred
  have hdown':∀j,Li (listed.setIfInBounds i true) j->∀k∈edges ops j,Li (listed.setIfInBounds i true) k:=by
   intro j hj k hk
   rw [hls] at hj ⊢
   rcases hj with hj | rfl
   ·exact .inl (h.down j hj k hk)
   ·exact .inl (hred k hk)
  have put_ac:∀{val:Nat->Value} {o:Oper},ops[i]?=some o->Agree ops val (Li listed) a0 ac->Agree ops val (Li (listed.setIfInBounds i true)) a0 (ac.put o.dst (val i)):=by
   intro val o ho ha
   have:=Agree.put hf ha ho
   have e:Li (listed.setIfInBounds i true)=λ j=>Li listed j\/j=i:=by funext j;exact propext (hls j)
   rw [e];exact this
  by_cases hpre:i∈pre'
  ·
   obtain⟨o,ai,p,hp,ho,hag,hh⟩:=h'.pend i hpre hnl
   have hsame:=same_op ho (hf.nosel i o ho) (a:=ac) (a':=ai) λ s hs=>h'.ac.slot hag λ j hj=>looks_agree hf h'.down hp hnl hred hs hj
   have next:∀Z1,Z.le Z1->Inv S ops rl qs late G Z₀ a0 (λ a Z=>OpsV S fn ro ops ts Q a Z) (listed.setIfInBounds i true) (ac.put o.dst (val' i)) Z1 pre' L' C' av' val':=λ Z1 hle=>
    ⟨h'.split,h'.der,h'.mono,h'.base.trans hle,h'.mono _ _ h'.c hle,h'.av,put_ac ho h'.ac,λ j hj=>((hls j).1 hj).elim (h'.sub j) (λ e=>e ▸ hpre),by simpa using h'.size,hdown',λ j hj hr=>(hls j).2 (.inl (h'.rels j hj hr)),
     λ j hj hl=>by
      obtain⟨o,ai,p,a,b,c,d⟩:=h'.pend j hj λ hx=>hl ((hls j).2 (.inl hx))
      exact⟨o,ai,p,a,b,c,d.imp id λ⟨x,y,z⟩=>⟨x,λ Z' hZ=>y Z' (hle.trans hZ),z⟩⟩⟩
   rcases hh with⟨hw,hv⟩ | ⟨hw,hop,hg⟩
   ·refine ov_unwanted ho (by rw [hsame.2];exact hw) ?_
    have:=ih t' _ _ _ _ _ _ _ _ (next Z (.refl Z)) hcount
    rw [hv] at this;exact this
   ·have hq':OpQ S o ac (λ v' Z2=>v'=val' i/\∃Z1,Shift Z2 Z1/\Z.le Z1) Z:=by have:=hop Z (.refl Z);unfold OpQ at this ⊢;rw [hsame.1];exact this
    refine ov_cons ho (by rw [hsame.2];exact hw) (.inr (not_defer hq')) (opV_quiet hq' λ v Z2 hv=>?_)
    obtain⟨rfl,Z1,hs,hle⟩:=hv
    exact ov_shift hs (ih t' _ _ _ _ _ _ _ _ (next Z1 hle) hcount)
  ·obtain⟨rest,rfl,hrl⟩:=hcase.resolve_left hpre
   have hder:=h'.der
   cases hder with
   | un hx _ _ _=>exact absurd hrl hx
   | det _ hx _ _ _ _ _=>exact absurd hrl hx
   | @rel _ _ _ _ o F _ hF ho hw hop hd=>
    obtain⟨htk,hget⟩:=take_pre h'.split
    have hsame:=same_op ho (hf.nosel i o ho) (a:=ac) (a':=av') λ s hs=>h'.ac.slot h'.av λ j hj=>by
     have:=looks_agree hf h'.down hget hnl hred hs hj
     rw [htk] at this;exact this
    have hq':OpQ S o ac (λ v' Z2=>∃Z1,Shift Z2 Z1/\F v' Z1/\Z.le Z1) Z:=by have:=hop Z h'.base h'.c;unfold OpQ at this ⊢;rw [hsame.1];exact this
    refine ov_cons ho (by rw [hsame.2];exact hw) (.inr (not_defer hq')) (opV_quiet hq' λ v Z2 hv=>?_)
    obtain⟨Z1,hs,hFv,hle⟩:=hv
    refine ov_shift hs ?_
    obtain⟨n1,n2,n3⟩:=h'.note hf v
    have hav:=Agree.put hf n1 ho
    have hac:=put_ac ho n2
    rw [setv_same] at hav hac
    refine ih t' _ _ Z1 (pre'++[i]) rest (λ Z'=>C' Z'/\F v Z') (av'.put o.dst v) (setv val' i v) ⟨by rw [h'.split];simp,hd v ⟨Z1,h'.base.trans hle,h'.mono _ _ h'.c hle,hFv⟩,λ a b ⟨x,y⟩ hl=>⟨h'.mono a b x hl,hF v a b y hl⟩,h'.base.trans hle,⟨h'.mono _ _ h'.c hle,hFv⟩,?_,hac,?_,by simpa using h'.size,hdown',?_,?_⟩ hcount
    ·have e:(λ j=>j∈pre'\/j=i)=(·∈pre'++[i]):=by funext j;simp
     rw [<- e];exact hav
    ·intro j hj
     rcases (hls j).1 hj with hj | rfl
     ·exact List.mem_append_left _ (h'.sub j hj)
     ·simp
    ·intro j hj hr
     rw [hls]
     rcases List.mem_append.1 hj with hj | hj
     ·exact .inl (h'.rels j hj hr)
     ·exact .inr (by simpa using hj)
    ·intro j hj hl
     rcases List.mem_append.1 hj with hj | hj
     ·obtain⟨o,ai,p,a,b,c,d⟩:=n3 j hj λ hx=>hl ((hls j).2 (.inl hx))
      exact⟨o,ai,p,a,b,c,d.imp id λ⟨x,y,z⟩=>⟨x,λ Z' hZ=>y Z' (hle.trans hZ),z⟩⟩
     ·exact absurd ((hls j).2 (.inr (by simpa using hj))) hl
   | @last _ _ _ o _ hG hlate ho hw hop hfin=>
    obtain⟨htk,hget⟩:=take_pre h'.split
    have hsame:=same_op ho (hf.nosel i o ho) (a:=ac) (a':=av') λ s hs=>h'.ac.slot h'.av λ j hj=>by
     have:=looks_agree hf h'.down hget hnl hred hs hj
     rw [htk] at this;exact this
    have hq':OpQ S o ac (λ v' Z2=>v'=undef/\∃Z1,Shift Z2 Z1/\G Z1) Z:=by have:=hop Z h'.base h'.c;unfold OpQ at this ⊢;rw [hsame.1];exact this
    refine ov_cons ho (by rw [hsame.2];exact hw) (.inr (not_defer hq')) (opV_quiet hq' λ v Z2 hv=>?_)
    obtain⟨rfl,Z1,hs,hGZ⟩:=hv
    refine ov_shift hs ?_
    obtain⟨n1,n2,n3⟩:=h'.note hf undef
    have hav:=Agree.put hf n1 ho
    have hac:=put_ac ho n2
    rw [setv_same] at hav hac
    refine ih (Z₀:=Z1) t' _ _ Z1 (pre'++[i]) [] G (av'.put o.dst undef) (setv val' i undef) ⟨by rw [h'.split];simp,.nil λ Z' _ hg=>hfin ⟨Z,h'.base,h'.c⟩ Z' hg,hG,.refl Z1,hGZ,?_,hac,?_,by simpa using h'.size,hdown',?_,?_⟩ hcount
    ·have e:(λ j=>j∈pre'\/j=i)=(·∈pre'++[i]):=by funext j;simp
     rw [<- e];exact hav
    ·intro j hj
     rcases (hls j).1 hj with hj | rfl
     ·exact List.mem_append_left _ (h'.sub j hj)
     ·simp
    ·intro j hj hr
     rw [hls]
     rcases List.mem_append.1 hj with hj | hj
     ·exact .inl (h'.rels j hj hr)
     ·exact .inr (by simpa using hj)
    ·intro j hj hl
     rcases List.mem_append.1 hj with hj | hj
     ·have hnj:¬Li listed j:=λ hx=>hl ((hls j).2 (.inl hx))
      obtain⟨o,ai,p,a,b,c,d⟩:=n3 j hj hnj
      refine⟨o,ai,p,a,b,c,d.imp id λ⟨x,y,z⟩=>?_⟩
      have hlj:late j=true:=by
       cases hb:late j with
       | true=>rfl
       | false=>exact absurd (before_ready h.down (hlate j hb) hred) hnj
      exact⟨x,λ Z' hZ=>z hlj Z' (hG _ _ hGZ hZ),z⟩
     ·exact absurd ((hls j).2 (.inr (by simpa using hj))) hl
end sound
theorem cv_drawn {late:Nat->Bool} {G:View T->Prop} {Q:Ex->Act->View T->Prop} {a:Act} {Z:View T} {id:Nat} {ops:Array Oper} (rl qs ts:List Nat) (hm:P.follows .mixedOrders=true) (hok:drawOk ops rl qs ts=true)
  (h:DrawG S ops rl (BefOp ops) late G Z (λ a Z=>OpsV S fn ro ops ts Q a Z) qs (λ _=>True) a):CodeV S fn ro (.region id ops true) Q a Z:=by
 have hf:=drawOk_fit hok
 refine cv_draw λ t=>?_
 simp only [Region.schedule,hm,Bool.true_or,if_true,Region.linearise]
 have hc:(qs.filter λ i=>!(Array.replicate ops.size false).getD i false).length=qs.length:=by
  congr 1
  rw [List.filter_eq_self]
  intro x _
  simp [Array.getElem?_replicate]
  split <;> rfl
 have hsize:ops.size=qs.length+ts.length:=by
  have h1:(qs++ts).Perm (List.range ops.size):=by
   refine (List.perm_ext_iff_of_nodup hf.nodup List.nodup_range).2 λ x=>?_
   rw [List.mem_range];exact (hf.mem x).symm
  have:=h1.length_eq
  simp at this
  omega
 have hno:∀i,¬Li (Array.replicate ops.size false) i:=by
  intro i h
  simp only [Li,Array.getD_eq_getD_getElem?,Array.getElem?_replicate] at h
  split at h <;> simp at h
 have:=draw_go (S:=S) (fn:=fn) (ro:=ro) (Q:=Q) hf qs.length t (Array.replicate ops.size false) a Z [] qs (λ _=>True) a (λ _=>undef)
  ⟨rfl,h,λ _ _ _ _=>trivial,.refl Z,trivial,⟨rfl,rfl,λ _ _ _ h=>by simp at h,λ _ _=>rfl⟩,⟨rfl,rfl,λ _ j _ h=>absurd h (hno j),λ _ _=>rfl⟩,λ i h=>absurd h (hno i),by simp,λ i h=>absurd h (hno i),by simp,by simp⟩ hc
 rw [<- hsize] at this
 exact this
end Go.TM
