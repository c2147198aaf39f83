/- Lemmas of the proof. No conditions of their own. -/
import Derived.Conc.Own
import Derived.RunT
import Derived.Orders
set_option linter.all false
open List
namespace Go
abbrev Gr:=Goroutine
def Value.single:Value->Bool
 | .agg _ | .tuple _=>false
 | _=>true
end Go
namespace Go.TM
inductive Qx where
 | obj (b:Nat) (o:Obj)
 | cell (b i:Nat) (v:Value) (T:TypeId) (n:Nat)
def Qx.blk:Qx->Nat
 | .obj b _=>b
 | .cell b _ _ _ _=>b
def Qx.ok (w:World):Qx->Prop
 | .obj b o=>w.heap[b]?=some o
 | .cell b i v T n=>∃c,w.heap[b]?=some (.cells c T (0,0))/\c.size=n/\c[i]?=some v
def Qx.apart:Qx->Qx->Prop
 | .cell b i _ _ _,.cell c j _ _ _=>b≠c\/i≠j
 | r,s=>r.blk≠s.blk
structure Qa (T:Type) where
 I:Nat->Option Obj
 M:List Qx
 tok:T
variable {T:Type}
structure Qa.ok (U:Qa T) (w:World):Prop where
 imm:∀b o,U.I b=some o->w.heap[b]?=some o
 held:∀r∈U.M,r.ok w
 apart:U.M.Pairwise Qx.apart
 sep:∀r∈U.M,U.I r.blk=none
def Qa.canW (U:Qa T):Loc->Prop
 | .cell a=>(∃c t fr,Qx.obj a.block (.cells c t fr)∈U.M/\a.off<c.size)\/(∃v t n,Qx.cell a.block a.off v t n∈U.M)
 | .obj b=>∃o,Qx.obj b o∈U.M
 | _=>False
def Qa.canR (U:Qa T):Loc->Prop
 | .cell a=>U.canW (.cell a)\/∃c t fr,U.I a.block=some (.cells c t fr)/\a.off<c.size
 | .obj b=>U.canW (.obj b)\/∃o,U.I b=some o
 | _=>False
def Loc.new (w:World):Loc->Prop
 | .cell a=>w.heap.size<=a.block
 | .obj b=>w.heap.size<=b
 | _=>False
def Mark.still:Mark->Bool
 | .acquire _ | .release _ | .releaseMerge _ | .disable | .enable | .read _ | .write _=>false
 | _=>true
def Qif (U:Qa T) (w:World) (e:Event):Prop:=
 match e.loc with
 | .cell a=>e.sync=false/\(if e.write then U.canW (.cell a)\/Loc.new w (.cell a) else U.canR (.cell a)\/Loc.new w (.cell a))
 | .obj b=>e.sync=false/\(if e.write then U.canW (.obj b)\/Loc.new w (.obj b) else U.canR (.obj b)\/Loc.new w (.obj b))
 | .mark m=>Mark.still m=true
 | _=>False
def OsL (o o':Os):Prop:=∃d:Nat,o'={ o with wall:=o.wall+d,mono:=o.mono+d }
theorem OsL.refl (o:Os):OsL o o:=⟨0,rfl⟩
theorem OsL.trans {a b c:Os} (h:OsL a b) (k:OsL b c):OsL a c:=by
 obtain⟨d,rfl⟩:=h;obtain⟨e,rfl⟩:=k;exact⟨d+e,by simp [Nat.add_assoc]⟩
structure Qem (U:Qa T) (w w':World) (U':Qa T):Prop where
 os:OsL w.os w'.os
 tape:w'.tape=w.tape
 output:w'.output=w.output
 size:w.heap.size<=w'.heap.size
 cells:∀b c t fr,w.heap[b]?=some (.cells c t fr)->∃c' fr',w'.heap[b]?=some (.cells c' t fr')/\c'.size=c.size/\(∀i,¬U.canW (.cell ⟨b,i,none⟩)->c'[i]?=c[i]?)/\(fr'=fr\/(U.canW (.obj b)/\∀i,i<c.size->U.canW (.cell ⟨b,i,none⟩)))
 objs:∀b o,w.heap[b]?=some o->(∀c t fr,o≠.cells c t fr)->¬U.canW (.obj b)->w'.heap[b]?=some o
 cw:∀l,U'.canW l->U.canW l\/Loc.new w l
 cr:∀l,U'.canR l->U.canR l\/Loc.new w l
theorem Qem.refl (U:Qa T) (w:World):Qem U w w U:=
 ⟨.refl _,rfl,rfl,Nat.le_refl _,λ _ c _ fr h=>⟨c,fr,h,rfl,λ _ _=>rfl,.inl rfl⟩,λ _ _ h _ _=>h,λ _ h=>.inl h,λ _ h=>.inl h⟩
theorem Loc.new_mono {w w':World} (h:w.heap.size<=w'.heap.size) {l:Loc} (hl:Loc.new w' l):Loc.new w l:=by
 cases l <;> simp_all [Loc.new] <;> omega
theorem Qf6 {w:World} {b:Nat} {o:Obj} (h:w.heap[b]?=some o) (i:Nat):¬Loc.new w (.cell ⟨b,i,none⟩):=by
 grind[Loc.new]
theorem Qhg {w:World} {b:Nat} {o:Obj} (h:w.heap[b]?=some o):¬Loc.new w (.obj b):=by
 grind[Loc.new]
theorem Qem.trans {U U1 U2:Qa T} {w w_1 w_2:World} (h:Qem U w w_1 U1) (k:Qem U1 w_1 w_2 U2):Qem U w w_2 U2:=by
 refine⟨h.os.trans k.os,k.tape.trans h.tape,k.output.trans h.output,Nat.le_trans h.size k.size,?_,?_,?_,?_⟩
 .intro b c t fr hb;obtain⟨c_1,f_1,h_1,hs_1,hc_1,hf_1⟩:=h.cells b c t fr hb;obtain⟨c_2,f_2,h_2,hs_2,hc2,hf_2⟩:=k.cells b c_1 t f_1 h_1;refine⟨c_2,f_2,h_2,hs_2.trans hs_1,λ i hi=>?_,?_⟩
  .rw [hc2 i λ hw=>?_,hc_1 i hi];rcases h.cw _ hw with hw | hw
   .exact hi hw
   grind[Qf6]
  .rcases hf_2 with rfl | ⟨ho,hi⟩
   .exact hf_1
   .refine .inr ⟨?_,λ i hlt=>?_⟩
    .rcases h.cw _ ho with hw | hw
     .exact hw
     grind[absurd,Qhg]
    .rcases h.cw _ (hi i (by rw [hs_1];exact hlt)) with hw | hw
     .exact hw
     grind[absurd,Qf6]
 .intro b o hb hne hw;have h_1:=h.objs b o hb hne hw;refine k.objs b o h_1 hne λ hw'=>?_;rcases h.cw _ hw' with hw' | hw'
  .exact hw hw'
  .exact Qhg hb hw'
 .intro l hl;rcases k.cw l hl with hl | hl
  .exact h.cw l hl
  .exact .inr (Loc.new_mono h.size hl)
 .intro l hl;rcases k.cr l hl with hl | hl
  .exact h.cr l hl
  .exact .inr (Loc.new_mono h.size hl)
theorem Qif.of {U U1:Qa T} {w w_1:World} (h:Qem U w w_1 U1) {e:Event} (he:Qif U1 w_1 e):Qif U w e:=by
 obtain⟨loc,wr,sy⟩:=e;cases loc with
 | cell a=>
  simp only [Qif] at he ⊢;refine⟨he.1,?_⟩;have h2:=he.2;split at h2 <;> rename_i hwr <;> simp only [hwr,if_true,if_false,Bool.false_eq_true]
  .rcases h2 with h2 | h2
   .exact h.cw _ h2
   .exact .inr (Loc.new_mono h.size h2)
  .rcases h2 with h2 | h2
   .exact h.cr _ h2
   .exact .inr (Loc.new_mono h.size h2)
 | obj b=>
  simp only [Qif] at he ⊢;refine⟨he.1,?_⟩;have h2:=he.2;split at h2 <;> rename_i hwr <;> simp only [hwr,if_true,if_false,Bool.false_eq_true]
  .rcases h2 with h2 | h2
   .exact h.cw _ h2
   .exact .inr (Loc.new_mono h.size h2)
  .rcases h2 with h2 | h2
   .exact h.cr _ h2
   .exact .inr (Loc.new_mono h.size h2)
 | output=>exact he
 | goroutines=>exact he
 | mark m=>exact he
def Qa.sees (U:Qa T) (a:Addr) (v:Value):Prop:=
 a.spot=none/\((∃c t fr,(U.I a.block=some (.cells c t fr)\/Qx.obj a.block (.cells c t fr)∈U.M)/\c[a.off]?=some v)\/(∃t n,Qx.cell a.block a.off v t n∈U.M))
def Qa.has (U:Qa T) (b:Nat) (o:Obj):Prop:=U.I b=some o\/Qx.obj b o∈U.M
inductive Upd (a:Addr) (v:Value):List Qx->List Qx->Prop
 | obj {c t M}:a.spot=none->a.off<c.size->Upd a v (.obj a.block (.cells c t (0,0))::M) (.obj a.block (.cells (c.setIfInBounds a.off v) t (0,0))::M)
 | cell {u t n M}:a.spot=none->Upd a v (.cell a.block a.off u t n::M) (.cell a.block a.off v t n::M)
 | there {r M M'}:Upd a v M M'->Upd a v (r::M) (r::M')
inductive J4 (b:Nat) (o':Obj):Obj->List Qx->List Qx->Prop
 | here {o M}:J4 b o' o (.obj b o::M) (.obj b o'::M)
 | there {o r M M'}:J4 b o' o M M'->J4 b o' o (r::M) (r::M')
def Obj.shapeOf:Obj->Option (TypeId×Nat)
 | .cells c t _=>some (t,c.size)
 | _=>none
def Obj.isCells:Obj->Bool
 | .cells ..=>true
 | _=>false
def Qa.put (U:Qa T) (b:Nat) (o:Obj):Qa T:={ U with M:=.obj b o::U.M }
def Qa.free (U:Qa T) (b:Nat):Prop:=U.I b=none/\∀r∈U.M,r.blk≠b
def Qr (P:Program) {α:Type}:Sem α->(α->Qa T->Prop)->Qa T->Prop
 | .pure a,Q,U=>Q a U
 | .load m a k,Q,U=>m=.plain/\∃v,U.sees a v/\Qr P (k v) Q U
 | .store m a v k,Q,U=>m=.plain/\v.single=true/\∃M',Upd a v U.M M'/\Qr P k Q { U with M:=M' }
 | .new o k,Q,U=>∀b,U.free b->Qr P (k b) Q (U.put b o)
 | .shape r k,Q,U=>∃o,U.has r o/\Qr P (k (Obj.shapeOf o)) Q U
 | .freeze a n k,Q,U=>n≠0/\∃c t M',U.M=.obj a.block (.cells c t (0,0))::M'/\Qr P k Q { U with M:=.obj a.block (.cells c t (a.off,a.off+n))::M' }
 | .frozen a k,Q,U=>∃c t,U.has a.block (.cells c t (0,0))/\Qr P (k false) Q U
 | .getObj r k,Q,U=>∃o,U.has r o/\Obj.isCells o=false/\o.isChan=false/\Qr P (k o) Q U
 | .setObj r o k,Q,U=>∃o0 M',J4 r o o0 U.M M'/\Obj.isCells o0=false/\Obj.isCells o=false/\o.isChan=false/\Qr P k Q { U with M:=M' }
 | .choose q k,Q,U=>if q.forced then Qr P (k 0) Q U else ∀t,Qr P (k (q.cut t)) Q U
 | .sys _ _,_,_=>False
 | .program k,Q,U=>Qr P (k P) Q U
 | .mark m k,Q,U=>Mark.still m=true/\Qr P k Q U
 | .halt _,_,_=>False
theorem Qa.sees_cell {U:Qa T} {w:World} (h:U.ok w) {a:Addr} {v:Value} (hs:U.sees a v):w.cell? a=some v/\U.canR (.cell a):=by
 obtain⟨hsp,⟨c,t,fr,hb,hc⟩ | ⟨t,n,hm⟩⟩:=hs
 .have hlt:a.off<c.size:=(Array.getElem?_eq_some_iff.1 hc).1;rcases hb with hb | hb
  .exact⟨by simp [World.cell?,h.imm _ _ hb,hsp,hc],.inr ⟨c,t,fr,hb,hlt⟩⟩
  .have:=h.held _ hb;simp only [Qx.ok] at this;exact⟨by grind[World.cell?],.inl (.inl ⟨c,t,fr,hb,hlt⟩)⟩
 .obtain⟨c,hb,_,hc⟩:=h.held _ hm;exact⟨by grind[World.cell?],.inl (.inr ⟨v,t,n,hm⟩)⟩
theorem Qa.has_heap {U:Qa T} {w:World} (h:U.ok w) {b:Nat} {o:Obj} (hs:U.has b o):w.heap[b]?=some o:=by
 rcases hs with hs | hs
 .exact h.imm _ _ hs
 .exact h.held _ hs
theorem Qz7 (w:World) (a:Addr) (v:Value) (c:Array Value) (t:TypeId) (fr:Nat×Nat) (hsp:a.spot=none) (h:w.heap[a.block]?=some (.cells c t fr)) :
  (w.setCell a v).heap[a.block]?=some (.cells (c.setIfInBounds a.off v) t fr):=by
 simp [World.setCell,Array.getElem?_modify,h,hsp]
theorem Wy (w:World) (a:Addr) (v:Value) {b:Nat} (h:b≠a.block):(w.setCell a v).heap[b]?=w.heap[b]?:=by
 simp only [World.setCell,Array.getElem?_modify];grind
theorem Qz8 (w:World) (a:Addr) (v:Value):(w.setCell a v).heap.size=w.heap.size:=by simp [World.setCell]
inductive Qiz (a:Addr) (v:Value):Qx->Qx->Prop
 | obj {b c t}:b=a.block->a.spot=none->a.off<c.size->Qiz a v (.obj b (.cells c t (0,0))) (.obj b (.cells (c.setIfInBounds a.off v) t (0,0)))
 | cell {b i u t n}:b=a.block->i=a.off->a.spot=none->Qiz a v (.cell b i u t n) (.cell b i v t n)
theorem Upd.split {a:Addr} {v:Value} {M M':List Qx} (h:Upd a v M M'):∃M₁ r r' M₂,M=M₁++r::M₂/\M'=M₁++r'::M₂/\Qiz a v r r':=by
 induction h with
 | obj hsp hlt=>exact⟨[],_,_,_,rfl,rfl,.obj rfl hsp hlt⟩
 | cell hsp=>exact⟨[],_,_,_,rfl,rfl,.cell rfl rfl hsp⟩
 | there _ ih=>grind
theorem J4.split {b:Nat} {o' o:Obj} {M M':List Qx} (h:J4 b o' o M M'):∃M₁ M₂,M=M₁++.obj b o::M₂/\M'=M₁++.obj b o'::M₂:=by
 induction h with
 | here=>exact⟨[],_,rfl,rfl⟩
 | there _ ih=>grind
theorem Qiz.blk {a:Addr} {v:Value} {r s:Qx} (h:Qiz a v r s):s.blk=r.blk:=by cases h <;> rfl
theorem Qiz.blk' {a:Addr} {v:Value} {r s:Qx} (h:Qiz a v r s):r.blk=a.block:=by cases h <;> simp_all [Qx.blk]
theorem Qiz.apart {a:Addr} {v:Value} {r s:Qx} (h:Qiz a v r s) (x:Qx):s.apart x↔r.apart x:=by
 cases h <;> cases x <;> simp [Qx.apart,Qx.blk]
theorem Qx.apart_symm {r s:Qx} (h:r.apart s):s.apart r:=by
 cases r <;> cases s <;> simp_all [Qx.apart,Qx.blk,eq_comm]
theorem Qiz.apart' {a:Addr} {v:Value} {r s:Qx} (h:Qiz a v r s) (x:Qx):x.apart s↔x.apart r:=
 ⟨λ k=>Qx.apart_symm ((h.apart x).1 (Qx.apart_symm k)),λ k=>Qx.apart_symm ((h.apart x).2 (Qx.apart_symm k))⟩
def Qx.lets:Qx->Loc->Prop
 | .obj b (.cells c _ _),.cell a=>a.block=b/\a.off<c.size
 | .cell b i _ _ _,.cell a=>a.block=b/\a.off=i
 | .obj b _,.obj b'=>b'=b
 | _,_=>False
theorem Q6 {U:Qa T} {l:Loc}:U.canW l↔∃r∈U.M,r.lets l:=by
 cases l with
 | cell a=>
  simp only [Qa.canW];constructor
  .rintro (⟨c,t,fr,hm,hlt⟩ | ⟨v,t,n,hm⟩)
   .exact⟨_,hm,rfl,hlt⟩
   .exact⟨_,hm,rfl,rfl⟩
  .rintro⟨r,hr,hl⟩;cases r with
   | obj b o=>
    cases o <;> simp only [Qx.lets] at hl;grind
   | cell b i v t n=>
    grind[Qx.lets]
 | obj b=>
  simp only [Qa.canW];constructor
  .rintro⟨o,h⟩;exact⟨_,h,by cases o <;> rfl⟩
  .rintro⟨r,hr,hl⟩;cases r with
   | obj b' o=>grind[Qx.lets]
   | cell b' i v t n=>exact hl.elim
 | output=>simp [Qa.canW];intro r _ h;cases r with | obj b o=>cases o <;> exact h | cell=>exact h
 | goroutines=>simp [Qa.canW];intro r _ h;cases r with | obj b o=>cases o <;> exact h | cell=>exact h
 | mark _=>simp [Qa.canW];intro r _ h;cases r with | obj b o=>cases o <;> exact h | cell=>exact h
theorem Qiz.lets {a:Addr} {v:Value} {r s:Qx} (h:Qiz a v r s) (l:Loc):s.lets l↔r.lets l:=by
 cases h <;> cases l <;> simp [Qx.lets]
theorem Qiz.canAt {a:Addr} {v:Value} {r s:Qx} (h:Qiz a v r s):r.lets (.cell a):=by
 cases h <;> simp_all [Qx.lets]
theorem Qy {U:Qa T} {l:Loc}:U.canR l↔(∃r∈U.M,r.lets l)\/(match l with | .cell a=>∃c t fr,U.I a.block=some (.cells c t fr)/\a.off<c.size | .obj b=>∃o,U.I b=some o | _=>False):=by
 have:=Q6 (U:=U) (l:=l);grind[Qa.canR,Qa.canW]
theorem Zbb {U:Qa T} {w:World} (h:U.ok w) {a:Addr} {v:Value} {M':List Qx} (hu:Upd a v U.M M') :
  (∃u,w.cell? a=some u)/\w.frozen? a=false/\U.canW (.cell a)/\Qa.ok { U with M:=M' } (w.setCell a v)/\Qem U w (w.setCell a v) { U with M:=M' }:=by
 obtain⟨M₁,r,r',M₂,hM,rfl,hl⟩:=hu.split;have hr:r∈U.M:=by rw [hM];simp
 have hcw:U.canW (.cell a):=Q6.2 ⟨r,hr,hl.canAt⟩;have hok:=h.held r hr;have hsp:a.spot=none:=by cases hl <;> assumption
 obtain⟨c,t,hb,hlt⟩:∃c t,w.heap[a.block]?=some (.cells c t (0,0))/\a.off<c.size:=by
  cases hl with
  | obj e _ hlt=>subst e;exact⟨_,_,hok,hlt⟩
  | cell e e' _=>subst e;subst e';obtain⟨c,hb,_,hc⟩:=hok;grind
 have hset:=Qz7 w a v c t (0,0) hsp hb
 have hlets:∀l,(∃s∈M₁++r'::M₂,s.lets l)↔∃s∈U.M,s.lets l:=by
  intro l;rw [hM];simp only [mem_append,mem_cons];constructor
  .rintro⟨s,hs | rfl | hs,hl'⟩
   .exact⟨s,.inl hs,hl'⟩
   .exact⟨r,.inr (.inl rfl),(hl.lets l).1 hl'⟩
   grind
  .rintro⟨s,hs | rfl | hs,hl'⟩
   .exact⟨s,.inl hs,hl'⟩
   .exact⟨r',.inr (.inl rfl),(hl.lets l).2 hl'⟩
   grind
 have hap:=h.apart;rw [hM] at hap;refine⟨⟨c[a.off],by grind[World.cell?]⟩,by simp [World.frozen?,hb],hcw,⟨?_,?_,?_,?_⟩,?_⟩
 .intro b o hI
  have hne:b≠a.block:=by
   intro e;have:=h.sep r hr;rw [hl.blk',<- e,hI] at this;cases this
  rw [Wy _ _ _ hne];exact h.imm b o hI
 .intro s hs;simp only [mem_append,mem_cons] at hs
  have other:∀s,s∈U.M->r.apart s->s.ok (w.setCell a v):=by
   intro s hs hap;have hso:=h.held s hs;cases s with
   | obj b o=>
    have hne:b≠a.block:=by
     cases hl <;> simp_all [Qx.apart,Qx.blk] <;> exact λ e=>hap e.symm
    simp only [Qx.ok] at hso ⊢;rw [Wy _ _ _ hne];exact hso
   | cell b i u t' n=>
    obtain⟨c',hb',hn,hc'⟩:=hso;by_cases hne:b=a.block
    .subst hne;cases hl with
     | obj e _ _=>exact absurd e.symm (by simpa [Qx.apart,Qx.blk] using λ e=>hap e.symm)
     | cell e e' _=>
      have hi:i≠a.off:=by
       simp [Qx.apart] at hap;rcases hap with hap | hap
       .exact absurd e hap
       .exact λ x=>hap (e'.trans x.symm)
      rw [hb] at hb';cases hb';refine⟨c.setIfInBounds a.off v,hset,by simpa using hn,?_⟩;rw [Array.getElem?_setIfInBounds_ne (λ x=>hi x.symm)];exact hc'
    .exact⟨c',by rw [Wy _ _ _ hne];exact hb',hn,hc'⟩
  rw [pairwise_append,pairwise_cons] at hap;rcases hs with hs | rfl | hs
  .exact other s (by rw [hM];simp [hs]) (Qx.apart_symm (hap.2.2 s hs r (by simp)))
  .cases hl with
   | obj e _ _=>subst e;simp only [Qx.ok] at hok ⊢;rw [hok] at hb;cases hb;exact hset
   | cell e e' _=>
    subst e;subst e';obtain⟨c',hb',hn,hc'⟩:=hok;rw [hb] at hb';cases hb';exact⟨_,hset,by simpa using hn,by rw [Array.getElem?_setIfInBounds_self_of_lt hlt]⟩
  simp_all
 .show Pairwise Qx.apart (M₁++r'::M₂);rw [pairwise_append,pairwise_cons] at hap ⊢;refine⟨hap.1,⟨λ s hs=>(hl.apart s).2 (hap.2.1.1 s hs),hap.2.1.2⟩,λ s hs x hx=>?_⟩;rcases mem_cons.1 hx with rfl | hx
  .exact (hl.apart' s).2 (hap.2.2 s hs r (by simp))
  simp_all
 .intro s hs;show U.I s.blk=none;simp only [mem_append,mem_cons] at hs;rcases hs with hs | rfl | hs
  .exact h.sep s (by rw [hM];simp [hs])
  .rw [hl.blk];exact h.sep r hr
  .exact h.sep s (by rw [hM];simp [hs])
 .refine⟨.refl _,rfl,rfl,by rw [Qz8];exact Nat.le_refl _,?_,?_,?_,?_⟩
  .intro b c' t' fr hb';by_cases hne:b=a.block
   .subst hne;rw [hb] at hb';cases hb';refine⟨_,_,hset,by simp,λ i hi=>?_,.inl rfl⟩;rw [Array.getElem?_setIfInBounds_ne];rintro rfl;refine hi (Q6.2 ⟨r,hr,?_⟩);have:=hl.canAt;cases hl <;> simp_all [Qx.lets]
   .exact⟨c',fr,by rw [Wy _ _ _ hne];exact hb',rfl,λ _ _=>rfl,.inl rfl⟩
  .intro b o ho hne _;by_cases e:b=a.block
   .subst e;rw [hb] at ho;cases ho;exact absurd rfl (hne _ _ _)
   .rw [Wy _ _ _ e];exact ho
  .intro l hl';rw [Q6] at hl' ⊢;exact .inl ((hlets l).1 hl')
  simp_all[Qy,id]
def World.plus (w:World) (o:Obj):World:={ w with heap:=w.heap.push o }
theorem Zn0 {U:Qa T} {w:World} (h:U.ok w) (o:Obj) :
  U.free w.heap.size/\Qa.ok (U.put w.heap.size o) (World.plus w o)/\Qem U w (World.plus w o) (U.put w.heap.size o):=by
 have hold:∀b,b<w.heap.size->(World.plus w o).heap[b]?=w.heap[b]?:=λ b hb=>by
  simp only [World.plus,Array.getElem?_push];grind
 have hlt:∀r∈U.M,r.blk<w.heap.size:=by
  intro r hr;have:=h.held r hr;cases r with
  | obj b o=>exact (Array.getElem?_eq_some_iff.1 this).1
  | cell b i v t n=>obtain⟨c,hb,_⟩:=this;exact (Array.getElem?_eq_some_iff.1 hb).1
 have hfree:U.free w.heap.size:=by
  refine⟨?_,λ r hr e=>by grind⟩;cases e:U.I w.heap.size with
  | none=>rfl
  | some x=>have:=(Array.getElem?_eq_some_iff.1 (h.imm _ _ e)).1;omega
 have hne:∀b o',U.I b=some o'->b<w.heap.size:=λ b o' e=>(Array.getElem?_eq_some_iff.1 (h.imm _ _ e)).1;refine⟨hfree,⟨λ b o' e=>by rw [hold _ (hne b o' e)];exact h.imm b o' e,?_,?_,?_⟩,?_⟩
 .intro r hr;rcases mem_cons.1 hr with rfl | hr
  .simp [Qx.ok,World.plus]
  .have:=h.held r hr;cases r with
   | obj b o'=>exact (hold b (hlt _ hr)).trans this
   | cell b i v t n=>obtain⟨c,hb,x⟩:=this;exact⟨c,(hold b (hlt _ hr)).trans hb,x⟩
 .refine pairwise_cons.2 ⟨λ r hr=>?_,h.apart⟩;grind[Qx.apart,Qx.blk]
 .intro r hr;rcases mem_cons.1 hr with rfl | hr
  .exact hfree.1
  .exact h.sep r hr
 .refine⟨.refl _,rfl,rfl,by simp [World.plus],?_,?_,?_,?_⟩
  .grind
  .grind
  .intro l hl;rw [Q6] at hl ⊢;obtain⟨r,hr,hl⟩:=hl;rcases mem_cons.1 hr with rfl | hr
   .refine .inr ?_;cases l <;> cases o <;> simp_all [Qx.lets,Loc.new]
   grind
  .intro l hl;rw [Qy] at hl ⊢;rcases hl with⟨r,hr,hl⟩ | hl
   .rcases mem_cons.1 hr with rfl | hr
    .refine .inr ?_;cases l <;> cases o <;> simp_all [Qx.lets,Loc.new]
    grind
   .exact .inl (.inr hl)
theorem Zgi {U:Qa T} {w:World} (h:U.ok w) {b:Nat} {o' o:Obj} {M':List Qx} (hu:J4 b o' o U.M M') (h1:Obj.isCells o=false) (h2:Obj.isCells o'=false) :
  w.heap[b]?=some o/\U.canW (.obj b)/\Qa.ok { U with M:=M' } { w with heap:=w.heap.setIfInBounds b o' }/\Qem U w { w with heap:=w.heap.setIfInBounds b o' } { U with M:=M' }:=by
 obtain⟨M₁,M₂,hM,rfl⟩:=hu.split;have hr:Qx.obj b o∈U.M:=by rw [hM];simp
 have hb:w.heap[b]?=some o:=h.held _ hr;have hlt:=(Array.getElem?_eq_some_iff.1 hb).1;have hcw:U.canW (.obj b):=⟨o,hr⟩;have hap:=h.apart;rw [hM] at hap
 have hold:∀x,x≠b->(w.heap.setIfInBounds b o')[x]?=w.heap[x]?:=λ x hx=>by
  grind
 have hlets:∀l,(Qx.obj b o').lets l↔(Qx.obj b o).lets l:=by
  intro l;cases o <;> cases o' <;> simp_all [Obj.isCells] <;> cases l <;> simp [Qx.lets]
 have hall:∀l,(∃s∈M₁++Qx.obj b o'::M₂,s.lets l)↔∃s∈U.M,s.lets l:=by
  intro l;rw [hM];simp only [mem_append,mem_cons];constructor
  .rintro⟨s,hs | rfl | hs,hl'⟩
   .exact⟨s,.inl hs,hl'⟩
   .exact⟨_,.inr (.inl rfl),(hlets l).1 hl'⟩
   .exact⟨s,.inr (.inr hs),hl'⟩
  .rintro⟨s,hs | rfl | hs,hl'⟩
   .exact⟨s,.inl hs,hl'⟩
   .exact⟨_,.inr (.inl rfl),(hlets l).2 hl'⟩
   .exact⟨s,.inr (.inr hs),hl'⟩
 have ap1:∀x,(Qx.obj b o').apart x↔(Qx.obj b o).apart x:=λ x=>by grind[Qx.apart,Qx.blk]
 refine⟨hb,hcw,⟨?_,?_,?_,?_⟩,?_⟩
 .intro x ox hI;have hne:x≠b:=by rintro rfl;have:=h.sep _ hr;simp only [Qx.blk] at this;rw [hI] at this;cases this
  show (w.heap.setIfInBounds b o')[x]?=_;rw [hold x hne];exact h.imm x ox hI
 .intro s hs
  have other:∀s,s∈U.M->(Qx.obj b o).apart s->s.ok { w with heap:=w.heap.setIfInBounds b o' }:=by
   intro s hs hap;have hso:=h.held s hs;cases s with
   | obj x ox=>
    have hne:x≠b:=by simp [Qx.apart,Qx.blk] at hap;exact λ e=>hap e.symm
    show (w.heap.setIfInBounds b o')[x]?=_;rw [hold x hne];exact hso
   | cell x i u t n=>
    have hne:x≠b:=by simp [Qx.apart,Qx.blk] at hap;exact λ e=>hap e.symm
    obtain⟨c',hb',hn,hc'⟩:=hso;exact⟨c',(hold x hne).trans hb',hn,hc'⟩
  simp only [mem_append,mem_cons] at hs;rw [pairwise_append,pairwise_cons] at hap;rcases hs with hs | rfl | hs
  .exact other s (by rw [hM];simp [hs]) (Qx.apart_symm (hap.2.2 s hs _ (by simp)))
  .show (w.heap.setIfInBounds b o')[b]?=_;rw [Array.getElem?_setIfInBounds_self_of_lt hlt]
  simp_all
 .show Pairwise Qx.apart (M₁++Qx.obj b o'::M₂);rw [pairwise_append,pairwise_cons] at hap ⊢;refine⟨hap.1,⟨λ s hs=>(ap1 s).2 (hap.2.1.1 s hs),hap.2.1.2⟩,λ s hs x hx=>?_⟩;rcases mem_cons.1 hx with rfl | hx
  .exact Qx.apart_symm ((ap1 s).2 (Qx.apart_symm (hap.2.2 s hs _ (by simp))))
  .exact hap.2.2 s hs x (by simp [hx])
 .intro s hs;show U.I s.blk=none;simp only [mem_append,mem_cons] at hs;rcases hs with hs | rfl | hs
  .exact h.sep s (by rw [hM];simp [hs])
  .exact (h.sep _ hr:U.I b=none)
  .exact h.sep s (by rw [hM];simp [hs])
 .refine⟨.refl _,rfl,rfl,by simp,?_,?_,?_,?_⟩
  .intro x c' t' fr hb';by_cases e:x=b
   .subst e;rw [hb] at hb';cases hb';simp [Obj.isCells] at h1
   .exact⟨c',fr,(hold x e).trans hb',rfl,λ _ _=>rfl,.inl rfl⟩
  .intro x ox ho hne hw;by_cases e:x=b
   .subst e;exact absurd hcw hw
   .exact (hold x e).trans ho
  .intro l hl';rw [Q6] at hl' ⊢;exact .inl ((hall l).1 hl')
  grind[Qy,id]
theorem Qpe (w:World) (a:Addr) (n:Nat) (hn:n≠0) (c:Array Value) (t:TypeId) (h:w.heap[a.block]?=some (.cells c t (0,0))):(w.freeze a n).heap[a.block]?=some (.cells c t (a.off,a.off+n)):=by
 simp [World.freeze,hn,Array.getElem?_modify,h]
theorem W4 (w:World) (a:Addr) (n:Nat) {b:Nat} (h:b≠a.block):(w.freeze a n).heap[b]?=w.heap[b]?:=by
 unfold World.freeze;grind
theorem Q3u (w:World) (a:Addr) (n:Nat):(w.freeze a n).heap.size=w.heap.size:=by grind[World.freeze]
theorem Qnt (w:World) (a:Addr) (n:Nat):(w.freeze a n).os=w.os/\(w.freeze a n).tape=w.tape/\(w.freeze a n).output=w.output:=by grind[World.freeze]
theorem Zgh {U:Qa T} {w:World} (h:U.ok w) {a:Addr} {n:Nat} (hn:n≠0) {c:Array Value} {t:TypeId} {M':List Qx} (hM:U.M=.obj a.block (.cells c t (0,0))::M') :
  Qa.ok { U with M:=.obj a.block (.cells c t (a.off,a.off+n))::M' } (w.freeze a n)/\Qem U w (w.freeze a n) { U with M:=.obj a.block (.cells c t (a.off,a.off+n))::M' }:=by
 have hr:Qx.obj a.block (.cells c t (0,0))∈U.M:=by rw [hM];simp
 have hb:w.heap[a.block]?=some (.cells c t (0,0)):=h.held _ hr;have hap:=h.apart;rw [hM,pairwise_cons] at hap;have hlets:∀l,(Qx.obj a.block (.cells c t (a.off,a.off+n))).lets l↔(Qx.obj a.block (.cells c t (0,0))).lets l:=λ l=>by cases l <;> rfl
 have hall:∀l,(∃s∈Qx.obj a.block (.cells c t (a.off,a.off+n))::M',s.lets l)↔∃s∈U.M,s.lets l:=by
  intro l;rw [hM];constructor
  .rintro⟨s,hs,hl⟩;rcases mem_cons.1 hs with rfl | hs
   .exact⟨_,mem_cons_self ..,(hlets l).1 hl⟩
   .exact⟨s,mem_cons_of_mem _ hs,hl⟩
  .rintro⟨s,hs,hl⟩;rcases mem_cons.1 hs with rfl | hs
   .exact⟨_,mem_cons_self ..,(hlets l).2 hl⟩
   .exact⟨s,mem_cons_of_mem _ hs,hl⟩
 have ne:∀r∈M',r.blk≠a.block:=λ r hr' e=>by
  grind[Qx.apart,Qx.blk]
 refine⟨⟨λ b o hI=>?_,λ s hs=>?_,?_,λ s hs=>?_⟩,?_⟩
 .have:b≠a.block:=by rintro rfl;have:=h.sep _ hr;simp only [Qx.blk] at this;rw [hI] at this;cases this
  rw [W4 _ _ _ this];exact h.imm b o hI
 .rcases mem_cons.1 hs with rfl | hs
  .exact Qpe w a n hn c t hb
  .have hne:=ne s hs;have hso:=h.held s (by rw [hM];simp [hs]);cases s with
   | obj b o=>exact (W4 w a n hne).trans hso
   | cell b i v t n'=>obtain⟨c',h1,h2⟩:=hso;exact⟨c',(W4 w a n hne).trans h1,h2⟩
 .grind[Qx.apart,pairwise_cons,Qx.blk]
 .rcases mem_cons.1 hs with rfl | hs
  .exact (h.sep _ hr:U.I a.block=none)
  .exact h.sep s (by rw [hM];simp [hs])
 .refine⟨by rw [(Qnt w a n).1];exact .refl _,(Qnt w a n).2.1,(Qnt w a n).2.2,by rw [Q3u];exact Nat.le_refl _,?_,?_,?_,?_⟩
  .intro b c' t' fr hb';by_cases e:b=a.block
   .subst e;rw [hb] at hb';cases hb';exact⟨c,_,Qpe w a n hn c t hb,rfl,λ _ _=>rfl,.inr ⟨Q6.2 ⟨_,hr,rfl⟩,λ i hi=>Q6.2 ⟨_,hr,rfl,hi⟩⟩⟩
   .exact⟨c',fr,by rw [W4 _ _ _ e];exact hb',rfl,λ _ _=>rfl,.inl rfl⟩
  .intro b o ho hne _;by_cases e:b=a.block
   .subst e;rw [hb] at ho;cases ho;exact absurd rfl (hne _ _ _)
   .rw [W4 _ _ _ e];exact ho
  .intro l hl;rw [Q6] at hl ⊢;exact .inl ((hall l).1 hl)
  grind[Qy,id]
theorem Q37 {U:Qa T} {w:World} (h:U.ok w) (d:Nat):U.ok { w with drawn:=d }:=⟨h.imm,h.held,h.apart,h.sep⟩
theorem Qjd (U:Qa T) (w:World) (d:Nat):Qem U w { w with drawn:=d } U:=
 ⟨.refl _,rfl,rfl,Nat.le_refl _,λ _ c _ fr h=>⟨c,fr,h,rfl,λ _ _=>rfl,.inl rfl⟩,λ _ _ h _ _=>h,λ _ h=>.inl h,λ _ h=>.inl h⟩
def Qyk (w:World) (e:Event):Prop:=
 match e.loc with
 | .cell a=>a.block<w.heap.size
 | .obj b=>b<w.heap.size
 | _=>True
theorem Qyk.mono {w w':World} {e:Event} (h:Qyk w e) (hs:w.heap.size<=w'.heap.size):Qyk w' e:=by
 grind[Qyk]
theorem Zb4 {w:World} {a:Addr} {v:Value} (h:w.cell? a=some v):a.block<w.heap.size:=by
 apply Classical.byContradiction;grind[Array.getElem?_eq_none,Nat.le_of_not_lt,World.cell?]
theorem Qr.sound {P:Program} {α:Type} (s:Sem α):∀{Q:α->Qa T->Prop} {U:Qa T} {w:World} {es₀:Array Event},Qr P s Q U->U.ok w ->
  ∃a w' es U',s.runT P w es₀=(.ok a w',es₀++es)/\(∀e∈es,Qif U w e/\Qyk w' e)/\Qem U w w' U'/\U'.ok w'/\Q a U'/\U'.tok=U.tok:=by
 induction s with
 | pure a=>exact λ {Q U w es₀} h ok=>⟨a,w,#[],U,by simp [Sem.runT],by simp,.refl _ _,ok,h,rfl⟩
 | load m a k ih=>
  intro Q U w es₀ h ok;obtain⟨rfl,v,hs,h⟩:=h;obtain⟨hc,hr⟩:=Qa.sees_cell ok hs;obtain⟨x,w',es,U',hrun,hev,hg,hok,hq⟩:=ih v (es₀:=es₀.push ⟨.cell a,false,false⟩) h ok;refine⟨x,w',#[⟨.cell a,false,false⟩]++es,U',?_,?_,hg,hok,hq⟩
  .simp only [Sem.runT,hc];rw [show (Mode.plain == Mode.atomic)=false from rfl,hrun];simp
  .intro e he;rcases Array.mem_append.1 he with he | he
   .simp at he;subst he;exact⟨⟨rfl,.inl hr⟩,Nat.lt_of_lt_of_le (Zb4 hc) hg.size⟩
   .exact hev e he
 | store m a v k ih=>
  intro Q U w es₀ h ok;obtain⟨rfl,hv,M',hu,h⟩:=h;obtain⟨⟨u,hc⟩,hf,hcw,hok1,hg1⟩:=Zbb ok hu;obtain⟨x,w',es,U',hrun,hev,hg,hok,hq⟩:=ih (es₀:=es₀.push ⟨.cell a,true,false⟩) h hok1;refine⟨x,w',#[⟨.cell a,true,false⟩]++es,U',?_,?_,hg1.trans hg,hok,hq⟩
  .have:Sem.runT P (.store .plain a v k) w es₀=k.runT P (w.setCell a v) (es₀.push ⟨.cell a,true,false⟩):=by
    cases v <;> first | (simp [Value.single] at hv;done) | (simp only [Sem.runT,hc,hf];rfl)
   simp_all
  .intro e he;rcases Array.mem_append.1 he with he | he
   .simp at he;subst he;exact⟨⟨rfl,.inl hcw⟩,Nat.lt_of_lt_of_le (Zb4 hc) (hg1.trans hg).size⟩
   grind[Qif.of]
 | new o k ih=>
  intro Q U w es₀ h ok;obtain⟨hf,hok1,hg1⟩:=Zn0 ok o;obtain⟨x,w',es,U',hrun,hev,hg,hok,hq⟩:=ih w.heap.size (es₀:=es₀) (h _ hf) hok1;exact⟨x,w',es,U',hrun,λ e he=>⟨Qif.of hg1 (hev e he).1,(hev e he).2⟩,hg1.trans hg,hok,hq⟩
 | shape r k ih=>
  intro Q U w es₀ h ok;obtain⟨o,ho,h⟩:=h;have hb:=Qa.has_heap ok ho
  have hsh:w.shape? r=Obj.shapeOf o:=by
   simp only [World.shape?,hb];cases o <;> rfl
  simp_all[Sem.runT]
 | freeze a n k ih=>
  intro Q U w es₀ h ok;obtain⟨hn,c,t,M',hM,h⟩:=h;obtain⟨hok1,hg1⟩:=Zgh ok hn hM;obtain⟨x,w',es,U',hrun,hev,hg,hok,hq⟩:=ih (es₀:=es₀) h hok1;exact⟨x,w',es,U',by grind[Sem.runT],λ e he=>⟨Qif.of hg1 (hev e he).1,(hev e he).2⟩,hg1.trans hg,hok,hq⟩
 | frozen a k ih=>
  intro Q U w es₀ h ok;obtain⟨c,t,hb,h⟩:=h;have hb:=Qa.has_heap ok hb;simp_all[World.frozen?,Sem.runT]
 | getObj r k ih=>
  intro Q U w es₀ h ok;obtain⟨o,ho,hc,hch,h⟩:=h;have hb:=Qa.has_heap ok ho;obtain⟨x,w',es,U',hrun,hev,hg,hok,hq⟩:=ih o (es₀:=es₀.push ⟨.obj r,false,false⟩) h ok;refine⟨x,w',#[⟨.obj r,false,false⟩]++es,U',?_,?_,hg,hok,hq⟩
  .have:Sem.runT P (.getObj r k) w es₀=(k o).runT P w (es₀.push ⟨.obj r,false,o.isChan⟩):=by
    simp only [Sem.runT,hb];cases o <;> simp_all [Obj.isCells]
   simp_all
  .intro e he;rcases Array.mem_append.1 he with he | he
   .simp at he;subst he;refine⟨⟨rfl,.inl ?_⟩,Nat.lt_of_lt_of_le (Array.getElem?_eq_some_iff.1 hb).1 hg.size⟩;rcases ho with ho | ho
    .exact .inr ⟨o,ho⟩
    .exact .inl ⟨o,ho⟩
   .exact hev e he
 | setObj r o k ih=>
  intro Q U w es₀ h ok;obtain⟨o0,M',hu,h1,h2,hch,h⟩:=h;obtain⟨hb,hcw,hok1,hg1⟩:=Zgi ok hu h1 h2;obtain⟨x,w',es,U',hrun,hev,hg,hok,hq⟩:=ih (es₀:=es₀.push ⟨.obj r,true,false⟩) h hok1;refine⟨x,w',#[⟨.obj r,true,false⟩]++es,U',?_,?_,hg1.trans hg,hok,hq⟩
  .have:Sem.runT P (.setObj r o k) w es₀=k.runT P { w with heap:=w.heap.setIfInBounds r o } (es₀.push ⟨.obj r,true,o.isChan⟩):=by
    simp only [Sem.runT,hb];cases o0 <;> simp_all [Obj.isCells]
   simp_all
  .intro e he;rcases Array.mem_append.1 he with he | he
   .simp at he;subst he;exact⟨⟨rfl,.inl hcw⟩,Nat.lt_of_lt_of_le (Array.getElem?_eq_some_iff.1 hb).1 (hg1.trans hg).size⟩
   grind[Qif.of]
 | choose q k ih=>
  intro Q U w es₀ h ok;simp only [Qr] at h;by_cases hq:q.forced=true
  .simp_all[if_pos,Sem.runT,if_true]
  .rw [if_neg hq] at h;obtain⟨x,w',es,U',hrun,hev,hg,hok,hq'⟩:=ih _ (es₀:=es₀) (h (w.tape w.drawn q)) (Q37 ok (w.drawn+1));exact⟨x,w',es,U',by grind[Sem.runT],λ e he=>⟨Qif.of (Qjd U w _) (hev e he).1,(hev e he).2⟩,(Qjd U w _).trans hg,hok,hq'⟩
 | sys c k ih=>exact λ {Q U w es₀} h ok=>h.elim
 | program k ih=>
  intro Q U w es₀ h ok;obtain⟨x,w',es,U',hrun,hev,hg,hok,hq⟩:=ih P (es₀:=es₀) h ok;grind[Sem.runT]
 | mark m k ih=>
  intro Q U w es₀ h ok;obtain⟨hm,h⟩:=h;obtain⟨x,w',es,U',hrun,hev,hg,hok,hq⟩:=ih (es₀:=es₀.push ⟨.mark m,false,true⟩) h ok;refine⟨x,w',#[⟨.mark m,false,true⟩]++es,U',?_,?_,hg,hok,hq⟩
  .simp_all[Sem.runT]
  .intro e he;rcases Array.mem_append.1 he with he | he
   .simp at he;subst he;exact⟨hm,trivial⟩
   .exact hev e he
 | halt h=>exact λ {Q U w es₀} h ok=>h.elim
theorem Qr.mono {P:Program} {α:Type} (s:Sem α):∀{Q Q':α->Qa T->Prop} {U:Qa T},Qr P s Q U->(∀a U,Q a U->Q' a U)->Qr P s Q' U:=by
 induction s with
 | pure a=>exact λ h q=>q _ _ h
 | load m a k ih=>exact λ⟨e,v,hs,h⟩ q=>⟨e,v,hs,ih v h q⟩
 | store m a v k ih=>exact λ⟨e,e',M',hu,h⟩ q=>⟨e,e',M',hu,ih h q⟩
 | new o k ih=>exact λ h q b hb=>ih b (h b hb) q
 | shape r k ih=>exact λ⟨o,ho,h⟩ q=>⟨o,ho,ih _ h q⟩
 | freeze a n k ih=>exact λ⟨x,c,t,M',hM,h⟩ q=>⟨x,c,t,M',hM,ih h q⟩
 | frozen a k ih=>exact λ⟨c,t,hb,h⟩ q=>⟨c,t,hb,ih _ h q⟩
 | getObj r k ih=>exact λ⟨o,a,b,c,h⟩ q=>⟨o,a,b,c,ih _ h q⟩
 | setObj r o k ih=>exact λ⟨o0,M',a,b,c,d,h⟩ q=>⟨o0,M',a,b,c,d,ih h q⟩
 | choose q k ih=>
  intro Q Q' U h hq;simp only [Qr] at h ⊢;grind
 | sys c k ih=>exact λ h _=>h
 | program k ih=>exact λ h q=>ih _ h q
 | mark m k ih=>exact λ⟨a,h⟩ q=>⟨a,ih h q⟩
 | halt h=>exact λ h _=>h
theorem Qly {P:Program} {α β:Type} (s:Sem α) (f:α->Sem β):∀{Q:β->Qa T->Prop} {U:Qa T},Qr P (s.bind f) Q U↔Qr P s (λ a U=>Qr P (f a) Q U) U:=by
 induction s with
 | pure a=>exact λ {_ _}=>Iff.rfl
 | load m a k ih=>grind[Sem.bind,Qr]
 | store m a v k ih=>grind[Sem.bind,Qr]
 | new o k ih=>grind[Sem.bind,Qr]
 | shape r k ih=>grind[Sem.bind,Qr]
 | freeze a n k ih=>grind[Sem.bind,Qr]
 | frozen a k ih=>grind[Sem.bind,Qr]
 | getObj r k ih=>grind[Sem.bind,Qr]
 | setObj r o k ih=>grind[Sem.bind,Qr]
 | choose q k ih=>grind[Sem.bind,Qr]
 | sys c k ih=>grind[Sem.bind,Qr]
 | program k ih=>grind[Sem.bind,Qr]
 | mark m k ih=>grind[Sem.bind,Qr]
 | halt h=>grind[Sem.bind,Qr]
end Go.TM
namespace Go.TM
variable {T:Type} {P:Program}
structure Sys (P:Program) (T:Type) where
 syn:(Bool->Gr->Qa T->Prop)->Bool->Gr->Qa T->Prop
 mono:∀{X Y:Bool->Gr->Qa T->Prop},(∀m g U,X m g U->Y m g U)->∀m g U,syn X m g U->syn Y m g U
def Qw (U U':Qa T):Prop:=U'.tok=U.tok/\∀w,U.ok w->U'.ok w/\(∀l,U'.canW l->U.canW l)/\(∀l,U'.canR l->U.canR l)
theorem Qw.refl (U:Qa T):Qw U U:=⟨rfl,λ _ h=>⟨h,λ _ h=>h,λ _ h=>h⟩⟩
theorem Qw.trans {U U1 U2:Qa T} (h:Qw U U1) (k:Qw U1 U2):Qw U U2:=
 ⟨k.1.trans h.1,λ w ok=>let ⟨a,b,c⟩:=h.2 w ok;let ⟨a',b',c'⟩:=k.2 w a;⟨a',λ l x=>b l (b' l x),λ l x=>c l (c' l x)⟩⟩
abbrev Stp (T:Type):=Bool->Gr->Qa T->Prop
def Zc8 (P:Program) (X:Stp T) (m:Bool) (g:Gr) (U:Qa T):Prop:=
 g.status=.running/\∀w,U.ok w->∃g' w' es U',stepG P m g w=.go g' w' es/\(∀e∈es,Qif U w e/\Qyk w' e)/\Qem U w w' U'/\U'.ok w'/\U'.tok=U.tok/\X m g' U'
def FJ (S:Sys P T) (Stop:Stp T) (X:Stp T) (m:Bool) (g:Gr) (U:Qa T):Prop:=
 ∃U1,Qw U U1/\(Stop m g U1\/Zc8 P X m g U1\/S.syn X m g U1)
def J (S:Sys P T) (Stop:Stp T) (m:Bool) (g:Gr) (U:Qa T):Prop:=
 ∀X:Stp T,(∀m g U,FJ S Stop X m g U->X m g U)->X m g U
theorem Zc8.mono {X Y:Stp T} (h:∀m g U,X m g U->Y m g U) {m:Bool} {g:Gr} {U:Qa T} (k:Zc8 P X m g U):Zc8 P Y m g U:=
 ⟨k.1,λ w ok=>let ⟨g',w',es,U',a,b,c,d,e,f⟩:=k.2 w ok;⟨g',w',es,U',a,b,c,d,e,h _ _ _ f⟩⟩
theorem FJ.mono {S:Sys P T} {Stop X Y:Stp T} (h:∀m g U,X m g U->Y m g U) {m:Bool} {g:Gr} {U:Qa T} (k:FJ S Stop X m g U):FJ S Stop Y m g U:=by
 obtain⟨U1,hs,k | k | k⟩:=k
 .exact⟨U1,hs,.inl k⟩
 .exact⟨U1,hs,.inr (.inl (k.mono h))⟩
 .exact⟨U1,hs,.inr (.inr (S.mono h _ _ _ k))⟩
variable {S:Sys P T} {Stop:Stp T} {m:Bool}
theorem J.fold {g:Gr} {U:Qa T} (h:FJ S Stop (J S Stop) m g U):J S Stop m g U:=
 λ X hX=>hX _ _ _ (h.mono λ _ _ _ k=>k X hX)
theorem J.ind {X:Stp T} (hX:∀m g U,FJ S Stop (λ m g U=>X m g U/\J S Stop m g U) m g U->X m g U) {g:Gr} {U:Qa T} (h:J S Stop m g U):X m g U:=
 (h (λ m g U=>X m g U/\J S Stop m g U) λ m g U k=>⟨hX m g U k,J.fold (k.mono λ _ _ _ x=>x.2)⟩).1
theorem J.unfold {g:Gr} {U:Qa T} (h:J S Stop m g U):FJ S Stop (J S Stop) m g U:=
 J.ind (X:=FJ S Stop (J S Stop)) (λ _ _ _ k=>k.mono λ _ _ _ x=>x.2) h
theorem J.stop {g:Gr} {U:Qa T} (h:Stop m g U):J S Stop m g U:=.fold ⟨U,.refl _,.inl h⟩
theorem J.priv {g:Gr} {U:Qa T} (h:Zc8 P (J S Stop) m g U):J S Stop m g U:=.fold ⟨U,.refl _,.inr (.inl h)⟩
theorem J.syn {g:Gr} {U:Qa T} (h:S.syn (J S Stop) m g U):J S Stop m g U:=.fold ⟨U,.refl _,.inr (.inr h)⟩
theorem J.still {g g':Gr} {U:Qa T} (hs:g.status=.running) (h:∀w,stepG P m g w=.go g' w) (k:J S Stop m g' U):J S Stop m g U:=
 .priv ⟨hs,λ w ok=>⟨g',w,#[],U,h w,by simp,.refl _ _,ok,rfl,k⟩⟩
theorem Jq (P:Program) (fn:FuncId) (es:Array Event):∀e∈seen P fn es,e∈es:=by
 dsimp only [seen]
 rw [<- Array.foldl_toList]
 have key:∀(l:List Event) (x:Bool×Array Event),(∀e∈x.2,e∈es)->(∀e∈l,e∈es) ->
   ∀e∈(l.foldl (λ (x:Bool×Array Event) e=>match e.loc with | .mark (.extern f)=>((P.funcs[f]?).any (·.norace),x.2) | _=>(x.1,if x.1 && !e.sync then x.2 else x.2.push e)) x).2,e∈es:=by
  intro l
  induction l with
  | nil=>simp_all
  | cons a l ih=>
   grind
 exact key es.toList _ (by simp) (by simp)
theorem J.sem {α:Type} {g:Gr} {U:Qa T} (s:Sem α) {Q:α->Qa T->Prop} (hs:g.status=.running) (h:Qr P s Q U)
  (hstep:∀w x w' es,s.runT P w #[]=(.ok x w',es)->(∃U',Q x U')->∃g' es',stepG P m g w=.go g' w' es'/\(∀e∈es',e∈es)/\(∀U',Q x U'->J S Stop m g' U')):J S Stop m g U:=by
 refine .priv ⟨hs,λ w ok=>?_⟩;obtain⟨x,w',es,U',hr,hev,hg,hok,hq,ht⟩:=Qr.sound s (es₀:=#[]) h ok;obtain⟨g',es',hst,hsub,hk⟩:=hstep w x w' es (by simpa using hr) ⟨U',hq⟩;grind
def fr (b:Frame) (a:Act) (todo:List Item):Frame:={ b with tmps:=a.tmps,todo:=todo,defers:=a.defers,mode:=.run }
def R (b:Frame) (a:Act) (todo:List Item) (cs:List Frame):Gr:={ frame:=fr b a todo,callers:=cs,status:=.running,dying:=none }
def Rf (f:Frame) (cs:List Frame):Gr:={ frame:=f,callers:=cs,status:=.running,dying:=none }
theorem Qqc (b:Frame) (a:Act) (todo:List Item):(fr b a todo).eval=a.eval:=by funext x;cases x <;> rfl
section moves
variable {b:Frame} {a:Act} {k:List Item} {cs:List Frame} {w:World}
theorem Zml:stepG P m (R b a (.code .skip::k) cs) w=.go (R b a k cs) w:=by simp [R,stepG,stepG.exec,fr]
theorem Zkl {l:Nat}:stepG P m (R b a (.code (.label l)::k) cs) w=.go (R b a k cs) w:=by simp [R,stepG,stepG.exec,fr]
theorem Zbm {id:Nat}:stepG P m (R b a (.inBlock id::k) cs) w=.go (R b a k cs) w:=by simp [R,stepG,stepG.exec,fr]
theorem Zbn {c:Code}:stepG P m (R b a (.inScope c::k) cs) w=.go (R b a k cs) w:=by simp [R,stepG,stepG.exec,fr]
theorem Zn9 {x y:Code}:stepG P m (R b a (.code (.seq x y)::k) cs) w=.go (R b a (.code x::.code y::k) cs) w:=by simp [R,stepG,stepG.exec,fr]
theorem Zmg {c:Operand} {x y:Code} {t:Bool} (h:a.eval c=.bool t) :
  stepG P m (R b a (.code (.cond c x y)::k) cs) w=.go (R b a (.code (if t then x else y)::k) cs) w:=by
 have h':(fr b a (.code (.cond c x y)::k)).eval c=.bool t:=by rw [Qqc];exact h
 simp only [fr] at h';simp [R,stepG,stepG.exec,fr,h']
theorem Zkk {id:Nat} {c:Code}:stepG P m (R b a (.code (.block id c)::k) cs) w=.go (R b a (.code c::.inBlock id::k) cs) w:=by simp [R,stepG,stepG.exec,fr]
theorem Zmj {c:Code}:stepG P m (R b a (.code (.loop c)::k) cs) w=.go (R b a (.code c::.inLoop c::k) cs) w:=by simp [R,stepG,stepG.exec,fr]
theorem Zgq {c:Code}:stepG P m (R b a (.inLoop c::k) cs) w=.go (R b a (.code c::.inLoop c::k) cs) w:=by simp [R,stepG,stepG.exec,fr]
theorem Zkm {c:Code}:stepG P m (R b a (.code (.scope c)::k) cs) w=.go (R b a (.code c::.inScope c::k) cs) w:=by simp [R,stepG,stepG.exec,fr]
theorem Zmi {id:Nat} {k':List Item} (h:exitTo id k=some k'):stepG P m (R b a (.code (.exit id)::k) cs) w=.go (R b a k' cs) w:=by simp [R,stepG,stepG.exec,fr,h]
theorem Zgr {id:Nat} {ops:Array Oper}:stepG P m (R b a (.code (.region id ops false)::k) cs) w=.go (R b a (.inRegion ops (range ops.size)::k) cs) w:=by simp [R,stepG,stepG.exec,fr]
theorem Qvs {ops:Array Oper}:stepG P m (R b a (.inRegion ops []::k) cs) w=.go (R b a k cs) w:=by simp [R,stepG,stepG.exec,fr]
theorem Q4i {ops:Array Oper} {i:Nat} {rest:List Nat} {o:Oper} (ho:ops[i]?=some o) (hw:Region.wanted o (yielded ops a.tmps)=false) :
  stepG P m (R b a (.inRegion ops (i::rest)::k) cs) w=.go (R b (a.put o.dst undef) (.inRegion ops rest::k) cs) w:=by
 cases hd:o.dst <;> simp [R,stepG,stepG.exec,fr,ho,hw,Frame.finish,Act.put,hd]
theorem Zmk {ops:Array Oper} {i:Nat} {rest:List Nat} {o:Oper} (ho:ops[i]?=some o) (hw:Region.wanted o (yielded ops a.tmps)=true)
  (hr:b.roundOf=none\/∀c,o.op≠.defer c) :
  stepG P m (R b a (.inRegion ops (i::rest)::k) cs) w=stepG.apply P true (fr b a (.inRegion ops (i::rest)::k)) cs none (execOp a.eval o) w:=by
 have he:=Qqc b a (.inRegion ops (i::rest)::k);simp only [fr] at he;rcases hr with hr | hr
 .rw [hr] at he;simp [R,stepG,stepG.exec,stepG.oper,Frame.oper?,fr,ho,hw,hr];rw [he]
 .simp only [R,stepG,stepG.exec,stepG.oper,Frame.oper?,fr,ho,Option.map_some,hw,Option.getD_some,if_true,he];simp_all
theorem Qco {ops:Array Oper} {i:Nat} {rest:List Nat} {o:Oper} (ho:ops[i]?=some o) (v:Value) :
  (fr b a (.inRegion ops (i::rest)::k)).finish v=fr b (a.put o.dst v) (.inRegion ops rest::k):=by
 grind[Frame.finish,fr,Act.put]
end moves
inductive Ex where
 | normal
 | exit (id:Nat)
 | ret
def Qeg (S:Sys P T) (Stop:Stp T) (m:Bool) (b:Frame) (cs:List Frame) (jump:Option Code) (a:Act) (U:Qa T):Prop:=
 match b.roundOf with
 | none=>(jump=none\/jump=some .ret)/\∀todo,J S Stop m (Rf { fr b a todo with mode:=.returning } cs) U
 | some l=>∃c rest,cs=c::rest/\Qr P (Instr.endRound l jump) (λ v U'=>J S Stop m (Rf (c.finish v) rest) U') U
def Qef (S:Sys P T) (Stop:Stp T) (m:Bool) (b:Frame) (k:List Item) (cs:List Frame):Ex->Act->Qa T->Prop
 | .normal,a,U=>J S Stop m (R b a k cs) U
 | .exit id,a,U=>(∃k',exitTo id k=some k'/\J S Stop m (R b a k' cs) U)\/(exitTo id k=none/\Qeg S Stop m b cs (some (.exit id)) a U)
 | .ret,a,U=>Qeg S Stop m b cs (some .ret) a U
def Fr (fn:FuncId) (ro:Option Nat) (b:Frame):Prop:=b.fn=fn/\b.roundOf=ro/\b.kind≠.early/\(ro.isSome->b.kind=.normal)
def Zw (S:Sys P T) (fn:FuncId) (ro:Option Nat) (c:Code) (Q:Ex->Act->Qa T->Prop) (a:Act) (U:Qa T):Prop:=
 ∀(Stop:Stp T) (m:Bool) (b:Frame) (k:List Item) (cs:List Frame),Fr fn ro b->(∀e a' U',Q e a' U'->Qef S Stop m b k cs e a' U')->J S Stop m (R b a (.code c::k) cs) U
def Qbg (S:Sys P T) (fn:FuncId) (ro:Option Nat) (ops:Array Oper) (todo:List Nat) (Q:Ex->Act->Qa T->Prop) (a:Act) (U:Qa T):Prop:=
 ∀(Stop:Stp T) (m:Bool) (b:Frame) (k:List Item) (cs:List Frame),Fr fn ro b->(∀e a' U',Q e a' U'->Qef S Stop m b k cs e a' U')->J S Stop m (R b a (.inRegion ops todo::k) cs) U
def Qb (S:Sys P T) (f:FuncId) (args:Array Value) (Q:Value->Qa T->Prop) (U:Qa T):Prop:=
 ∀(Stop:Stp T) (m:Bool) (c:Frame) (cs:List Frame),(∀v U',Q v U'->J S Stop m (Rf (c.finish v) cs) U')->J S Stop m (Rf (Frame.enter P f args .normal) (c::cs)) U
def Qar (S:Sys P T) (l:Nat) (f:FuncId) (tmps:Array Value) (assign body:Code) (Q:Value->Qa T->Prop) (U:Qa T):Prop:=
 ∀(Stop:Stp T) (m:Bool) (c:Frame) (cs:List Frame),(∀v U',Q v U'->J S Stop m (Rf (c.finish v) cs) U')->J S Stop m (Rf (Frame.round l f tmps assign body .normal) (c::cs)) U
theorem Qef.push {b:Frame} {x:Item} {k:List Item} {cs:List Frame} {e:Ex} {a:Act} {U:Qa T} (hx:∀id k,exitTo id (x::k)=exitTo id k) (he:e≠.normal)
  (h:Qef S Stop m b k cs e a U):Qef S Stop m b (x::k) cs e a U:=by
 cases e with
 | normal=>simp_all
 | exit id=>grind[Qef]
 | ret=>exact h
section rules
variable {fn:FuncId} {ro:Option Nat} {Q:Ex->Act->Qa T->Prop} {a:Act} {U:Qa T}
theorem Zw.mono {c:Code} {Q':Ex->Act->Qa T->Prop} (h:Zw S fn ro c Q a U) (hq:∀e a U,Q e a U->Q' e a U):Zw S fn ro c Q' a U:=
 λ Stop m b k cs hb hc=>h Stop m b k cs hb λ e a' U' q=>hc e a' U' (hq e a' U' q)
theorem Qb.mono {f:FuncId} {args:Array Value} {R R':Value->Qa T->Prop} (h:Qb S f args R U) (hr:∀v U,R v U->R' v U):Qb S f args R' U:=
 λ Stop m c cs k=>h Stop m c cs λ v U' r=>k v U' (hr v U' r)
theorem Qar.mono {l:Nat} {f:FuncId} {tmps:Array Value} {as bd:Code} {R R':Value->Qa T->Prop} (h:Qar S l f tmps as bd R U) (hr:∀v U,R v U->R' v U):Qar S l f tmps as bd R' U:=
 λ Stop m c cs k=>h Stop m c cs λ v U' r=>k v U' (hr v U' r)
theorem J.shift {g:Gr} {U U':Qa T} (hs:Qw U U') (h:J S Stop m g U'):J S Stop m g U:=by
 obtain⟨U1,h1,h⟩:=h.unfold;exact .fold ⟨U1,hs.trans h1,h⟩
theorem Zjn {c:Code} {U':Qa T} (hs:Qw U U') (h:Zw S fn ro c Q a U'):Zw S fn ro c Q a U:=λ Stop m b k cs hb hc=>.shift hs (h Stop m b k cs hb hc)
theorem Qfd {ops:Array Oper} {todo:List Nat} {U':Qa T} (hs:Qw U U') (h:Qbg S fn ro ops todo Q a U'):Qbg S fn ro ops todo Q a U:=λ Stop m b k cs hb hc=>.shift hs (h Stop m b k cs hb hc)
theorem Qb.shift {f:FuncId} {args:Array Value} {R:Value->Qa T->Prop} {U':Qa T} (hs:Qw U U') (h:Qb S f args R U'):Qb S f args R U:=λ Stop m c cs k=>.shift hs (h Stop m c cs k)
theorem Qar.shift {l:Nat} {f:FuncId} {tmps:Array Value} {as bd:Code} {R:Value->Qa T->Prop} {U':Qa T} (hs:Qw U U') (h:Qar S l f tmps as bd R U'):Qar S l f tmps as bd R U:=λ Stop m c cs k=>.shift hs (h Stop m c cs k)
theorem Qb.post {f:FuncId} {args:Array Value} {R R':Value->Qa T->Prop} (h:Qb S f args R U) (hr:∀v U,R v U->∃U',Qw U U'/\R' v U'):Qb S f args R' U:=
 λ Stop m c cs k=>h Stop m c cs λ v U' r=>let ⟨_,hs,r'⟩:=hr v U' r;.shift hs (k v _ r')
theorem Zln (h:Q .normal a U):Zw S fn ro .skip Q a U:=λ _ _ _ _ _ _ hc=>.still rfl (λ _=>Zml) (hc _ _ _ h)
theorem Zjj {l:Nat} (h:Q .normal a U):Zw S fn ro (.label l) Q a U:=λ _ _ _ _ _ _ hc=>.still rfl (λ _=>Zkl) (hc _ _ _ h)
theorem Znv {x y:Code} (h:Zw S fn ro x (λ e a' U'=>match e with | .normal=>Zw S fn ro y Q a' U' | e=>Q e a' U') a U):Zw S fn ro (.seq x y) Q a U:=by
 intro Stop m b k cs hb hc;refine .still rfl (λ _=>Zn9) (h Stop m b (.code y::k) cs hb λ e a' U' q=>?_);cases e with
 | normal=>exact q Stop m b k cs hb hc
 | exit id=>exact (hc _ _ _ q).push (λ _ _=>rfl) (by simp)
 | ret=>exact (hc _ _ _ q).push (x:=.code y) (λ _ _=>rfl) (by simp)
theorem Zlm {c:Operand} {x y:Code} (t:Bool) (hc:a.eval c=.bool t) (h:Zw S fn ro (if t then x else y) Q a U):Zw S fn ro (.cond c x y) Q a U:=
 λ Stop m b k cs hb hq=>.still rfl (λ _=>Zmg hc) (h Stop m b k cs hb hq)
theorem Zji {id:Nat} {c:Code} (h:Zw S fn ro c (λ e a' U'=>match e with | .normal=>Q .normal a' U' | .exit id'=>if id'=id then Q .normal a' U' else Q (.exit id') a' U' | .ret=>Q .ret a' U') a U) :
  Zw S fn ro (.block id c) Q a U:=by
 intro Stop m b k cs hb hc;refine .still rfl (λ _=>Zkk) (h Stop m b (.inBlock id::k) cs hb λ e a' U' q=>?_);cases e with
 | normal=>exact .still rfl (λ _=>Zbm) (hc _ _ _ q)
 | exit id'=>
  by_cases hid:id'=id
  .simp only [hid,if_true] at q;exact .inl ⟨k,by simp [exitTo,hid],hc _ _ _ q⟩
  .simp only [hid,if_false] at q;have hne:(id == id')=false:=by simp;exact λ h=>hid h.symm
   simpa only [Qef,exitTo,hne,Bool.false_eq_true,if_false] using hc _ _ _ q
 | ret=>exact hc _ _ _ q
theorem Zjm {c:Code} (h:Zw S fn ro c Q a U):Zw S fn ro (.scope c) Q a U:=by
 intro Stop m b k cs hb hc;refine .still rfl (λ _=>Zkm) (h Stop m b (.inScope c::k) cs hb λ e a' U' q=>?_);cases e with
 | normal=>exact .still rfl (λ _=>Zbn) (hc _ _ _ q)
 | exit id=>exact (hc _ _ _ q).push (λ _ _=>rfl) (by simp)
 | ret=>exact (hc _ _ _ q).push (x:=.inScope c) (λ _ _=>rfl) (by simp)
theorem Zb8 {id:Nat} (h:Q (.exit id) a U):Zw S fn ro (.exit id) Q a U:=by
 intro Stop m b k cs hb hc;rcases hc _ _ _ h with⟨k',hk,hj⟩ | ⟨hk,hl⟩
 .exact .still rfl (λ _=>Zmi hk) hj
 .cases hro:b.roundOf with
  | none=>grind[Qeg]
  | some l=>
   simp only [Qeg,hro] at hl;obtain⟨c,rest,rfl,hs⟩:=hl;have hkn:b.kind=.normal:=hb.2.2.2 (by rw [<- hb.2.1,hro];rfl);refine .sem _ rfl hs λ w x w' es hrun _=>⟨Rf (c.finish x) rest,seen P b.fn es,?_,Jq P _ es,λ _ h=>h⟩;obtain⟨hr,he⟩:Sem.run P (Instr.endRound l (some (.exit id))) w=.ok x w'/\Sem.events P (Instr.endRound l (some (.exit id))) w #[]=es:=by simpa using hrun
   simp [R,stepG,stepG.exec,fr,hro,hk,hr,he,doReturn,hkn,GStep.after,Rf]
theorem Zjl (h:Q .ret a U):Zw S fn ro .ret Q a U:=by
 intro Stop m b k cs hb hc;have hl:=hc _ _ _ h;cases hro:b.roundOf with
 | none=>
  simp only [Qef,Qeg,hro] at hl;refine .still rfl (λ w=>?_) (hl.2 (.code .ret::k));simp [R,Rf,stepG,stepG.exec,fr,hro]
 | some l=>
  simp only [Qef,Qeg,hro] at hl;obtain⟨c,rest,rfl,hs⟩:=hl;have hkn:b.kind=.normal:=hb.2.2.2 (by rw [<- hb.2.1,hro];rfl);refine .sem _ rfl hs λ w x w' es hrun _=>⟨Rf (c.finish x) rest,seen P b.fn es,?_,Jq P _ es,λ _ h=>h⟩;obtain⟨hr,he⟩:Sem.run P (Instr.endRound l (some .ret)) w=.ok x w'/\Sem.events P (Instr.endRound l (some .ret)) w #[]=es:=by simpa using hrun
  simp [R,stepG,stepG.exec,fr,hro,hr,he,doReturn,hkn,GStep.after,Rf]
theorem Qxp {id:Nat} {ops:Array Oper} (h:Qbg S fn ro ops (range ops.size) Q a U):Zw S fn ro (.region id ops false) Q a U:=
 λ Stop m b k cs hb hc=>.still rfl (λ _=>Zgr) (h Stop m b k cs hb hc)
theorem Zkd {ops:Array Oper} (h:Q .normal a U):Qbg S fn ro ops [] Q a U:=λ _ _ _ _ _ _ hc=>.still rfl (λ _=>Qvs) (hc _ _ _ h)
def Zbx (S:Sys P T) (ro:Option Nat) (o:Oper) (a:Act) (K:Act->Qa T->Prop):Next->Qa T->Prop
 | .value v,U=>K (a.put o.dst v) U
 | .skip,U=>K (a.put o.dst undef) U
 | .defer d,U=>ro=none/\K ({ a with defers:=d::a.defers }.put o.dst undef) U
 | .enter f args,U=>Qb S f args (λ v U'=>K (a.put o.dst v) U') U
 | .round l f tmps assign body,U=>Qar S l f tmps assign body (λ v U'=>K (a.put o.dst v) U') U
 | _,_=>False
def OpV (S:Sys P T) (ro:Option Nat) (o:Oper) (a:Act) (K:Act->Qa T->Prop) (U:Qa T):Prop:=Qr P (execOp a.eval o) (Zbx S ro o a K) U
theorem Qcl {ops:Array Oper} {i:Nat} {rest:List Nat} {o:Oper} (ho:ops[i]?=some o) (hw:Region.wanted o (yielded ops a.tmps)=true) (hd:ro=none\/∀c,o.op≠.defer c)
  (h:OpV S ro o a (Qbg S fn ro ops rest Q) U):Qbg S fn ro ops (i::rest) Q a U:=by
 intro Stop m b k cs hb hc;have hke:(b.kind == CallKind.early)=false:=by simpa using hb.2.2.1
 have hd':b.roundOf=none\/∀c,o.op≠.defer c:=by rw [hb.2.1];exact hd
 refine .sem _ rfl h λ w x w' es hrun hex=>?_;rw [Zmk ho hw hd'];have hr:(execOp a.eval o).run P w=.ok x w':=by have:=Sem.runT_fst P (execOp a.eval o) w #[];rw [hrun] at this;exact this.symm
 cases x with
 | value v=>
  refine⟨R b (a.put o.dst v) (.inRegion ops rest::k) cs,seen P b.fn es,?_,Jq P _ es,λ U' q=>q Stop m b k cs hb hc⟩;have:=Qco (b:=b) (a:=a) (k:=k) (rest:=rest) ho v;simp only [stepG.apply,if_true,hrun];simp [fr,hke,GStep.after,R] at this ⊢;exact this
 | skip=>
  refine⟨R b (a.put o.dst undef) (.inRegion ops rest::k) cs,seen P b.fn es,?_,Jq P _ es,λ U' q=>q Stop m b k cs hb hc⟩;have:=Qco (b:=b) (a:=a) (k:=k) (rest:=rest) ho undef;simp only [stepG.apply,if_true,hrun];simp [fr,hke,GStep.after,R] at this ⊢;exact this
 | defer d=>
  refine⟨R b ({ a with defers:=d::a.defers }.put o.dst undef) (.inRegion ops rest::k) cs,seen P b.fn es,?_,Jq P _ es,λ U' q=>q.2 Stop m b k cs hb hc⟩;have:=Qco (b:=b) (a:={ a with defers:=d::a.defers }) (k:=k) (rest:=rest) ho undef;simp only [stepG.apply,if_true,hrun];simp [fr,hke,GStep.after,R] at this ⊢;exact this
 | enter f args=>
  refine⟨Rf (Frame.enter P f args .normal) (fr b a (.inRegion ops (i::rest)::k)::cs),seen P b.fn es,?_,Jq P _ es,λ U' q=>?_⟩
  .simp_all[stepG.apply,if_true,fr,GStep.after,Rf]
  .refine q Stop m _ cs λ v U'' q'=>?_;have:=q' Stop m b k cs hb hc;rw [Qco ho];exact this
 | round l f tmps assign body=>
  refine⟨Rf (Frame.round l f tmps assign body .normal) (fr b a (.inRegion ops (i::rest)::k)::cs),seen P b.fn es,?_,Jq P _ es,λ U' q=>?_⟩
  .simp_all[stepG.apply,if_true,fr,GStep.after,Rf]
  .refine q Stop m _ cs λ v U'' q'=>?_;have:=q' Stop m b k cs hb hc;rw [Qco ho];exact this
 | _=>obtain⟨_,hq⟩:=hex;exact hq.elim
theorem Qb5 {ops:Array Oper} {i:Nat} {rest:List Nat} {o:Oper} (ho:ops[i]?=some o) (hw:Region.wanted o (yielded ops a.tmps)=false)
  (h:Qbg S fn ro ops rest Q (a.put o.dst undef) U):Qbg S fn ro ops (i::rest) Q a U:=
 λ Stop m b k cs hb hc=>.still rfl (λ _=>Q4i ho hw) (h Stop m b k cs hb hc)
theorem Qbg.mono {ops:Array Oper} {todo:List Nat} {Q':Ex->Act->Qa T->Prop} (h:Qbg S fn ro ops todo Q a U) (hq:∀e a U,Q e a U->Q' e a U):Qbg S fn ro ops todo Q' a U:=
 λ Stop m b k cs hb hc=>h Stop m b k cs hb λ e a' U' q=>hc e a' U' (hq e a' U' q)
end rules
def Qf8 (I:Nat->Option Obj) (b:Nat) (o:Obj):Nat->Option Obj:=λ x=>if x=b then some o else I x
theorem Qh8 {M M':List Qx} (h:∀r,r∈M'->r∈M) {l:Loc}:(∃r∈M',r.lets l)->∃r∈M,r.lets l:=λ⟨r,hr,hl⟩=>⟨r,h r hr,hl⟩
theorem Qx6 {U:Qa T} {M':List Qx} (h:∃M₀,Perm U.M (M'++M₀)):Qw U { U with M:=M' }:=by
 obtain⟨M₀,hp⟩:=h;have hmem:∀r,r∈M'->r∈U.M:=λ r hr=>hp.mem_iff.2 (mem_append_left _ hr);refine⟨rfl,λ w ok=>⟨⟨ok.imm,λ r hr=>ok.held r (hmem r hr),?_,λ r hr=>ok.sep r (hmem r hr)⟩,λ l hl=>?_,λ l hl=>?_⟩⟩
 .have:=(hp.pairwise_iff (λ {x y} h=>Qx.apart_symm h)).1 ok.apart;grind
 .rw [Q6] at hl ⊢;exact Qh8 hmem hl
 .rw [Qy] at hl ⊢;grind
theorem We {U:Qa T} {b:Nat} {o:Obj} {M':List Qx} (h:Perm U.M (.obj b o::M')):Qw U { U with I:=Qf8 U.I b o,M:=M' }:=by
 have hmem:∀r,r∈M'->r∈U.M:=λ r hr=>h.mem_iff.2 (mem_cons_of_mem _ hr);have hb:Qx.obj b o∈U.M:=h.mem_iff.2 (mem_cons_self ..);refine⟨rfl,λ w ok=>?_⟩;have hap:=(h.pairwise_iff (λ {x y} h=>Qx.apart_symm h)).1 ok.apart;rw [pairwise_cons] at hap;refine⟨⟨?_,λ r hr=>ok.held r (hmem r hr),hap.2,?_⟩,λ l hl=>?_,λ l hl=>?_⟩
 .intro x ox hx;simp only [Qf8] at hx;split at hx
  .rename_i e;cases hx;subst e;exact ok.held _ hb
  .exact ok.imm x ox hx
 .intro r hr
  have hne:r.blk≠b:=by
   have:=hap.1 r hr;cases r <;> simp_all [Qx.apart,Qx.blk] <;> exact λ e=>this e.symm
  simp only [Qf8,if_neg hne];exact ok.sep r (hmem r hr)
 .rw [Q6] at hl ⊢;exact Qh8 hmem hl
 .rw [Qy] at hl ⊢;rcases hl with hl | hl
  .exact .inl (Qh8 hmem hl)
  .cases l with
   | cell a=>
    obtain⟨c,t,f,hc,hlt⟩:=hl;simp only [Qf8] at hc;split at hc
    .rename_i e;cases hc;exact .inl ⟨_,hb,e,hlt⟩
    .exact .inr ⟨c,t,f,hc,hlt⟩
   | obj x=>
    obtain⟨ox,hx⟩:=hl;simp only [Qf8] at hx;split at hx
    .rename_i e;cases hx;exact .inl ⟨_,hb,by cases o <;> simp [Qx.lets,e]⟩
    .exact .inr ⟨ox,hx⟩
   | output=>exact hl.elim
   | goroutines=>exact hl.elim
   | mark _=>exact hl.elim
end Go.TM
namespace Go.TM
variable {T:Type} {P:Program} {S:Sys P T} {fn:FuncId} {ro:Option Nat}
structure Qa.le (U U':Qa T):Prop where
 imm:∀b o,U.I b=some o->U'.I b=some o
 own:U'.M=U.M
 tok:U'.tok=U.tok
theorem Qa.le.refl (U:Qa T):U.le U:=⟨λ _ _ h=>h,rfl,rfl⟩
theorem Qa.le.trans {a b c:Qa T} (h:a.le b) (k:b.le c):a.le c:=⟨λ x o e=>k.imm x o (h.imm x o e),k.own.trans h.own,k.tok.trans h.tok⟩
theorem Zmh {m:Bool} {b:Frame} {a:Act} {k:List Item} {cs:List Frame} {w:World} {id:Nat} {ops:Array Oper} :
  stepG P m (R b a (.code (.region id ops true)::k) cs) w =
   .go (R b a (.inRegion ops (Region.schedule (P.follows .mixedOrders) ops (w.tape w.drawn (.order b.fn id)))::k) cs) { w with drawn:=w.drawn+1 }:=by
 simp [R,stepG,stepG.exec,fr,choose,Sem.run,Question.forced,Question.cut]
theorem Zb7 {Q:Ex->Act->Qa T->Prop} {a:Act} {U:Qa T} {id:Nat} {ops:Array Oper} (h:∀t,Qbg S fn ro ops (Region.schedule (P.follows .mixedOrders) ops t) Q a U) :
  Zw S fn ro (.region id ops true) Q a U:=by
 intro Stop m b k cs hb hc;refine .priv ⟨rfl,λ w ok=>⟨_,_,#[],U,Zmh,by simp,Qjd U w _,Q37 ok _,rfl,h _ Stop m b k cs hb hc⟩⟩
def Qah (S:Sys P T) (K:Value->Qa T->Prop):Next->Qa T->Prop
 | .value v,U=>K v U
 | .skip,U=>K undef U
 | .enter f args,U=>Qb S f args K U
 | .round l f tmps assign body,U=>Qar S l f tmps assign body K U
 | _,_=>False
def OpQ (S:Sys P T) (o:Oper) (a:Act) (K:Value->Qa T->Prop) (U:Qa T):Prop:=Qr P (execOp a.eval o) (Qah S K) U
theorem OpQ.mono {o:Oper} {a:Act} {K K':Value->Qa T->Prop} {U:Qa T} (h:OpQ S o a K U) (hk:∀v U,K v U->K' v U):OpQ S o a K' U:=
 Qr.mono _ h λ n U hn=>by
  cases n <;> first | exact hk _ _ hn | exact Qb.mono hn hk | exact Qar.mono hn hk | exact hn
theorem OpQ.opV {o:Oper} {a:Act} {K:Act->Qa T->Prop} {U:Qa T} (h:OpQ S o a (λ v U=>K (a.put o.dst v) U) U):OpV S ro o a K U:=
 Qr.mono _ h λ n U hn=>by cases n <;> first | exact hn | exact hn.elim
def Quy (F:Qa T->Prop):Prop:=∀U U',F U->U.le U'->F U'
inductive Qax (S:Sys P T) (ops:Array Oper) (rl:List Nat) (B:Nat->Nat->Prop) (late:Nat->Bool) (G:Qa T->Prop) (U:Qa T) (Fin:Act->Qa T->Prop):List Nat->(Qa T->Prop)->Act->Prop
 | nil {C a}:(∀U',U.le U'->C U'->Fin a U')->Qax S ops rl B late G U Fin [] C a
 | un {i rest C a o}:i∉rl->ops[i]?=some o->Region.wanted o (yielded ops a.tmps)=false->Qax S ops rl B late G U Fin rest C (a.put o.dst undef)->Qax S ops rl B late G U Fin (i::rest) C a
 | det {i rest C a o} (v:Value):i∉rl->ops[i]?=some o->Region.wanted o (yielded ops a.tmps)=true ->
   (∀U',U.le U'->C U'->OpQ S o a (λ v' U2=>v'=v/\∃U1,Qw U2 U1/\U'.le U1) U') ->
   (late i=true->∀U',G U'->OpQ S o a (λ v' U2=>v'=v/\∃U1,Qw U2 U1/\U'.le U1) U') ->
   Qax S ops rl B late G U Fin rest C (a.put o.dst v)->Qax S ops rl B late G U Fin (i::rest) C a
 | rel {i rest C a o} (F:Value->Qa T->Prop):i∈rl->(∀v,Quy (F v))->ops[i]?=some o->Region.wanted o (yielded ops a.tmps)=true ->
   (∀U',U.le U'->C U'->OpQ S o a (λ v' U2=>∃U1,Qw U2 U1/\F v' U1/\U'.le U1) U') ->
   (∀v,(∃U',U.le U'/\C U'/\F v U')->Qax S ops rl B late G U Fin rest (λ U'=>C U'/\F v U') (a.put o.dst v))->Qax S ops rl B late G U Fin (i::rest) C a
 | last {i C a o}:i∈rl->Quy G->(∀j,late j=false->B j i)->ops[i]?=some o->Region.wanted o (yielded ops a.tmps)=true ->
   (∀U',U.le U'->C U'->OpQ S o a (λ v' U2=>v'=undef/\∃U1,Qw U2 U1/\G U1) U')->((∃U',U.le U'/\C U')->∀U',G U'->Fin (a.put o.dst undef) U')->Qax S ops rl B late G U Fin [i] C a
def Wx (ops:Array Oper) (i:Nat):List Nat:=((ops[i]?).map λ o=>(o.after.toList.filter (Region.binds .any)).map (·.on)).getD []
inductive Qbh (ops:Array Oper):Nat->Nat->Prop
 | edge {i j}:j∈Wx ops i->Qbh ops j i
 | trans {i j k}:Qbh ops k j->j∈Wx ops i->Qbh ops k i
def Qf5 (ops:Array Oper):Nat->List Nat
 | 0=>[]
 | n+1=>let acc:=Qf5 ops n;acc++[(Wx ops n).foldl (λ s j=>s ||| 2 ^ j ||| acc.getD j 0) 0]
theorem Qck (ops:Array Oper):∀n,(Qf5 ops n).length=n
 | 0=>rfl
 | n+1=>by simp [Qf5,Qck ops n]
theorem Qt7 (acc:List Nat) (j:Nat):∀(l:List Nat) (s:Nat),(l.foldl (λ s j=>s ||| 2 ^ j ||| acc.getD j 0) s).testBit j=true->s.testBit j=true\/∃k∈l,k=j\/(acc.getD k 0).testBit j=true
 | [],s,h=>.inl h
 | k::l,s,h=>by
  simp only [foldl_cons] at h;rcases Qt7 acc j l _ h with h | ⟨x,hx,h⟩
  .simp only [Nat.testBit_or,Bool.or_eq_true] at h;rcases h with (h | h) | h
   .exact .inl h
   .refine .inr ⟨k,mem_cons_self ..,.inl ?_⟩;rw [Nat.testBit_two_pow] at h;exact of_decide_eq_true h
   .exact .inr ⟨k,mem_cons_self ..,.inr h⟩
  grind
theorem Wr (ops:Array Oper):∀n i j,((Qf5 ops n).getD i 0).testBit j=true->Qbh ops j i:=by
 intro n
 induction n with
 | zero=>grind[Qf5]
 | succ n ih=>
  intro i j h;simp only [Qf5] at h;by_cases hi:i<n
  .rw [getD_eq_getElem?_getD,getElem?_append_left (by rw [Qck];exact hi),<- getD_eq_getElem?_getD] at h;exact ih i j h
  .rw [getD_eq_getElem?_getD,getElem?_append_right (by rw [Qck];omega),Qck,<- getD_eq_getElem?_getD] at h;by_cases e:i=n
   .subst e;simp only [Nat.sub_self,getD_cons_zero] at h;rcases Qt7 _ j _ 0 h with h | ⟨k,hk,rfl | h⟩
    .simp at h
    .exact .edge hk
    .exact .trans (ih k j h) hk
   grind
def Qcy (ops:Array Oper) (i:Nat):Option Tmp:=(ops[i]?).bind (·.dst)
def looks (ops:Array Oper) (i:Nat):List Tmp:=((ops[i]?).map (Oper.looksAt ops)).getD []
def Qzo (ops:Array Oper) (rl qs ts:List Nat):Bool:=
 let n:=ops.size
 let ms:=Qf5 ops n
 let bf (j i:Nat):Bool:=(ms.getD i 0).testBit j
 let all:=qs++ts
 (range n).all (λ i=>all.contains i) && (decide all.Nodup && all.all (λ i=>decide (i<n))) &&
 (ops.toList.all λ o=>!(o.op matches .select ..)) &&
 (range n).all (λ i=>(range n).all λ j=>i == j || (match Qcy ops i with | some d=>Qcy ops j != some d | none=>true)) &&
 qs.all (λ i=>(range n).all λ j=>i == j || (match Qcy ops j with | some d=>!(looks ops i).contains d || bf j i || bf i j | none=>true)) &&
 (range all.length).all (λ p=>(Wx ops (all.getD p 0)).all λ j=>(all.take p).contains j) &&
 (range qs.length).all (λ p=>!rl.contains (qs.getD p 0) || ((all.drop (p+1)).all λ j=>bf (qs.getD p 0) j)) &&
 (range ts.length).all (λ p=>(qs++ts.take p).all λ j=>bf j (ts.getD p 0))
structure Jx (ops:Array Oper) (rl qs ts:List Nat):Prop where
 mem:∀i,i<ops.size↔i∈qs++ts
 nodup:(qs++ts).Nodup
 nosel:∀(i:Nat) o,ops[i]?=some o->∀cs b,o.op≠.select cs b
 once:∀i j d,Qcy ops i=some d->Qcy ops j=some d->i=j
 look:∀i,i∈qs->∀j d,i≠j->Qcy ops j=some d->d∈looks ops i->Qbh ops j i\/Qbh ops i j
 order:∀p i,(qs++ts)[p]?=some i->∀j∈Wx ops i,j∈(qs++ts).take p
 behind:∀p i,qs[p]?=some i->i∈rl->∀j∈(qs++ts).drop (p+1),Qbh ops i j
 tail:∀p i,ts[p]?=some i->∀j∈qs++ts.take p,Qbh ops j i
theorem Qt4 {ops:Array Oper} {i:Nat} {d:Tmp} (h:Qcy ops i=some d):i<ops.size:=by
 grind[Qcy]
theorem Qt3 {ops:Array Oper} {rl qs ts:List Nat} (h:Qzo ops rl qs ts=true):Jx ops rl qs ts:=by
 simp only [Qzo,Bool.and_eq_true] at h;obtain⟨⟨⟨⟨⟨⟨⟨h1,h2⟩,h3⟩,h4⟩,h5⟩,h6⟩,h7⟩,h8⟩:=h
 have hmem:∀i,i<ops.size->i∈qs++ts:=λ i hi=>by
  have:=all_eq_true.1 h1 i (mem_range.2 hi);simpa using this
 obtain⟨hnd,hlt⟩:(qs++ts).Nodup/\∀i∈qs++ts,i<ops.size:=by
  exact⟨of_decide_eq_true h2.1,λ i hi=>of_decide_eq_true (all_eq_true.1 h2.2 i hi)⟩
 refine⟨λ i=>⟨hmem i,hlt i⟩,hnd,?_,?_,?_,?_,?_,?_⟩
 .intro i o ho cs b e;have:=all_eq_true.1 h3 o (Array.mem_toList_iff.2 (Array.mem_of_getElem? ho));simp [e] at this
 .intro i j d hi hj;have:=all_eq_true.1 (all_eq_true.1 h4 i (mem_range.2 (Qt4 hi))) j (mem_range.2 (Qt4 hj));simp only [hi,hj,Bool.or_eq_true,beq_iff_eq] at this;rcases this with h | h
  .exact h
  .simp at h
 .intro i hi j d hne hj hd;have:=all_eq_true.1 (all_eq_true.1 h5 i hi) j (mem_range.2 (Qt4 hj));simp only [hj,Bool.or_eq_true,beq_iff_eq] at this;rcases this with h | (h | h) | h
  .exact absurd h hne
  .simp [hd] at h
  .exact .inl (Wr _ _ _ _ h)
  .exact .inr (Wr _ _ _ _ h)
 .intro p i hp j hj;have hpl:=(List.getElem?_eq_some_iff.1 hp).1;have:=all_eq_true.1 h6 p (mem_range.2 hpl);rw [getD_eq_getElem?_getD,hp,Option.getD_some] at this;simpa using all_eq_true.1 this j hj
 .intro p i hp hr j hj;have hpl:=(List.getElem?_eq_some_iff.1 hp).1;have:=all_eq_true.1 h7 p (mem_range.2 hpl);rw [getD_eq_getElem?_getD,hp,Option.getD_some] at this;simp only [Bool.or_eq_true] at this;rcases this with h | h
  .simp [hr] at h
  .exact Wr _ _ _ _ (all_eq_true.1 h j hj)
 .intro p i hp j hj;have hpl:=(List.getElem?_eq_some_iff.1 hp).1;have:=all_eq_true.1 h8 p (mem_range.2 hpl);have e:ts.getD p 0=i:=by rw [getD_eq_getElem?_getD,hp];rfl
  rw [e] at this;exact Wr _ _ _ _ (all_eq_true.1 this j hj)
theorem J6 {ops:Array Oper} {listed:Array Bool} {i:Nat}:i∈Region.ready .any ops listed↔i<ops.size/\listed.getD i true=false/\∀j∈Wx ops i,listed.getD j false=true:=by
 simp only [Region.ready,mem_filter,mem_range,Bool.and_eq_true,Bool.not_eq_true'];constructor
 .rintro⟨hi,h1,h2⟩;refine⟨hi,h1,λ j hj=>?_⟩;obtain⟨o,ho⟩:∃o,ops[i]?=some o:=⟨ops[i],by simp [hi]⟩;simp only [ho,Option.map_some,Option.getD_some] at h2;simp only [Wx,ho,Option.map_some,Option.getD_some,mem_map,mem_filter,Array.mem_toList_iff] at hj;obtain⟨e,⟨he,hb⟩,rfl⟩:=hj;have:=(Array.all_eq_true'.1 h2) e he;simpa [hb] using this
 .rintro⟨hi,h1,h2⟩;refine⟨hi,h1,?_⟩;obtain⟨o,ho⟩:∃o,ops[i]?=some o:=⟨ops[i],by simp [hi]⟩;simp only [ho,Option.map_some,Option.getD_some];rw [Array.all_eq_true'];intro e he;by_cases hb:Region.binds .any e=true
  .have:=h2 e.on (by simp only [Wx,ho,Option.map_some,Option.getD_some,mem_map,mem_filter,Array.mem_toList_iff];exact⟨e,⟨he,hb⟩,rfl⟩);rw [this];simp
  .simp [hb]
structure Jm (ops:Array Oper) (val:Nat->Value) (D:Nat->Prop) (a_0 a:Act):Prop where
 defers:a.defers=a_0.defers
 size:a.tmps.size=a_0.tmps.size
 wr:∀(s:Nat) (j:Nat),Qcy ops j=some s->D j->s<a_0.tmps.size->a.tmps[s]?=some (val j)
 not:∀s:Nat,(∀j,Qcy ops j=some s->¬D j)->a.tmps[s]?=a_0.tmps[s]?
theorem Jm.put {ops:Array Oper} {rl qs ts:List Nat} (hf:Jx ops rl qs ts) {val:Nat->Value} {D:Nat->Prop} {a_0 a:Act} (h:Jm ops val D a_0 a) {i:Nat} {o:Oper} (ho:ops[i]?=some o) :
  Jm ops val (λ j=>D j\/j=i) a_0 (a.put o.dst (val i)):=by
 have hd:Qcy ops i=o.dst:=by simp [Qcy,ho]
 cases hdst:o.dst with
 | none=>
  rw [hdst] at hd;refine⟨h.defers,h.size,λ s j hj hD hs=>?_,λ s hs=>h.not s λ j hj hD=>hs j hj (.inl hD)⟩;rcases hD with hD | rfl
  .exact h.wr s j hj hD hs
  simp_all
 | some d=>
  rw [hdst] at hd;refine⟨h.defers,by simp [Act.put,h.size],λ s j hj hD hs=>?_,λ s hs=>?_⟩
  .by_cases e:d=s
   .subst e;obtain rfl:=hf.once _ _ _ hj hd;simp only [Act.put];rw [Array.getElem?_setIfInBounds_self_of_lt (by rw [h.size];exact hs)]
   .rcases hD with hD | rfl
    .simp only [Act.put];rw [Array.getElem?_setIfInBounds_ne e];exact h.wr s j hj hD hs
    simp_all
  .have e:d≠s:=λ e=>hs i (e ▸ hd) (.inr rfl);simp only [Act.put];rw [Array.getElem?_setIfInBounds_ne e];exact h.not s λ j hj hD=>hs j hj (.inl hD)
theorem Jm.val {ops:Array Oper} {val val':Nat->Value} {D:Nat->Prop} {a_0 a:Act} (h:Jm ops val D a_0 a) (hv:∀j,D j->val' j=val j):Jm ops val' D a_0 a:=
 ⟨h.defers,h.size,λ s j hj hD hs=>by rw [hv j hD];exact h.wr s j hj hD hs,h.not⟩
theorem Jm.slot {ops:Array Oper} {val:Nat->Value} {D D':Nat->Prop} {a_0 a a':Act} (h:Jm ops val D a_0 a) (h':Jm ops val D' a_0 a') {s:Nat} (hs:∀j,Qcy ops j=some s->(D j↔D' j)):a.tmps[s]?=a'.tmps[s]?:=by
 by_cases hw:∃j,Qcy ops j=some s/\D j
 .obtain⟨j,hj,hD⟩:=hw;by_cases hlt:s<a_0.tmps.size
  .rw [h.wr s j hj hD hlt,h'.wr s j hj ((hs j hj).1 hD) hlt]
  .rw [Array.getElem?_eq_none (by rw [h.size];omega),Array.getElem?_eq_none (by rw [h'.size];omega)]
 .rw [h.not s λ j hj hD=>hw ⟨j,hj,hD⟩,h'.not s λ j hj hD=>hw ⟨j,hj,(hs j hj).2 hD⟩]
theorem Qln {ops:Array Oper} {a a':Act} {i:Nat} {o:Oper} (ho:ops[i]?=some o) (hns:∀cs b,o.op≠.select cs b) (h:∀s∈looks ops i,a.tmps[s]?=a'.tmps[s]?) :
  execOp a.eval o=execOp a'.eval o/\Region.wanted o (yielded ops a.tmps)=Region.wanted o (yielded ops a'.tmps):=by
 have hl:looks ops i=Oper.looksAt ops o:=by simp [looks,ho]
 rw [hl] at h;constructor
 .refine execOp_congr o hns λ x hx=>?_;cases x with
  | tmp t=>
   have:=h t (by simp only [Oper.looksAt,mem_append,mem_filterMap,Array.mem_toList_iff];exact .inl ⟨.tmp t,hx,rfl⟩);simp_all[Act.eval,Array.getD_eq_getD_getElem?]
  | _=>rfl
 .unfold Region.wanted;cases hg:o.guard with
  | none=>rfl
  | some p=>
   obtain⟨j,want⟩:=p;simp only []
   have:yielded ops a.tmps j=yielded ops a'.tmps j:=by
    unfold yielded;cases hj:(ops[j]?).bind (·.dst) with
    | none=>rfl
    | some t=>
     have:=h t (by simp only [Oper.looksAt,hg,mem_append];exact .inr (by simp [hj]));simp only [Option.bind_some,this]
   rw [this]
section sound
variable {ops:Array Oper} {rl qs ts:List Nat}
def Li (listed:Array Bool) (i:Nat):Prop:=listed.getD i false=true
theorem Qyj {listed:Array Bool} {i j:Nat} (h:i<listed.size):Li (listed.setIfInBounds i true) j↔Li listed j\/j=i:=by
 simp only [Li,Array.getD_eq_getD_getElem?,Array.getElem?_setIfInBounds];grind
theorem Qo8 (hf:Jx ops rl qs ts) {i j:Nat} (h:Qbh ops j i):∀p,(qs++ts)[p]?=some i->j∈(qs++ts).take p:=by
 induction h with
 | edge he=>exact λ p hp=>hf.order p _ hp _ he
 | trans _ he ih=>
  intro p hp;have:=hf.order p _ hp _ he;obtain⟨p',hp'⟩:=mem_iff_getElem?.1 this;rw [getElem?_take] at hp';split at hp'
  .have h2:=ih p' hp';have:(qs++ts).take p' ⊆ (qs++ts).take p:=take_subset_take_left _ (by omega);exact this h2
  .cases hp'
theorem Qis {listed:Array Bool} (down:∀i,Li listed i->∀j∈Wx ops i,Li listed j) {i j:Nat} (h:Qbh ops j i):Li listed i->Li listed j:=by
 induction h with
 | edge he=>grind
 | trans _ he ih=>grind
theorem Wd {listed:Array Bool} (down:∀i,Li listed i->∀j∈Wx ops i,Li listed j) {i j:Nat} (h:Qbh ops j i) (hr:∀j∈Wx ops i,Li listed j):Li listed j:=by
 cases h with
 | edge he=>exact hr _ he
 | trans h he=>grind[Qis]
theorem Qc8 (hf:Jx ops rl qs ts) {p p' i:Nat} (h:(qs++ts)[p]?=some i) (h':(qs++ts)[p']?=some i):p=p':=by
 have hp:=(List.getElem?_eq_some_iff.1 h).1;have hp':=(List.getElem?_eq_some_iff.1 h').1;exact (getElem?_inj hp hf.nodup).1 (h.trans h'.symm)
structure Inv (S:Sys P T) (ops:Array Oper) (rl qs:List Nat) (late:Nat->Bool) (G:Qa T->Prop) (U₀:Qa T) (a_0:Act) (Fin:Act->Qa T->Prop) (listed:Array Bool) (ac:Act) (U:Qa T)
  (pre L:List Nat) (C:Qa T->Prop) (av:Act) (val:Nat->Value):Prop where
 split:qs=pre++L
 der:Qax S ops rl (Qbh ops) late G U₀ Fin L C av
 mono:Quy C
 base:U₀.le U
 c:C U
 av:Jm ops val (·∈pre) a_0 av
 ac:Jm ops val (Li listed) a_0 ac
 sub:∀i,Li listed i->i∈pre
 size:listed.size=ops.size
 down:∀i,Li listed i->∀j∈Wx ops i,Li listed j
 rels:∀i∈pre,i∈rl->Li listed i
 pend:∀i∈pre,¬Li listed i->∃o ai p,qs[p]?=some i/\ops[i]?=some o/\Jm ops val (·∈qs.take p) a_0 ai /\
  ((Region.wanted o (yielded ops ai.tmps)=false/\val i=undef) \/
   (Region.wanted o (yielded ops ai.tmps)=true/\(∀U',U.le U'->OpQ S o ai (λ v' U2=>v'=val i/\∃U1,Qw U2 U1/\U'.le U1) U')/\(late i=true->∀U',G U'->OpQ S o ai (λ v' U2=>v'=val i/\∃U1,Qw U2 U1/\U'.le U1) U')))
variable {late:Nat->Bool} {G:Qa T->Prop} {U₀:Qa T} {a_0:Act} {Fin:Act->Qa T->Prop} {listed:Array Bool} {ac av:Act} {U:Qa T} {pre L:List Nat} {C:Qa T->Prop} {val:Nat->Value}
def Qfe (val:Nat->Value) (i:Nat) (v:Value):Nat->Value:=λ j=>if j=i then v else val j
theorem Qed {val:Nat->Value} {i j:Nat} {v:Value} (h:j≠i):Qfe val i v j=val j:=by simp [Qfe,h]
theorem Qbq (val:Nat->Value) (i:Nat) (v:Value):Qfe val i v i=v:=by simp [Qfe]
theorem Qlf (hf:Jx ops rl qs ts) {x:Nat} {rest:List Nat} (h:qs=pre++x::rest):x∉pre:=by
 intro hx;have:=(nodup_append.1 hf.nodup).1;grind
theorem W9 {x:Nat} {rest:List Nat} (h:qs=pre++x::rest):qs.take pre.length=pre/\qs[pre.length]?=some x:=by
 simp_all
theorem Qab {p i:Nat} (hp:qs[p]?=some i):(qs++ts)[p]?=some i:=by
 grind
theorem Inv.note (hf:Jx ops rl qs ts) {x:Nat} {rest:List Nat} (h:Inv S ops rl qs late G U₀ a_0 Fin listed ac U pre (x::rest) C av val) (v:Value) :
  Jm ops (Qfe val x v) (·∈pre) a_0 av/\Jm ops (Qfe val x v) (Li listed) a_0 ac /\
  (∀i∈pre,¬Li listed i->∃o ai p,qs[p]?=some i/\ops[i]?=some o/\Jm ops (Qfe val x v) (·∈qs.take p) a_0 ai /\
   ((Region.wanted o (yielded ops ai.tmps)=false/\Qfe val x v i=undef) \/
    (Region.wanted o (yielded ops ai.tmps)=true/\(∀U',U.le U'->OpQ S o ai (λ v' U2=>v'=Qfe val x v i/\∃U1,Qw U2 U1/\U'.le U1) U')/\(late i=true->∀U',G U'->OpQ S o ai (λ v' U2=>v'=Qfe val x v i/\∃U1,Qw U2 U1/\U'.le U1) U')))):=by
 have hx:=Qlf hf h.split;refine⟨h.av.val λ j hj=>Qed (λ e=>hx (e ▸ hj)),h.ac.val λ j hj=>Qed (λ e=>hx (e ▸ h.sub j hj)),λ i hi hl=>?_⟩;obtain⟨o,ai,p,hp,ho,hag,hh⟩:=h.pend i hi hl;have hne:i≠x:=λ e=>hx (e ▸ hi);refine⟨o,ai,p,hp,ho,hag.val λ j hj=>Qed λ e=>?_,by grind[Qed]⟩;subst e;obtain⟨p',hp'⟩:=mem_iff_getElem?.1 hj;rw [getElem?_take] at hp';split at hp'
 .rename_i hlt;have e1:=Qc8 hf (Qab (ts:=ts) hp') (Qab (W9 h.split).2);obtain⟨pi,hpi⟩:=mem_iff_getElem?.1 hi;have hpl:pi<pre.length:=(List.getElem?_eq_some_iff.1 hpi).1;have e2:=Qc8 hf (Qab (ts:=ts) hp) (Qab (ts:=ts) (p:=pi) (i:=i) (by rw [h.split,getElem?_append_left hpl];exact hpi));omega
 .cases hp'
theorem Inv.adv (hf:Jx ops rl qs ts) {x:Nat} {rest:List Nat} (h:Inv S ops rl qs late G U₀ a_0 Fin listed ac U pre (x::rest) C av val) {v:Value} {o:Oper} (ho:ops[x]?=some o) (hrl:x∉rl)
  (hd:Qax S ops rl (Qbh ops) late G U₀ Fin rest C (av.put o.dst v))
  (hh:(Region.wanted o (yielded ops av.tmps)=false/\v=undef)\/(Region.wanted o (yielded ops av.tmps)=true/\(∀U',U₀.le U'->C U'->OpQ S o av (λ v' U2=>v'=v/\∃U1,Qw U2 U1/\U'.le U1) U')/\(late x=true->∀U',G U'->OpQ S o av (λ v' U2=>v'=v/\∃U1,Qw U2 U1/\U'.le U1) U'))) :
  Inv S ops rl qs late G U₀ a_0 Fin listed ac U (pre++[x]) rest C (av.put o.dst v) (Qfe val x v):=by
 obtain⟨n1,n2,n3⟩:=h.note hf v;have hput:=Jm.put hf n1 ho;rw [Qbq] at hput;refine⟨by rw [h.split];simp,hd,h.mono,h.base,h.c,?_,n2,λ i hi=>mem_append_left _ (h.sub i hi),h.size,h.down,?_,?_⟩
 .simp_all
 .intro i hi hr;rcases mem_append.1 hi with hi | hi
  .exact h.rels i hi hr
  simp_all
 .intro i hi hl;rcases mem_append.1 hi with hi | hi
  .exact n3 i hi hl
  .simp at hi;subst hi;refine⟨o,av,pre.length,(W9 h.split).2,ho,by rw [(W9 h.split).1];exact n1,?_⟩;rw [Qbq];rcases hh with hh | ⟨hw,hh,hg⟩
   .exact .inl hh
   .exact .inr ⟨hw,λ U' hle=>hh U' (h.base.trans hle) (h.mono _ _ h.c hle),hg⟩
theorem Qb4 (hf:Jx ops rl qs ts) (down:∀i,Li listed i->∀j∈Wx ops i,Li listed j) {p i:Nat} (hp:qs[p]?=some i) (hl:¬Li listed i) (hr:∀j∈Wx ops i,Li listed j)
  {s j:Nat} (hs:s∈looks ops i) (hj:Qcy ops j=some s):Li listed j↔j∈qs.take p:=by
 have hpa:=Qab (ts:=ts) hp;have hpl:=(List.getElem?_eq_some_iff.1 hp).1;by_cases e:i=j
 .subst e;refine⟨λ h=>absurd h hl,λ h=>?_⟩;obtain⟨p',hp'⟩:=mem_iff_getElem?.1 h;rw [getElem?_take] at hp';split at hp'
  .have:=Qc8 hf (Qab (ts:=ts) hp') hpa;omega
  .cases hp'
 .rcases hf.look i (mem_of_getElem? hp) j s e hj hs with hb | hb
  .have h1:=Wd down hb hr;have h2:=Qo8 hf hb p hpa;grind
  .refine⟨λ h=>absurd (Qis down hb h) hl,λ h=>?_⟩;obtain⟨p',hp'⟩:=mem_iff_getElem?.1 h;rw [getElem?_take] at hp';split at hp'
   .have h2:=Qo8 hf hb p' (Qab (ts:=ts) hp');obtain⟨p2,hp2⟩:=mem_iff_getElem?.1 h2;rw [getElem?_take] at hp2;split at hp2
    .have:=Qc8 hf hp2 hpa;omega
    .cases hp2
   .cases hp'
theorem Inv.reach (hf:Jx ops rl qs ts) {i:Nat} (hi:i∈qs) (hr:∀j∈Wx ops i,Li listed j) :
  ∀(L pre:List Nat) (C:Qa T->Prop) (av:Act) (val:Nat->Value),Inv S ops rl qs late G U₀ a_0 Fin listed ac U pre L C av val ->
   ∃pre' L' C' av' val',Inv S ops rl qs late G U₀ a_0 Fin listed ac U pre' L' C' av' val'/\(i∈pre'\/∃rest,L'=i::rest/\i∈rl):=by
 intro L
 induction L with
 | nil=>
  intro pre C av val h;exact⟨pre,[],C,av,val,h,.inl (by have:=h.split;simp_all)⟩
 | cons x rest ih=>
  intro pre C av val h;by_cases hx:x∈rl
  .by_cases e:x=i
   .grind
   .by_cases hpre:i∈pre
    .grind
    .exfalso
     have hm:i∈rest:=by
      rw [h.split] at hi;simp at hi;rcases hi with hi | hi | hi
      .simp_all
      .simp_all
      .exact hi
     have hb:Qbh ops x i:=by
      refine hf.behind pre.length x (W9 h.split).2 hx i ?_;rw [h.split];simp [hm]
     exact Qlf hf h.split (h.sub x (Wd h.down hb hr))
  .have hder:=h.der;cases hder with
   | un _ ho hw hd=>exact ih _ _ _ _ (h.adv hf ho hx hd (.inl ⟨hw,rfl⟩))
   | det v _ ho hw hop hg hd=>exact ih _ _ _ _ (h.adv hf ho hx hd (.inr ⟨hw,hop,hg⟩))
   | rel F hm=>simp_all
   | last hm=>simp_all
theorem Qfc {o:Oper} {a:Act} {K:Value->Qa T->Prop} {K':Act->Qa T->Prop} (h:OpQ S o a K U) (hk:∀v U,K v U->K' (a.put o.dst v) U):OpV S ro o a K' U:=
 OpQ.opV (h.mono hk)
theorem Qfb {o:Oper} {a:Act} {K:Value->Qa T->Prop} (h:OpQ S o a K U):∀c,o.op≠.defer c:=by
 intro c e;unfold OpQ at h;simp only [execOp,e] at h;have h':=(Qly (P:=P) (resolve a.eval c o.type) (λ d=>(pure (.defer d):Sem Next))).1 h;have hn:Qr P (resolve a.eval c o.type) (λ _ _=>False) U:=Qr.mono _ h' λ d U hd=>hd;obtain⟨callee,args,ats⟩:=c;cases callee with
 | value f=>cases hv:a.eval f <;> simp [resolve,Deferred.ofValue,hv,Qr,pure,stuck] at hn
 | invoke r mth=>simp [resolve,Qr,pure] at hn
 | builtin bb=>simp [resolve,Qr,pure] at hn
theorem Qld {k t:Nat} {listed:Array Bool} (h:Region.ready .any ops listed≠[]):∃i∈Region.ready .any ops listed,∃t',Region.linearise.go .any ops (k+1) t listed []=i::Region.linearise.go .any ops k t' (listed.setIfInBounds i true) []:=by
 have hlt:t % (Region.ready .any ops listed).length<(Region.ready .any ops listed).length:=Nat.mod_lt _ (length_pos_iff.2 h);refine⟨(Region.ready .any ops listed)[t % (Region.ready .any ops listed).length],getElem_mem _,t / (Region.ready .any ops listed).length,?_⟩;grind[Region.ready,getElem?_eq_getElem,Region.linearise.go,linearise_go_acc,reverse_singleton,singleton_append]
theorem Qfu (hf:Jx ops rl qs ts) {listed:Array Bool} (hs:listed.size=ops.size):∀(p i:Nat),(qs++ts)[p]?=some i->¬Li listed i->∃x,x∈Region.ready .any ops listed:=by
 intro p
 induction p using Nat.strongRecOn with
 | ind p ih=>
  intro i hp hi;by_cases he:∀j∈Wx ops i,Li listed j
  .refine⟨i,J6.2 ⟨(hf.mem i).2 (mem_of_getElem? hp),?_,he⟩⟩;have hlt:i<listed.size:=by rw [hs];exact (hf.mem i).2 (mem_of_getElem? hp)
   simp_all[Li,Array.getD_eq_getD_getElem?,Array.getElem?_eq_getElem,Option.getD_some,Bool.not_eq_true]
  .obtain⟨j,hj,hl⟩:∃j∈Wx ops i,¬Li listed j:=by
    apply Classical.byContradiction;intro hc;exact he λ j hj=>Classical.byContradiction λ hl=>hc ⟨j,hj,hl⟩
   obtain⟨p',hp'⟩:=mem_iff_getElem?.1 (hf.order p i hp j hj);grind
theorem Qll {listed:Array Bool} {i:Nat} (h:i∈Region.ready .any ops listed):¬Li listed i:=by
 have:=(J6.1 h).2.1;grind[Li,Array.getD_eq_getD_getElem?]
theorem Zf3 (hf:Jx ops rl qs ts) {listed:Array Bool} {p:Nat} (hl:∀i,Li listed i↔i∈(qs++ts).take p):∀i,Li listed i->∀j∈Wx ops i,Li listed j:=by
 intro i hi j hj;rw [hl] at hi ⊢;obtain⟨p1,hp1⟩:=mem_iff_getElem?.1 hi;rw [getElem?_take] at hp1;split at hp1
 .have:=hf.order p1 i hp1 j hj;exact take_subset_take_left _ (by omega) this
 .cases hp1
theorem Zcv (hf:Jx ops rl qs ts):∀(q:Nat) (p t:Nat) (listed:Array Bool),p+q=ts.length->listed.size=ops.size->(∀i,Li listed i↔i∈(qs++ts).take (qs.length+p)) ->
  Region.linearise.go .any ops q t listed []=ts.drop p:=by
 intro q
 induction q with
 | zero=>grind[Region.linearise.go,drop_of_length_le]
 | succ q ih=>
  intro p t listed hp hs hl;have hlt:p<ts.length:=by omega
  have hx:ts[p]?=some ts[p]:=getElem?_eq_getElem hlt;have hxa:(qs++ts)[qs.length+p]?=some ts[p]:=by rw [getElem?_append_right (by omega)];simp
  have hxl:¬Li listed ts[p]:=by
   rw [hl];intro h;obtain⟨p1,hp1⟩:=mem_iff_getElem?.1 h;rw [getElem?_take] at hp1;split at hp1
   .have:=Qc8 hf hp1 hxa;omega
   .cases hp1
  obtain⟨y,hy⟩:=Qfu hf hs _ _ hxa hxl;obtain⟨i,hi,t',hgo⟩:=Qld (k:=q) (t:=t) (ne_nil_of_mem hy);have hdown:=Zf3 hf hl
  have hie:i=ts[p]:=by
   have hnl:=Qll hi;have hr:=(J6.1 hi).2.2;have hm:=(hf.mem i).1 (J6.1 hi).1;obtain⟨p1,hp1⟩:=mem_iff_getElem?.1 hm;by_cases h1:p1<qs.length+p
   .exfalso;apply hnl;rw [hl];exact mem_iff_getElem?.2 ⟨p1,by rw [getElem?_take,if_pos h1];exact hp1⟩
   .by_cases h2:p1=qs.length+p
    .subst h2;rw [hxa] at hp1;cases hp1;rfl
    .exfalso;have hp2:ts[p1-qs.length]?=some i:=by rw [getElem?_append_right (by omega)] at hp1;exact hp1
     refine hxl (Wd hdown (hf.tail _ i hp2 ts[p] ?_) hr);refine mem_append_right _ (mem_iff_getElem?.2 ⟨p,?_⟩);rw [getElem?_take,if_pos (by omega)];exact hx
  subst hie;rw [hgo,ih (p+1) t' _ (by omega) (by simpa using hs),drop_eq_getElem_cons hlt];intro j;rw [Qyj (by rw [hs];exact (J6.1 hi).1),hl]
  grind[Nat.add_assoc,take_add_one]
theorem Jm.eq {val:Nat->Value} {D D':Nat->Prop} {a_0 a a':Act} (h:Jm ops val D a_0 a) (h':Jm ops val D' a_0 a') (hd:∀j,D j↔D' j):a=a':=by
 obtain⟨ta,da⟩:=a;obtain⟨tb,db⟩:=a';have h1:da=db:=h.defers.trans h'.defers.symm
 have h2:ta=tb:=by
  apply Array.ext_getElem?;intro s;exact h.slot h' (s:=s) λ j _=>hd j
 rw [h1,h2]
theorem Zlo (hf:Jx ops rl qs ts) {Q:Ex->Act->Qa T->Prop}:∀(r t:Nat) (listed:Array Bool) (ac:Act) (U:Qa T) (pre L:List Nat) (C:Qa T->Prop) (av:Act) (val:Nat->Value),
  Inv S ops rl qs late G U₀ a_0 (λ a U=>Qbg S fn ro ops ts Q a U) listed ac U pre L C av val->(qs.filter λ i=>!listed.getD i false).length=r ->
  Qbg S fn ro ops (Region.linearise.go .any ops (r+ts.length) t listed []) Q ac U:=by
 intro r
 induction r generalizing U₀ with
 | zero=>
  intro t listed ac U pre L C av val h hr
  have hall:∀i∈qs,Li listed i:=by
   intro i hi;have:=filter_eq_nil_iff.1 (length_eq_zero_iff.1 hr) i hi;simpa [Li] using this
  have hL:L=[]:=by
   cases L with
   | nil=>rfl
   | cons x rest=>exact absurd (h.sub x (hall x (by rw [h.split];simp))) (Qlf hf h.split)
  subst hL;have hpre:pre=qs:=by have:=h.split;simp at this;exact this.symm
  subst hpre;have hder:=h.der;cases hder with
  | nil hfin=>
   have e:av=ac:=h.av.eq h.ac λ j=>⟨hall j,h.sub j⟩;have:=hfin U h.base h.c;rw [e] at this;rw [Nat.zero_add,Zcv hf ts.length 0 t listed (by omega) h.size λ i=>?_]
   .simpa using this
   .rw [Nat.add_zero,take_left']
    .exact⟨h.sub i,hall i⟩
    .rfl
 | succ r ih=>
  intro t listed ac U pre L C av val h hr;obtain⟨q,hq⟩:∃q,q∈qs.filter λ i=>!listed.getD i false:=exists_mem_of_length_pos (by omega);have hqs:=(mem_filter.1 hq).1;have hql:¬Li listed q:=by have:=(mem_filter.1 hq).2;simpa [Li] using this
  obtain⟨pq,hpq⟩:=mem_iff_getElem?.1 hqs;obtain⟨y,hy⟩:=Qfu hf h.size _ _ (Qab (ts:=ts) hpq) hql;obtain⟨i,hi,t',hgo⟩:=Qld (k:=r+ts.length) (t:=t) (ne_nil_of_mem hy);have hnl:=Qll hi;have hred:=(J6.1 hi).2.2;have hlt:=(J6.1 hi).1
  have hiq:i∈qs:=by
   rcases mem_append.1 ((hf.mem i).1 hlt) with hm | hm
   .exact hm
   .obtain⟨p1,hp1⟩:=mem_iff_getElem?.1 hm;exact absurd (Wd h.down (hf.tail p1 i hp1 q (mem_append_left _ hqs)) hred) hql
  rw [show r+1+ts.length=(r+ts.length)+1 by omega,hgo];have hls:∀j,Li (listed.setIfInBounds i true) j↔Li listed j\/j=i:=λ j=>Qyj (by rw [h.size];exact hlt)
  have hcount:(qs.filter λ x=>!(listed.setIfInBounds i true).getD x false).length=r:=by
   have hnd:=(nodup_append.1 hf.nodup).1
   have e:(qs.filter λ x=>!(listed.setIfInBounds i true).getD x false)=(qs.filter λ x=>!listed.getD x false).filter (λ x=>x != i):=by
    rw [filter_filter];refine filter_congr λ x _=>?_;have:=hls x;simp only [Li] at this;grind
   rw [e,<- Nodup.erase_eq_filter (hnd.filter _),length_erase_of_mem (mem_filter.2 ⟨hiq,by grind[Li]⟩),hr];rfl
  obtain⟨pre',L',C',av',val',h',hcase⟩:=h.reach hf hiq hred
  have hdown':∀j,Li (listed.setIfInBounds i true) j->∀k∈Wx ops j,Li (listed.setIfInBounds i true) k:=by
   intro j hj k hk;rw [hls] at hj ⊢;rcases hj with hj | rfl
   .exact .inl (h.down j hj k hk)
   .exact .inl (hred k hk)
  have put_ac:∀{val:Nat->Value} {o:Oper},ops[i]?=some o->Jm ops val (Li listed) a_0 ac->Jm ops val (Li (listed.setIfInBounds i true)) a_0 (ac.put o.dst (val i)):=by
   intro val o ho ha;have:=Jm.put hf ha ho;have e:Li (listed.setIfInBounds i true)=λ j=>Li listed j\/j=i:=by funext j;exact propext (hls j)
   rw [e];exact this
  by_cases hpre:i∈pre'
  ·
   obtain⟨o,ai,p,hp,ho,hag,hh⟩:=h'.pend i hpre hnl;have hsame:=Qln ho (hf.nosel i o ho) (a:=ac) (a':=ai) λ s hs=>h'.ac.slot hag λ j hj=>Qb4 hf h'.down hp hnl hred hs hj
   have next:∀U1,U.le U1->Inv S ops rl qs late G U₀ a_0 (λ a U=>Qbg S fn ro ops ts Q a U) (listed.setIfInBounds i true) (ac.put o.dst (val' i)) U1 pre' L' C' av' val':=λ U1 hle=>
    ⟨h'.split,h'.der,h'.mono,h'.base.trans hle,h'.mono _ _ h'.c hle,h'.av,put_ac ho h'.ac,λ j hj=>((hls j).1 hj).elim (h'.sub j) (λ e=>e ▸ hpre),by simpa using h'.size,hdown',λ j hj hr=>(hls j).2 (.inl (h'.rels j hj hr)),
     λ j hj hl=>by
      obtain⟨o,ai,p,a,b,c,d⟩:=h'.pend j hj λ hx=>hl ((hls j).2 (.inl hx));exact⟨o,ai,p,a,b,c,d.imp id λ⟨x,y,z⟩=>⟨x,λ U' hU=>y U' (hle.trans hU),z⟩⟩⟩
   rcases hh with⟨hw,hv⟩ | ⟨hw,hop,hg⟩
   .refine Qb5 ho (by rw [hsame.2];exact hw) ?_;have:=ih t' _ _ _ _ _ _ _ _ (next U (.refl U)) hcount;simp_all
   .have hq':OpQ S o ac (λ v' U2=>v'=val' i/\∃U1,Qw U2 U1/\U.le U1) U:=by have:=hop U (.refl U);unfold OpQ at this ⊢;rw [hsame.1];exact this
    grind[Qcl,Qfb,Qfc,Qfd]
  .obtain⟨rest,rfl,hrl⟩:=hcase.resolve_left hpre;have hder:=h'.der;cases hder with
   | un hx _ _ _=>simp_all
   | det _ hx _ _ _ _ _=>simp_all
   | @rel _ _ _ _ o F _ hF ho hw hop hd=>
    obtain⟨htk,hget⟩:=W9 h'.split
    have hsame:=Qln ho (hf.nosel i o ho) (a:=ac) (a':=av') λ s hs=>h'.ac.slot h'.av λ j hj=>by
     have:=Qb4 hf h'.down hget hnl hred hs hj;simp_all
    have hq':OpQ S o ac (λ v' U2=>∃U1,Qw U2 U1/\F v' U1/\U.le U1) U:=by have:=hop U h'.base h'.c;unfold OpQ at this ⊢;rw [hsame.1];exact this
    refine Qcl ho (by simp_all) (.inr (Qfb hq')) (Qfc hq' λ v U2 hv=>?_);obtain⟨U1,hs,hFv,hle⟩:=hv;refine Qfd hs ?_;obtain⟨n1,n2,n3⟩:=h'.note hf v;have hav:=Jm.put hf n1 ho;have hac:=put_ac ho n2;rw [Qbq] at hav hac;refine ih t' _ _ U1 (pre'++[i]) rest (λ U'=>C' U'/\F v U') (av'.put o.dst v) (Qfe val' i v) ⟨by rw [h'.split];simp,hd v ⟨U1,h'.base.trans hle,h'.mono _ _ h'.c hle,hFv⟩,λ a b ⟨x,y⟩ hl=>⟨h'.mono a b x hl,hF v a b y hl⟩,h'.base.trans hle,⟨h'.mono _ _ h'.c hle,hFv⟩,?_,hac,?_,by simpa using h'.size,hdown',?_,?_⟩ hcount
    .simp_all
    .intro j hj;rcases (hls j).1 hj with hj | rfl
     .exact mem_append_left _ (h'.sub j hj)
     .simp
    .intro j hj hr;rw [hls];rcases mem_append.1 hj with hj | hj
     .exact .inl (h'.rels j hj hr)
     simp_all
    .intro j hj hl;rcases mem_append.1 hj with hj | hj
     .obtain⟨o,ai,p,a,b,c,d⟩:=n3 j hj λ hx=>hl ((hls j).2 (.inl hx));exact⟨o,ai,p,a,b,c,d.imp id λ⟨x,y,z⟩=>⟨x,λ U' hU=>y U' (hle.trans hU),z⟩⟩
     simp_all
   | @last _ _ _ o _ hG hlate ho hw hop hfin=>
    obtain⟨htk,hget⟩:=W9 h'.split
    have hsame:=Qln ho (hf.nosel i o ho) (a:=ac) (a':=av') λ s hs=>h'.ac.slot h'.av λ j hj=>by
     have:=Qb4 hf h'.down hget hnl hred hs hj;simp_all
    have hq':OpQ S o ac (λ v' U2=>v'=undef/\∃U1,Qw U2 U1/\G U1) U:=by have:=hop U h'.base h'.c;unfold OpQ at this ⊢;rw [hsame.1];exact this
    refine Qcl ho (by simp_all) (.inr (Qfb hq')) (Qfc hq' λ v U2 hv=>?_);obtain⟨rfl,U1,hs,hGU⟩:=hv;refine Qfd hs ?_;obtain⟨n1,n2,n3⟩:=h'.note hf undef;have hav:=Jm.put hf n1 ho;have hac:=put_ac ho n2;rw [Qbq] at hav hac;refine ih (U₀:=U1) t' _ _ U1 (pre'++[i]) [] G (av'.put o.dst undef) (Qfe val' i undef) ⟨by rw [h'.split];simp,.nil λ U' _ hg=>hfin ⟨U,h'.base,h'.c⟩ U' hg,hG,.refl U1,hGU,?_,hac,?_,by simpa using h'.size,hdown',?_,?_⟩ hcount
    .simp_all
    .intro j hj;rcases (hls j).1 hj with hj | rfl
     .exact mem_append_left _ (h'.sub j hj)
     .simp
    .intro j hj hr;rw [hls];rcases mem_append.1 hj with hj | hj
     .exact .inl (h'.rels j hj hr)
     simp_all
    .intro j hj hl;rcases mem_append.1 hj with hj | hj
     .have hnj:¬Li listed j:=λ hx=>hl ((hls j).2 (.inl hx));obtain⟨o,ai,p,a,b,c,d⟩:=n3 j hj hnj;refine⟨o,ai,p,a,b,c,d.imp id λ⟨x,y,z⟩=>?_⟩
      have hlj:late j=true:=by
       cases hb:late j with
       | true=>rfl
       | false=>exact absurd (Wd h.down (hlate j hb) hred) hnj
      exact⟨x,λ U' hU=>z hlj U' (hG _ _ hGU hU),z⟩
     simp_all
end sound
theorem Q3j {late:Nat->Bool} {G:Qa T->Prop} {Q:Ex->Act->Qa T->Prop} {a:Act} {U:Qa T} {id:Nat} {ops:Array Oper} (rl qs ts:List Nat) (hm:P.follows .mixedOrders=true) (hok:Qzo ops rl qs ts=true)
  (h:Qax S ops rl (Qbh ops) late G U (λ a U=>Qbg S fn ro ops ts Q a U) qs (λ _=>True) a):Zw S fn ro (.region id ops true) Q a U:=by
 have hf:=Qt3 hok;refine Zb7 λ t=>?_;simp only [Region.schedule,hm,Bool.true_or,if_true,Region.linearise]
 have hc:(qs.filter λ i=>!(Array.replicate ops.size false).getD i false).length=qs.length:=by
  congr 1;rw [filter_eq_self];intro x _;simp [Array.getElem?_replicate];split <;> rfl
 have hsize:ops.size=qs.length+ts.length:=by
  have h1:(qs++ts).Perm (range ops.size):=by
   refine (perm_ext_iff_of_nodup hf.nodup nodup_range).2 λ x=>?_;rw [mem_range];exact (hf.mem x).symm
  have:=h1.length_eq;simp at this;omega
 have hno:∀i,¬Li (Array.replicate ops.size false) i:=by
  intro i h;simp only [Li,Array.getD_eq_getD_getElem?,Array.getElem?_replicate] at h;split at h <;> simp at h
 have:=Zlo (S:=S) (fn:=fn) (ro:=ro) (Q:=Q) hf qs.length t (Array.replicate ops.size false) a U [] qs (λ _=>True) a (λ _=>undef)
  ⟨rfl,h,λ _ _ _ _=>trivial,.refl U,trivial,⟨rfl,rfl,λ _ _ _ h=>by simp at h,λ _ _=>rfl⟩,⟨rfl,rfl,λ _ j _ h=>absurd h (hno j),λ _ _=>rfl⟩,λ i h=>absurd h (hno i),by simp,λ i h=>absurd h (hno i),by simp,by simp⟩ hc
 simp_all
end Go.TM
namespace Go.TM
variable {T:Type} {P:Program} {S:Sys P T} {fn:FuncId} {ro:Option Nat} {Stop:Stp T} {m:Bool}
theorem J.body {b:Frame} {a:Act} {c:Code} {cs:List Frame} {U:Qa T} {Q:Ex->Act->Qa T->Prop} (hb:Fr fn none b) (h:Zw S fn none c Q a U)
  (hq:∀e a' U',Q e a' U'->(e=.normal\/e=.ret)/\∀todo,J S Stop m (Rf { fr b a' todo with mode:=.returning } cs) U'):J S Stop m (R b a [.code c] cs) U:=by
 refine h Stop m b [] cs hb λ e a' U' q=>?_;obtain⟨he,hj⟩:=hq e a' U' q;have hro:=hb.2.1;rcases he with rfl | rfl
 .refine .still (g':=Rf { fr b a' [] with mode:=.returning } cs) rfl (λ w=>?_) (hj []);simp [R,Rf,stepG,stepG.exec,fr,hro]
 simp_all[Qef,Qeg,trivial]
def Qpi (P:Program) (f:Func) (Q:Value->Qa T->Prop) (tmps:Array Value):List Deferred->Qa T->Prop
 | [],U=>Qr P (results f tmps) Q U
 | { target:=.collected blk,.. }::ds,U=>Qr P (Instr.takeDeferred blk) (λ calls U'=>calls=[]/\Qpi P f Q tmps ds U') U
 | _,_=>False
theorem Qpi.step {f:Func} {Q:Value->Qa T->Prop} {b:Frame} {tmps:Array Value} {c:Frame} {cs:List Frame} (hf:P.funcs[b.fn]?=some f) (hk:b.kind=.normal\/b.kind=.wrapped) (hq:∀v U',Q v U'->J S Stop m (Rf (c.finish v) cs) U') :
  ∀(ds:List Deferred) (todo:List Item) (U:Qa T),Qpi P f Q tmps ds U->J S Stop m (Rf { fr b ⟨tmps,ds⟩ todo with mode:=.returning } (c::cs)) U:=by
 intro ds
 induction ds with
 | nil=>
  intro todo U h;refine .sem _ rfl h λ w x w' es hrun _=>⟨Rf (c.finish x) cs,seen P b.fn es,?_,Jq P _ es,λ U' q=>hq _ _ q⟩;obtain⟨hr,he⟩:Sem.run P (results f tmps) w=.ok x w'/\Sem.events P (results f tmps) w #[]=es:=by simpa using hrun
  rcases hk with hk | hk <;> simp_all[Rf,stepG,unwind,fr,doReturn,GStep.after]
 | cons d ds ih=>
  intro todo U h;obtain⟨tg,args⟩:=d;cases tg with
  | collected blk=>
   simp only [Qpi] at h;refine .sem _ rfl h λ w x w' es hrun hex=>⟨Rf { fr b ⟨tmps,x++ds⟩ todo with mode:=.returning } (c::cs),seen P b.fn es,?_,Jq P _ es,λ U' q=>?_⟩
   .obtain⟨hr,he⟩:Sem.run P (Instr.takeDeferred blk) w=.ok x w'/\Sem.events P (Instr.takeDeferred blk) w #[]=es:=by simpa using hrun
    simp [Rf,stepG,unwind,fr,hr,he,GStep.after]
   simp_all
  | _=>exact h.elim
def Zjb (P:Program) (f:Func) (Q:Value->Qa T->Prop):Ex->Act->Qa T->Prop
 | .normal,a,U=>Qpi P f Q a.tmps a.defers U
 | .ret,a,U=>Qpi P f Q a.tmps a.defers U
 | .exit _,_,_=>False
theorem Qb.of_body {f:FuncId} {fd:Func} {c:Code} {args:Array Value} {U:Qa T} {Q:Value->Qa T->Prop} (hf:P.funcs[f]?=some fd) (hb:fd.body=some c)
  (h:Zw S f none c (Zjb P fd Q) { tmps:=args++Array.replicate (fd.ntmps-args.size) undef,defers:=[] } U):Qb S f args Q U:=by
 intro Stop m caller cs hq
 let b:Frame:={ (default:Frame) with fn:=f,kind:=.normal }
 have henter:Rf (Frame.enter P f args .normal) (caller::cs)=R b { tmps:=args++Array.replicate (fd.ntmps-args.size) undef,defers:=[] } [.code c] (caller::cs):=by
  simp [Rf,R,Frame.enter,fr,hf,hb,b];rfl
 rw [henter];refine J.body (fn:=f) ⟨rfl,rfl,by simp [b],by simp⟩ h λ e a' U' q=>?_;cases e with
 | normal=>exact⟨.inl rfl,λ todo=>Qpi.step hf (.inl rfl) hq a'.defers todo U' q⟩
 | ret=>exact⟨.inr rfl,λ todo=>Qpi.step hf (.inl rfl) hq a'.defers todo U' q⟩
 | exit id=>exact q.elim
def Za7:Ex->Option Code
 | .normal=>none
 | .ret=>some .ret
 | .exit id=>some (.exit id)
def Zkj (P:Program) (l:Nat) (Q:Value->Qa T->Prop) (e:Ex) (_:Act) (U:Qa T):Prop:=Qr P (Instr.endRound l (Za7 e)) Q U
theorem Qar.of_body {l:Nat} {f:FuncId} {tmps:Array Value} {assign body:Code} {U:Qa T} {Q:Value->Qa T->Prop}
  (h:Zw S f (some l) assign (λ e a' U'=>e=.normal/\Qr P (Instr.beginRound l) (λ _ U2=>Zw S f (some l) body (Zkj P l Q) a' U2) U') ⟨tmps,[]⟩ U):Qar S l f tmps assign body Q U:=by
 intro Stop m c cs hq
 let b:Frame:={ (default:Frame) with fn:=f,kind:=.normal,roundOf:=some l }
 have hb:Fr f (some l) b:=⟨rfl,rfl,by simp [b],by simp [b]⟩;have hro:b.roundOf=some l:=rfl
 have henter:Rf (Frame.round l f tmps assign body .normal) (c::cs)=R b ⟨tmps,[]⟩ [.code assign,.beginRound,.code body] (c::cs):=by
  simp [Rf,R,Frame.round,fr,b]
 rw [henter];refine h Stop m b [.beginRound,.code body] (c::cs) hb λ e a' U' q=>?_;obtain⟨rfl,q⟩:=q;show J S Stop m (R b a' [.beginRound,.code body] (c::cs)) U'
 have q':Qr P (do Instr.beginRound l;pure Next.skip:Sem Next) (λ n U2=>n=.skip/\Zw S f (some l) body (Zkj P l Q) a' U2) U':=
  (Qly _ _).2 (Qr.mono _ q λ _ _ h=>⟨rfl,h⟩)
 refine .sem _ rfl q' λ w x w' es hrun hex=>⟨R b a' [.code body] (c::cs),seen P f es,?_,Jq P _ es,λ U2 q=>?_⟩
 .obtain⟨_,rfl,_⟩:=hex;have hke:(b.kind == CallKind.early)=false:=rfl;show stepG.apply P true (fr b a' [.beginRound,.code body]) (c::cs) none (do (Instr.beginRound l);pure .skip) w=_;simp only [stepG.apply,if_true,hrun];simp [fr,hke,GStep.after,R,Frame.finish,b]
 .obtain⟨_,q⟩:=q;refine q Stop m b [] (c::cs) hb λ e a'' U3 q=>?_
  have leave:Qeg S Stop m b (c::cs) (Za7 e) a'' U3:=by
   simp only [Qeg,hro];exact⟨c,cs,rfl,Qr.mono _ q λ v U4 hv=>hq v U4 hv⟩
  cases e with
  | normal=>
   simp only [Qeg,hro,Za7] at leave;obtain⟨c',rest,e,hs⟩:=leave;cases e;refine .sem _ rfl hs λ w x w' es hrun _=>⟨Rf (c.finish x) cs,seen P f es,?_,Jq P _ es,λ _ h=>h⟩;obtain⟨hr,he⟩:Sem.run P (Instr.endRound l none) w=.ok x w'/\Sem.events P (Instr.endRound l none) w #[]=es:=by simpa using hrun
   simp [R,stepG,stepG.exec,fr,b,hr,he,doReturn,GStep.after,Rf]
  | exit id=>exact .inr ⟨rfl,leave⟩
  | ret=>exact leave
def Qie (f:Operand) (l:Nat):Call:={ callee:=.value f,args:=#[.const (.func (.yield l) #[] #[])],argTypes:=#[] }
theorem Qzn {Q:Ex->Act->Qa T->Prop} {a:Act} {U:Qa T} {f:Operand} {params:Array Tmp} {assign body:Code}
  (h:Qr P (Instr.enterLoop fn a.tmps params assign body ro) (λ lm U1=>
   Qr P (do let d <- resolve a.eval (Qie f lm.1) 0;invoke d.target d.args:Sem Next) (λ nx U2=>match nx with
    | .enter f' args=>Qb S f' args (λ _ U3=>Qr P (Instr.endLoop lm.1) (λ j U4=>match j with
      | none=>Q .normal { a with defers:=lm.2++a.defers } U4
      | some c=>Zw S fn ro c Q { a with defers:=lm.2++a.defers } U4) U3) U2
    | _=>False) U1) U):Zw S fn ro (.rangeFunc f params assign body) Q a U:=by
 intro Stop m b k cs hb hc;have hke:(b.kind == CallKind.early)=false:=by simpa using hb.2.2.1
 refine .priv ⟨rfl,λ w ok=>?_⟩;obtain⟨⟨l,mark⟩,w_1,es1,U1,hr_1,hev1,hg_1,ok_1,h,ht_1⟩:=Qr.sound _ (es₀:=#[]) h ok;obtain⟨nx,w_2,es2,U2,hr_2,hev2,hg_2,ok2,h,ht_2⟩:=Qr.sound _ (es₀:=#[]) h ok_1;have hr1':(Instr.enterLoop b.fn a.tmps params assign body b.roundOf).runT P w #[]=(.ok (l,mark) w_1,es1):=by rw [hb.1,hb.2.1];simpa using hr_1
 have hr2':(do let d <- resolve a.eval (Qie f l) 0;invoke d.target d.args:Sem Next).runT P w_1 #[]=(.ok nx w_2,es2):=by simpa using hr_2
 cases nx with
 | enter f' args=>
  refine⟨Rf (Frame.enter P f' args .normal) (fr b { a with defers:=mark++a.defers } (.inRangeFunc l::k)::cs),w_2,seen P b.fn es1++seen P b.fn es2,U2,?_,?_,hg_1.trans hg_2,ok2,ht_2.trans ht_1,?_⟩
  .have he:(fr b { a with defers:=mark++a.defers } (.inRangeFunc l::k)).eval=a.eval:=by rw [Qqc];rfl
   show GStep.after (seen P b.fn ((Instr.enterLoop b.fn a.tmps params assign body b.roundOf).runT P w #[]).2) (match ((Instr.enterLoop b.fn a.tmps params assign body b.roundOf).runT P w #[]).1 with
    | .ok (l,mark) w=>stepG.apply P true (fr b { a with defers:=mark++a.defers } (.inRangeFunc l::k)) cs none (do let d <- resolve (fr b { a with defers:=mark++a.defers } (.inRangeFunc l::k)).eval (Qie f l) 0;invoke d.target d.args) w
    | .halt _ w=>_)=_
   simp_all[stepG.apply,if_true,fr,GStep.after,Rf]
  .intro e he;rcases Array.mem_append.1 he with he | he
   .exact⟨(hev1 e (Jq P _ _ e he)).1,(hev1 e (Jq P _ _ e he)).2.mono hg_2.size⟩
   grind[Qif.of,Jq]
  .refine h Stop m _ cs λ v U3 h=>?_;have hfin:(fr b { a with defers:=mark++a.defers } (.inRangeFunc l::k)).finish v=fr b { a with defers:=mark++a.defers } (.endRangeFunc l::k):=by simp [Frame.finish,fr]
   rw [hfin];refine .sem (g:=R b { a with defers:=mark++a.defers } (.endRangeFunc l::k) cs) _ rfl h λ w j w' es hrun _=>⟨R b { a with defers:=mark++a.defers } ((j.map Item.code).toList++k) cs,seen P b.fn es,?_,Jq P _ es,λ U4 q=>?_⟩
   .obtain⟨hr,he⟩:Sem.run P (Instr.endLoop l) w=.ok j w'/\Sem.events P (Instr.endLoop l) w #[]=es:=by simpa using hrun
    simp [R,stepG,stepG.exec,fr,hr,he,GStep.after]
   .cases j with
    | none=>exact hc _ _ _ q
    | some c=>exact q Stop m b k cs hb hc
 | _=>exact h.elim
end Go.TM
namespace Go.TM
variable {T:Type} {P:Program} {S:Sys P T}
def Sep (U:Qa T):Prop:=∀r∈U.M,U.I r.blk=none
theorem Qb.sep {f:FuncId} {args:Array Value} {R R':Value->Qa T->Prop} {U:Qa T} (h:Qb S f args R U) (hr:∀v U',Sep U'->R v U'->∃U'',Qw U' U''/\R' v U''):Qb S f args R' U:=by
 intro Stop m c cs k;refine h Stop m c cs λ v U' r=>?_;by_cases hs:Sep U'
 .obtain⟨U'',h1,h2⟩:=hr v U' hs r;exact .shift h1 (k v _ h2)
 .exact .priv ⟨rfl,λ w ok=>absurd ok.sep hs⟩
def Zl (S:Sys P T) (l:Nat) (vs:List Value) (K:Value->Qa T->Prop) (U:Qa T):Prop:=Qr P (Instr.yield l vs.toArray) (Qah S K) U
abbrev Fm:=Nat->Value
def upd (f:Fm) (d:Nat) (v:Value):Fm:=λ t=>bif Nat.beq t d then v else f t
def Qcn (f:Fm):Option Nat->Value->Fm
 | some d,v=>upd f d v
 | none,_=>f
def Zj (f:Fm):Operand->Value
 | .tmp t=>f t
 | .const v=>v
 | .global g=>.pointer (some ⟨g,0,none⟩)
 | .func g=>.func (.func g) #[] #[]
inductive O where
 | mv (x:Operand)
 | pick (c a b:Operand)
 | add (x y:Operand) | sub (x y:Operand) | mul (x y:Operand)
 | cmp (op:BinOp) (x y:Operand)
 | beq (op:BinOp) (x y:Operand)
 | ar (op:BinOp) (x y:Operand)
 | teq (op:BinOp) (x y:Operand)
 | not (x:Operand)
 | len (x:Operand)
 | lenT (x:Operand)
 | lenM (x:Operand)
 | conv (k:IntKind) (x:Operand)
 | off (n:Nat) (x:Operand)
 | idx (sz:Nat) (x i:Operand)
 | aidx (n sz:Nat) (x i:Operand)
 | sidx (x i:Operand)
 | ld (x:Operand)
 | ldn (n:Nat) (x:Operand)
 | st (n:Nat) (x v:Operand)
 | box (t:TypeId) (x:Operand)
 | boxM (t:TypeId) (x:Operand)
 | alloc (t:TypeId) (zero:Array Value)
 | ext (x:Operand) (i:Nat)
 | part (off n:Nat) (x:Operand)
 | part1 (off:Nat) (x:Operand)
 | mkf (fn:Fn) (first capt:Array Operand)
 | call (f:Operand) (args:Array Operand)
 | nilc (x:Operand)
 | sub3 (sz:Nat) (x:Operand) (lo hi:Option Operand)
 | build (zero:Array Value) (parts:List (Nat×Nat×Operand))
 | bsl (t:TypeId) (len:Nat) (zero:Array Value) (parts:List (Nat×Nat×Operand))
 | raw (o:Oper)
def Qec (v:Value) (K:Value->Prop):Prop:=
 match v with
 | .bool b=>K (.bool b) | .int k n=>K (.int k n) | .float k n=>K (.float k n) | .complex k a b=>K (.complex k a b) | .string s=>K (.string s)
 | .pointer a=>K (.pointer a) | .slice a l c=>K (.slice a l c) | .map r=>K (.map r) | .chan r=>K (.chan r) | .func f a b=>K (.func f a b)
 | .nilFunc=>K .nilFunc | .iface t x=>K (.iface t x) | .nilIface=>K .nilIface | .agg c=>K (.agg c) | .tuple c=>K (.tuple c)
theorem Qz (v:Value) (K:Value->Prop):Qec v K=K v:=by cases v <;> rfl
def Qce (l:List Value):(List Value->Prop)->Prop:=List.rec (motive:=λ _=>(List Value->Prop)->Prop) (λ K=>K []) (λ v _ ih K=>Qec v λ v=>ih λ r=>K (v::r)) l
theorem J8:∀(l:List Value) (K:List Value->Prop),Qce l K=K l
 | [],_=>rfl
 | v::r,K=>by
  show (Qec v λ v=>Qce r λ r=>K (v::r))=_;rw [Qz];exact J8 r _
def Qt9 (v:Value) (K:Array Value->Prop):Prop:=Qec v λ v=>match v with | .agg cs=>K cs | v=>K #[v]
theorem Qns (v:Value) (K:Array Value->Prop):Qt9 v K=K v.cells:=by unfold Qt9;rw [Qz];cases v <;> rfl
def Zi (U:Qa T) (b:Nat) (c:Array Value):Prop:=∃t fr,U.I b=some (.cells c t fr)
theorem Zi.new {U:Qa T} {b:Nat} {c:Array Value} {t:TypeId}:Zi { U with I:=Qf8 U.I b (.cells c t) } b c:=⟨t,(0,0),by simp [Qf8]⟩
theorem Qnv {U:Qa T} {b:Nat} {o:Obj} (h:U.free b):U.le { U with I:=Qf8 U.I b o }:=by
 refine⟨λ x o' hx=>?_,rfl,rfl⟩;show Qf8 U.I b o x=_;unfold Qf8;rw [if_neg]
 .exact hx
 .intro e;rw [e,h.1] at hx;cases hx
def Zu (n:Int):Prop:=-9223372036854775808<=n/\n<9223372036854775808
theorem Qfh {n:Int} (h:Zu n):IntKind.wrap .i64 n=n:=by
 unfold Zu at h;have e1:(2:Int) ^ 64=18446744073709551616:=by decide
 have e2:(2:Int) ^ (64-1)=9223372036854775808:=by decide
 simp only [IntKind.wrap,IntKind.bits,IntKind.signed,Bool.true_and,e1,e2];grind
def Jn (U:Qa T) (a:Addr) (vs:List Value):Prop:=∀i v,vs[i]?=some v->U.sees (a.add i) v
def StV (a:Addr) (l:List Value):Nat->(Qa T->Prop)->Qa T->Prop:=
 List.rec (motive:=λ _=>Nat->(Qa T->Prop)->Qa T->Prop) (λ _ K U=>K U) (λ v _ ih i K U=>v.single=true/\∃M',Upd (a.add i) v U.M M'/\ih (i+1) K { U with M:=M' }) l
theorem StV.mono {a:Addr} {K K':Qa T->Prop} (hk:∀U,K U->K' U):∀(vs:List Value) (i:Nat) (U:Qa T),StV a vs i K U->StV a vs i K' U
 | [],_,_,h=>hk _ h
 | _::vs,i,_,⟨h1,M',hu,h⟩=>⟨h1,M',hu,StV.mono hk vs (i+1) _ h⟩
def Qn4 (len:Nat) (lo hi:Option Value):Option (Int×Int):=
 match lo,hi with
 | none,none=>some (0,len)
 | some (.int _ l),none=>some (l,len)
 | none,some (.int _ h)=>some (0,h)
 | some (.int _ l),some (.int _ h)=>some (l,h)
 | _,_=>none
def Qcg (cells:Array Value) (off:Nat):List Value->Nat->Array Value
 | [],_=>cells
 | v::r,j=>Qcg (cells.setIfInBounds (off+j) v) off r (j+1)
def Q3r (f:Fm) (cells:Array Value):List (Nat×Nat×Operand)->Option (Array Value)
 | []=>some cells
 | (off,size,x)::r=>
  if (Zj f x).cells.size≠size || off+(Zj f x).cells.size > cells.size then none
  else Q3r f (Qcg cells off (Zj f x).cells.toList 0) r
theorem Qfr:∀(vs:List Value) (c:Array Value) (off j:Nat),(Qcg c off vs j).size=c.size
 | [],_,_,_=>rfl
 | v::vs,c,off,j=>by simp [Qcg,Qfr vs]
theorem Qe9:∀(vs:List Value) (c:Array Value) (off j k:Nat),off+j+vs.length<=c.size->(Qcg c off vs j)[k]?=if off+j<=k/\k<off+j+vs.length then vs[k-(off+j)]? else c[k]?
 | [],c,off,j,k,_=>by simp [Qcg];omega
 | v::vs,c,off,j,k,h=>by
  simp only [length_cons] at h;simp only [Qcg];rw [Qe9 vs _ off (j+1) k (by simp;omega)];grind
theorem Za8 (vs:List Value) (c:Array Value) (off:Nat) (h:off+vs.length<=c.size):(Qcg c off vs 0).toList=c.toList.take off++vs++c.toList.drop (off+vs.length):=by
 apply ext_getElem?;intro k;have hg:=Qe9 vs c off 0 k (by omega);rw [Array.getElem?_toList,hg];have hl:(c.toList.take off).length=off:=by simp;omega
 grind
def Zbl (off:Nat) (vs cs:List Value):List Value:=cs.take off++vs++cs.drop (off+vs.length)
def Zcc (f:Fm) (ps:List (Nat×Nat×Operand)):List Value->(List Value->Prop)->Prop:=
 List.rec (motive:=λ _=>List Value->(List Value->Prop)->Prop) (λ cs K=>Qce cs K)
  (λ p _ ih cs K=>Qt9 (Zj f p.2.2) λ vs=>Qce vs.toList λ vl=>
   bif (Nat.beq vl.length p.2.1 && Nat.ble (p.1+vl.length) cs.length) then Qce (Zbl p.1 vl cs) (λ cs'=>ih cs' K) else False) ps
theorem Qcz (f:Fm):∀(ps:List (Nat×Nat×Operand)) (cs:List Value) (K:List Value->Prop),Zcc f ps cs K=(match Q3r f cs.toArray ps with | some c=>K c.toList | none=>False)
 | [],cs,K=>by
  show Qce cs K=_;rw [J8];rfl
 | (off,size,x)::r,cs,K=>by
  show (Qt9 (Zj f x) λ vs=>Qce vs.toList λ vl=>bif (Nat.beq vl.length size && Nat.ble (off+vl.length) cs.length) then Qce (Zbl off vl cs) (λ cs'=>Zcc f r cs' K) else False)=_;rw [Qns,J8,Q3r];simp only [Array.length_toList,size_toArray];by_cases h:(Zj f x).cells.size=size/\off+(Zj f x).cells.size<=cs.length
  .have e1:(Nat.beq (Zj f x).cells.size size && Nat.ble (off+(Zj f x).cells.size) cs.length)=true:=by
    rw [Bool.and_eq_true];exact⟨Nat.beq_eq.symm ▸ h.1,Nat.ble_eq.symm ▸ h.2⟩
   rw [e1,cond_true,J8,Qcz f r];rw [if_neg (by simp;omega)];have e2:=Za8 (Zj f x).cells.toList cs.toArray off (by simpa using h.2)
   have e3:(Zbl off (Zj f x).cells.toList cs).toArray=Qcg cs.toArray off (Zj f x).cells.toList 0:=by
    apply Array.ext';rw [e2];rfl
   rw [e3]
  .have e1:(Nat.beq (Zj f x).cells.size size && Nat.ble (off+(Zj f x).cells.size) cs.length)=false:=by
    rw [Bool.and_eq_false_iff];by_cases h1:(Zj f x).cells.size=size
    .right;rw [Bool.eq_false_iff];intro h2;exact h ⟨h1,Nat.le_of_ble_eq_true h2⟩
    .left;rw [Bool.eq_false_iff];intro h2;exact h1 (Nat.eq_of_beq_eq_true h2)
   grind
def OX (S:Sys P T):O->Fm->(Value->Qa T->Prop)->Qa T->Prop
 | .mv x,f,K,U=>Qec (Zj f x) λ v=>K v U
 | .pick c a b,f,K,U=>match Zj f c with
  | .bool true=>Qec (Zj f a) λ v=>K v U
  | .bool false=>Qec (Zj f b) λ v=>K v U
  | _=>False
 | .add x y,f,K,U=>match Zj f x,Zj f y with | .int .i64 a,.int .i64 b=>Zu (a+b)/\K (.int .i64 (a+b)) U | _,_=>False
 | .sub x y,f,K,U=>match Zj f x,Zj f y with | .int .i64 a,.int .i64 b=>Zu (a-b)/\K (.int .i64 (a-b)) U | _,_=>False
 | .mul x y,f,K,U=>match Zj f x,Zj f y with | .int .i64 a,.int .i64 b=>Zu (a*b)/\K (.int .i64 (a*b)) U | _,_=>False
 | .cmp op x y,f,K,U=>match Zj f x,Zj f y with
  | .int k a,.int k' b=>k=k'/\(match op with
   | .eql=>K (.bool (a == b)) U | .neq=>K (.bool (a != b)) U | .lss=>K (.bool (decide (a<b))) U
   | .leq=>K (.bool (decide (a<=b))) U | .gtr=>K (.bool (decide (a > b))) U | .geq=>K (.bool (decide (a ≥ b))) U | _=>False)
  | _,_=>False
 | .beq op x y,f,K,U=>match Zj f x,Zj f y with
  | .bool a,.bool b=>(match op with | .eql=>K (.bool (a == b)) U | .neq=>K (.bool (!(a == b))) U | _=>False)
  | _,_=>False
 | .ar op x y,f,K,U=>match Zj f x,Zj f y with
  | .int k a,.int k' b=>(match op with
   | .add=>k=k'/\K (.int k (k.wrap (a+b))) U | .sub=>k=k'/\K (.int k (k.wrap (a-b))) U | .mul=>k=k'/\K (.int k (k.wrap (a*b))) U
   | .quo=>k=k'/\b≠0/\K (.int k (k.wrap (a.tdiv b))) U | .rem=>k=k'/\b≠0/\K (.int k (a.tmod b)) U
   | .and=>k=k'/\K (.int k (k.wrap (BitVec.ofInt k.bits a &&& BitVec.ofInt k.bits b).toNat)) U
   | .or=>k=k'/\K (.int k (k.wrap (BitVec.ofInt k.bits a ||| BitVec.ofInt k.bits b).toNat)) U
   | .xor=>k=k'/\K (.int k (k.wrap (BitVec.ofInt k.bits a ^^^ BitVec.ofInt k.bits b).toNat)) U
   | .andNot=>k=k'/\K (.int k (k.wrap (BitVec.ofInt k.bits a &&& ~~~ BitVec.ofInt k.bits b).toNat)) U
   | .shl=>0<=b/\K (.int k (k.wrap (a*2 ^ (min b.toNat k.bits)))) U
   | .shr=>0<=b/\K (.int k (a.fdiv (2 ^ (min b.toNat k.bits)))) U
   | _=>False)
  | _,_=>False
 | .teq op x y,f,K,U=>match Zj f x,Zj f y with
  | .string a,.string b=>(match op with | .eql=>K (.bool (a.toList == b.toList)) U | .neq=>K (.bool (!(a.toList == b.toList))) U | _=>False)
  | _,_=>False
 | .not x,f,K,U=>match Zj f x with | .bool b=>K (.bool (!b)) U | _=>False
 | .len x,f,K,U=>match Zj f x with | .slice _ n _=>K (.int .i64 n) U | _=>False
 | .lenT x,f,K,U=>match Zj f x with | .string s=>K (.int .i64 s.size) U | _=>False
 | .lenM x,f,K,U=>match Zj f x with
  | .map none=>K (.int .i64 0) U
  | .map (some r)=>∃es clock,U.has r (.map es clock)/\K (.int .i64 es.size) U
  | _=>False
 | .conv k x,f,K,U=>match Zj f x with | .int _ n=>K (.int k (k.wrap n)) U | _=>False
 | .off n x,f,K,U=>match Zj f x with | .pointer (some a)=>K (.pointer (some (a.add n))) U | _=>False
 | .idx sz x i,f,K,U=>match Zj f x,Zj f i with
  | .slice a len _,.int _ n=>∃(ad:Addr) (j:Nat),(a=some ad/\n=j/\j<len)/\K (.pointer (some (ad.add (j*sz)))) U
  | _,_=>False
 | .aidx len sz x i,f,K,U=>match Zj f x,Zj f i with
  | .pointer (some a),.int _ n=>∃j:Nat,(n=j/\j<len)/\K (.pointer (some (a.add (j*sz)))) U
  | _,_=>False
 | .sidx x i,f,K,U=>match Zj f x,Zj f i with
  | .string s,.int _ n=>∃(j:Nat) (b:UInt8),(n=j/\s[j]?=some b)/\K (.int .u8 b.toNat) U
  | _,_=>False
 | .ld x,f,K,U=>match Zj f x with | .pointer (some a)=>∃v,U.sees a v/\Qec v λ v=>K v U | _=>False
 | .ldn n x,f,K,U=>match Zj f x with | .pointer (some a)=>∃vs:List Value,(vs.length=n/\Jn U a vs)/\K (.agg vs.toArray) U | _=>False
 | .st n x v,f,K,U=>match Zj f x with | .pointer (some a)=>(Zj f v).cells.size=n/\StV a (Zj f v).cells.toList 0 (λ U'=>∃U1,Qw U' U1/\K undef U1) U | _=>False
 | .box _ x,f,K,U=>Qt9 (Zj f x) λ cs=>∀b U1,U.le U1->Zi U1 b cs->K (.pointer (some ⟨b,0,none⟩)) U1
 | .boxM t x,f,K,U=>∀b,U.free b->K (.pointer (some ⟨b,0,none⟩)) (U.put b (.cells (Zj f x).cells t))
 | .alloc t zero,_,K,U=>∀b,U.free b->∃U1,Qw (U.put b (.cells zero t)) U1/\K (.pointer (some ⟨b,0,none⟩)) U1
 | .ext x i,f,K,U=>match Zj f x with | .tuple vs=>(match vs[i]? with | some v=>Qec v λ v=>K v U | none=>False) | _=>False
 | .part off n x,f,K,U=>match Zj f x with | .agg cs=>K (.agg ((cs.toList.drop off).take n).toArray) U | _=>False
 | .part1 off x,f,K,U=>match Zj f x with | .agg cs=>(match cs[off]? with | some v=>Qec v λ v=>K v U | none=>False) | _=>False
 | .mkf fn first capt,f,K,U=>Qce (first.toList.map (Zj f)) λ a=>Qce (capt.toList.map (Zj f)) λ c=>K (.func fn a.toArray c.toArray) U
 | .call c args,f,K,U=>match Zj f c with
  | .func (.func g) first capt=>(P.funcs[g]?.any λ fd=>fd.body.isSome && fd.name != "runtime.NumGoroutine")=true/\Qce (args.toList.map (Zj f)) λ vs=>Qb S g (first.toList++vs++capt.toList).toArray (λ v U'=>Sep U'->K v U') U
  | .func (.yield l) first _=>Qce (args.toList.map (Zj f)) λ vs=>Zl S l (first.toList++vs) K U
  | _=>False
 | .nilc x,f,K,U=>match Zj f x with | .pointer (some a)=>K (.pointer (some a)) U | _=>False
 | .sub3 sz x lo hi,f,K,U=>match Zj f x with
  | .slice a len cap=>(match Qn4 len (lo.map (Zj f)) (hi.map (Zj f)) with
   | some (li,hi)=>∃l h:Nat,(li=l/\hi=h/\l<=h/\h<=cap)/\K (.slice (if cap=l then a else a.map (·.add (l*sz))) (h-l) (cap-l)) U
   | none=>False)
  | _=>False
 | .build zero parts,f,K,U=>Zcc f parts zero.toList λ l=>K (.agg l.toArray) U
 | .bsl t len zero parts,f,K,U=>Zcc f parts zero.toList λ l=>∀b,U.free b->∃U1,Qw (U.put b (.cells l.toArray t)) U1/\K (.slice (some ⟨b,0,none⟩) len len) U1
 | .raw o,f,K,U=>∀a:Act,(∀x,a.eval x=Zj f x)->Qr P (execOp a.eval o) (Qah S λ v U'=>∃U1,Qw U' U1/\K v U1) U
theorem Qvr {α:Type} (s:Sem α):s.bind Sem.pure=s:=by
 induction s with
 | pure a=>rfl
 | load m a k ih=>simp only [Sem.bind];simp_all
 | store m a v k ih=>grind[Sem.bind]
 | new o k ih=>simp only [Sem.bind];simp_all
 | shape r k ih=>simp only [Sem.bind];simp_all
 | freeze a n k ih=>grind[Sem.bind]
 | frozen a k ih=>simp only [Sem.bind];congr 1;grind
 | getObj r k ih=>simp only [Sem.bind];simp_all
 | setObj r o k ih=>grind[Sem.bind]
 | choose q k ih=>simp only [Sem.bind];simp_all
 | sys c k ih=>simp only [Sem.bind];simp_all
 | program k ih=>simp only [Sem.bind];simp_all
 | mark m k ih=>grind[Sem.bind]
 | halt h=>rfl
theorem Quq {α β γ:Type} (s:Sem α) (g:α->Sem β) (h:β->Sem γ):(s.bind g).bind h=s.bind λ a=>(g a).bind h:=by
 induction s with
 | pure a=>rfl
 | load m a k ih=>simp only [Sem.bind];simp_all
 | store m a v k ih=>grind[Sem.bind]
 | new o k ih=>simp only [Sem.bind];simp_all
 | shape r k ih=>simp only [Sem.bind];simp_all
 | freeze a n k ih=>grind[Sem.bind]
 | frozen a k ih=>simp only [Sem.bind];grind
 | getObj r k ih=>simp only [Sem.bind];simp_all
 | setObj r o k ih=>grind[Sem.bind]
 | choose q k ih=>simp only [Sem.bind];simp_all
 | sys c k ih=>simp only [Sem.bind];simp_all
 | program k ih=>simp only [Sem.bind];simp_all
 | mark m k ih=>grind[Sem.bind]
 | halt h=>rfl
theorem Qur:LawfulMonad Sem:=LawfulMonad.mk' Sem (id_map:=λ s=>Qvr s) (pure_bind:=λ _ _=>rfl) (bind_assoc:=λ s g h=>Quq s g h)
def Qf4 {α β:Type} (g:α->Sem β):List α->Array β->Sem (Array β)
 | [],acc=>pure acc
 | x::r,acc=>do let y <- g x;Qf4 g r (acc.push y)
theorem Zj8 {α β:Type} (g:α->Sem β):∀(l:List α) (acc:Array β),Qf4 g l acc=(do let r <- l.mapM g;pure (acc++r.toArray)):=by
 have:=Qur;intro l
 induction l with
 | nil=>grind[Qf4]
 | cons x l ih=>simp_all[Qf4,mapM_cons]
theorem Qzz {α β:Type} (g:α->Sem β) (l:List α):Array.mapM g l.toArray=Qf4 g l #[]:=by
 simp_all[Qur,Zj8]
theorem Qd {α β:Type} (s:Sem α) (g:α->Sem β) (Q:β->Qa T->Prop) (U:Qa T):Qr P (s >>= g) Q U=Qr P s (λ a U=>Qr P (g a) Q U) U:=propext (Qly s g)
theorem Qk {α:Type} (a:α) (Q:α->Qa T->Prop) (U:Qa T):Qr P (pure a:Sem α) Q U=Q a U:=rfl
theorem Zg {t:TypeId} {d:TypeDesc} (h:P.underlying t=some d) (Q:TypeDesc->Qa T->Prop) (U:Qa T):Qr P (underlying t) Q U=Q d U:=by
 grind[underlying,program,Qd,Qr,Qk]
theorem Wi {t:TypeId} {i:TypeInfo} (h:P.info? t=some i) (Q:TypeInfo->Qa T->Prop) (U:Qa T):Qr P (typeInfo t) Q U=Q i U:=by
 grind[typeInfo,program,Qd,Qr,Qk]
theorem Jh {t:TypeId} {i:TypeInfo} (h:P.info? t=some i) (Q:Nat->Qa T->Prop) (U:Qa T):Qr P (sizeOf t) Q U=Q i.size U:=by
 grind[sizeOf,Qd,Wi,Qk]
def TypeDesc.agg:TypeDesc->Bool
 | .struct _ | .array _ _=>true
 | _=>false
theorem Qhj {t:TypeId} {d:TypeDesc} (h:P.underlying t=some d) (Q:Bool->Qa T->Prop) (U:Qa T):Qr P (isAgg t) Q U=Q (TypeDesc.agg d) U:=by
 simp only [isAgg,Qd,Zg h];cases d <;> rfl
theorem Qbt {t:TypeId} {i:TypeInfo} {v:Value} (h:P.info? t=some i) (hz:i.zero=some v) (Q:Value->Qa T->Prop) (U:Qa T):Qr P (zeroValue t) Q U=Q v U:=by
 grind[zeroValue,Qd,Wi,Qk]
theorem Q0e {a:Addr} {v:Value} {Q:Value->Qa T->Prop} {U:Qa T} (h:U.sees a v) (hq:Q v U):Qr P (load a) Q U:=⟨rfl,v,h,hq⟩
theorem Qlq {a:Addr} {Q:Array Value->Qa T->Prop} {U:Qa T}:∀(vs:List Value) (i:Nat) (acc:Array Value),(∀j v,vs[j]?=some v->U.sees (a.add (i+j)) v)->Q (acc++vs.toArray) U ->
  Qr P (loadCellsFrom a i vs.length acc) Q U
 | [],i,acc,_,hq=>by grind[loadCellsFrom,Qk]
 | v::vs,i,acc,h,hq=>by
  simp only [length_cons,loadCellsFrom,Qd];refine Q0e (h 0 v rfl) (Qlq vs (i+1) (acc.push v) (λ j u hj=>?_) ?_)
  .have:=h (j+1) u hj
   rwa [show i+(j+1)=i+1+j by omega] at this
  .have e:acc.push v++vs.toArray=acc++(v::vs).toArray:=by apply Array.ext';simp
   rw [e];exact hq
theorem Qao {a:Addr} {Q:Unit->Qa T->Prop}:∀(vs:List Value) (i:Nat) (U:Qa T),StV a vs i (λ U'=>Q () U') U->Qr P (storeCells a vs i) Q U
 | [],_,_,h=>h
 | v::vs,i,U,h=>by
  obtain⟨hv,M',hu,h⟩:=h;simp only [storeCells,Qd,store];exact⟨rfl,hv,M',hu,Qao vs (i+1) _ h⟩
theorem Jk {t:TypeId} {c:Array Value} {Q:Addr->Qa T->Prop} {U:Qa T} (h:∀b,U.free b->Q ⟨b,0,none⟩ (U.put b (.cells c t))):Qr P (newRow t c) Q U:=by
 grind[newRow,newObj,Qd,Qr,Qk]
end Go.TM
