/- Lemmas. No conditions. -/
import Derived.Conc.Own
import Derived.Orders
set_option linter.all false
open List
namespace Go
def Value.single:Value->Bool
 |.agg _|.tuple _=>false
 |_=>true
end Go
namespace Go.TM
inductive Qv where
 |obj (b:Nat) (o:Obj)
 |cell (b i:Nat) (v:Value) (T:TypeId) (n:Nat)
def Qv.blk:Qv->Nat
 |.obj b _=>b
 |.cell b _ _ _ _=>b
def Qv.ok(w:World):Qv->Prop
 |.obj b o=>w.heap[b]?=some o
 |.cell b i v T n=>∃c,w.heap[b]?=some (.cells c T (0,0))/\c.size=n/\c[i]?=some v
def Qv.apart:Qv->Qv->Prop
 |.cell b i _ _ _,.cell c j _ _ _=>b≠c\/i≠j
 |r,s=>r.blk≠s.blk
structure Qa(T:Type) where
 I:Nat->Option Obj
 M:List Qv
 tok:T
variable{T:Type}
structure Qa.ok(U:Qa T)(w:World):Prop where
 imm:∀b o,U.I b=some o->w.heap[b]?=some o
 held:∀r∈U.M,r.ok w
 apart:U.M.Pairwise Qv.apart
 sep:∀r∈U.M,U.I r.blk=none
def Qa.canW(U:Qa T):Loc->Prop
 |.cell a=>(∃c t fr,Qv.obj a.block (.cells c t fr)∈U.M/\a.off<c.size)\/(∃v t n,Qv.cell a.block a.off v t n∈U.M)
 |.obj b=>∃o,Qv.obj b o∈U.M
 |_=>False
def Qa.canR(U:Qa T):Loc->Prop
 |.cell a=>U.canW (.cell a)\/∃c t fr,U.I a.block=some (.cells c t fr)/\a.off<c.size
 |.obj b=>U.canW (.obj b)\/∃o,U.I b=some o
 |_=>False
def Loc.new(w:World):Loc->Prop
 |.cell a=>w.heap.size<=a.block
 |.obj b=>w.heap.size<=b
 |_=>False
def Mark.still:Mark->Bool
 |.acquire _|.release _|.releaseMerge _|.disable|.enable|.read _|.write _=>false
 |_=>true
def Qjb(U:Qa T)(w:World)(e:Event):Prop:=
 match e.loc with
 |.cell a=>e.sync=false/\(if e.write then U.canW (.cell a)\/Loc.new w (.cell a)else U.canR (.cell a)\/Loc.new w (.cell a))
 |.obj b=>e.sync=false/\(if e.write then U.canW (.obj b)\/Loc.new w (.obj b)else U.canR (.obj b)\/Loc.new w (.obj b))
 |.mark m=>Mark.still m=true
 |_=>False
def OsL(o o':Os):Prop:=∃d:Nat,o'={ o with wall:=o.wall+d,mono:=o.mono+d }
def OsL.refl(o:Os):OsL o o:=⟨0,rfl⟩
def OsL.trans{a b c:Os}(h:OsL a b)(k:OsL b c):OsL a c:=by
 obtain⟨d,rfl⟩:=h;obtain⟨e,rfl⟩:=k;exact⟨d+e,by simp[Nat.add_assoc]⟩
structure Qfb(U:Qa T)(w w':World)(U':Qa T):Prop where
 os:OsL w.os w'.os
 tape:w'.tape=w.tape
 output:w'.output=w.output
 size:w.heap.size<=w'.heap.size
 cells:∀b c t fr,w.heap[b]?=some (.cells c t fr)->∃c' fr',w'.heap[b]?=some (.cells c' t fr')/\c'.size=c.size/\(∀i,¬U.canW (.cell ⟨b,i,none⟩)->c'[i]?=c[i]?)/\(fr'=fr\/(U.canW (.obj b)/\∀i,i<c.size->U.canW (.cell ⟨b,i,none⟩)))
 objs:∀b o,w.heap[b]?=some o->(∀c t fr,o≠.cells c t fr)->¬U.canW (.obj b)->w'.heap[b]?=some o
 cw:∀l,U'.canW l->U.canW l\/Loc.new w l
 cr:∀l,U'.canR l->U.canR l\/Loc.new w l
def Qfb.refl(U:Qa T)(w:World):Qfb U w w U:=
 ⟨.refl _,rfl,rfl,Nat.le_refl _,λ _ c _ fr h=>⟨c,fr,h,rfl,λ _ _=>rfl,.inl rfl⟩,λ _ _ h _ _=>h,λ _ h=>.inl h,λ _ h=>.inl h⟩
def Loc.new_mono{w w':World}(h:w.heap.size<=w'.heap.size){l:Loc}(hl:Loc.new w' l):Loc.new w l:=by
 cases l <;> simp_all[Loc.new] <;> omega
def Qgy{w:World}{b:Nat}{o:Obj}(h:w.heap[b]?=some o)(i:Nat):¬Loc.new w (.cell ⟨b,i,none⟩):=by
 have:=(Array.getElem?_eq_some_iff.1 h).1;simp[Loc.new];omega
def Qic{w:World}{b:Nat}{o:Obj}(h:w.heap[b]?=some o):¬Loc.new w (.obj b):=by
 have:=(Array.getElem?_eq_some_iff.1 h).1;simp[Loc.new];omega
def Qfb.trans{U U1 U2:Qa T}{w w_1 w_2:World}(h:Qfb U w w_1 U1)(k:Qfb U1 w_1 w_2 U2):Qfb U w w_2 U2:=by
 refine⟨h.os.trans k.os,k.tape.trans h.tape,k.output.trans h.output,Nat.le_trans h.size k.size,?_,?_,?_,?_⟩
 .intro b c t fr hb;obtain⟨c_1,f_1,h_1,hs_1,hc_1,hf_1⟩:=h.cells b c t fr hb;obtain⟨c_2,f_2,h_2,hs_2,hc2,hf_2⟩:=k.cells b c_1 t f_1 h_1;refine⟨c_2,f_2,h_2,hs_2.trans hs_1,λ i hi=>?_,?_⟩
  .rw[hc2 i λ hw=>?_,hc_1 i hi];rcases h.cw _ hw with hw|hw
   .exact hi hw
   .exact Qgy hb i hw
  .rcases hf_2 with rfl|⟨ho,hi⟩
   .exact hf_1
   .refine .inr ⟨?_,λ i hlt=>?_⟩
    .rcases h.cw _ ho with hw|hw
     .exact hw
     .exact absurd hw (Qic hb)
    .rcases h.cw _ (hi i (by rw[hs_1];exact hlt))with hw|hw
     .exact hw
     .exact absurd hw (Qgy hb i)
 .intro b o hb hne hw;have h_1:=h.objs b o hb hne hw;refine k.objs b o h_1 hne λ hw'=>?_;rcases h.cw _ hw' with hw'|hw'
  .exact hw hw'
  .exact Qic hb hw'
 .intro l hl;rcases k.cw l hl with hl|hl
  .exact h.cw l hl
  .exact .inr (Loc.new_mono h.size hl)
 .intro l hl;rcases k.cr l hl with hl|hl
  .exact h.cr l hl
  .exact .inr (Loc.new_mono h.size hl)
def Qjb.of{U U1:Qa T}{w w_1:World}(h:Qfb U w w_1 U1){e:Event}(he:Qjb U1 w_1 e):Qjb U w e:=by
 obtain⟨loc,wr,sy⟩:=e;cases loc with
 |cell a=>
  simp only[Qjb]at he ⊢;refine⟨he.1,?_⟩;have h2:=he.2;split at h2 <;> rename_i hwr <;> simp only[hwr,if_true,if_false,Bool.false_eq_true]
  .rcases h2 with h2|h2
   .exact h.cw _ h2
   .exact .inr (Loc.new_mono h.size h2)
  .rcases h2 with h2|h2
   .exact h.cr _ h2
   .exact .inr (Loc.new_mono h.size h2)
 |obj b=>
  simp only[Qjb]at he ⊢;refine⟨he.1,?_⟩;have h2:=he.2;split at h2 <;> rename_i hwr <;> simp only[hwr,if_true,if_false,Bool.false_eq_true]
  .rcases h2 with h2|h2
   .exact h.cw _ h2
   .exact .inr (Loc.new_mono h.size h2)
  .rcases h2 with h2|h2
   .exact h.cr _ h2
   .exact .inr (Loc.new_mono h.size h2)
 |output=>exact he
 |goroutines=>exact he
 |mark m=>exact he
def Qa.sees(U:Qa T)(a:Addr)(v:Value):Prop:=
 a.spot=none/\((∃c t fr,(U.I a.block=some (.cells c t fr)\/Qv.obj a.block (.cells c t fr)∈U.M)/\c[a.off]?=some v)\/(∃t n,Qv.cell a.block a.off v t n∈U.M))
def Qa.has(U:Qa T)(b:Nat)(o:Obj):Prop:=U.I b=some o\/Qv.obj b o∈U.M
inductive Upd(a:Addr)(v:Value):List Qv->List Qv->Prop
 |obj {c t M}:a.spot=none->a.off<c.size->Upd a v (.obj a.block (.cells c t (0,0))::M) (.obj a.block (.cells (c.setIfInBounds a.off v) t (0,0))::M)
 |cell {u t n M}:a.spot=none->Upd a v (.cell a.block a.off u t n::M) (.cell a.block a.off v t n::M)
 |there {r M M'}:Upd a v M M'->Upd a v (r::M) (r::M')
inductive J4(b:Nat)(o':Obj):Obj->List Qv->List Qv->Prop
 |here {o M}:J4 b o' o (.obj b o::M) (.obj b o'::M)
 |there {o r M M'}:J4 b o' o M M'->J4 b o' o (r::M) (r::M')
def Obj.shapeOf:Obj->Option (TypeId×Nat)
 |.cells c t _=>some (t,c.size)
 |_=>none
def Obj.isCells:Obj->Bool
 |.cells ..=>true
 |_=>false
def Qa.put(U:Qa T)(b:Nat)(o:Obj):Qa T:={ U with M:=.obj b o::U.M }
def Qa.free(U:Qa T)(b:Nat):Prop:=U.I b=none/\∀r∈U.M,r.blk≠b
def Qr(P:Program){α:Type}:Sem α->(α->Qa T->Prop)->Qa T->Prop
 |.pure a,Q,U=>Q a U
 |.load m a k,Q,U=>m=.plain/\∃v,U.sees a v/\Qr P (k v) Q U
 |.store m a v k,Q,U=>m=.plain/\v.single=true/\∃M',Upd a v U.M M'/\Qr P k Q { U with M:=M' }
 |.new o k,Q,U=>∀b,U.free b->Qr P (k b) Q (U.put b o)
 |.shape r k,Q,U=>∃o,U.has r o/\Qr P (k (Obj.shapeOf o)) Q U
 |.freeze a n k,Q,U=>n≠0/\∃c t M',U.M=.obj a.block (.cells c t (0,0))::M'/\Qr P k Q { U with M:=.obj a.block (.cells c t (a.off,a.off+n))::M' }
 |.frozen a k,Q,U=>∃c t,U.has a.block (.cells c t (0,0))/\Qr P (k false) Q U
 |.getObj r k,Q,U=>∃o,U.has r o/\Obj.isCells o=false/\o.isChan=false/\Qr P (k o) Q U
 |.setObj r o k,Q,U=>∃o0 M',J4 r o o0 U.M M'/\Obj.isCells o0=false/\Obj.isCells o=false/\o.isChan=false/\Qr P k Q { U with M:=M' }
 |.choose q k,Q,U=>if q.forced then Qr P (k 0) Q U else ∀t,Qr P (k (q.cut t)) Q U
 |.sys _ _,_,_=>False
 |.program k,Q,U=>Qr P (k P) Q U
 |.mark m k,Q,U=>Mark.still m=true/\Qr P k Q U
 |.halt _,_,_=>False
def Qa.sees_cell{U:Qa T}{w:World}(h:U.ok w){a:Addr}{v:Value}(hs:U.sees a v):w.cell? a=some v/\U.canR (.cell a):=by
 obtain⟨hsp,⟨c,t,fr,hb,hc⟩|⟨t,n,hm⟩⟩:=hs
 .have hlt:a.off<c.size:=(Array.getElem?_eq_some_iff.1 hc).1;rcases hb with hb|hb
  .exact⟨by simp[World.cell?,h.imm _ _ hb,hsp,hc],.inr ⟨c,t,fr,hb,hlt⟩⟩
  .have:=h.held _ hb;simp only[Qv.ok]at this;exact⟨by simp[World.cell?,this,hsp,hc],.inl (.inl ⟨c,t,fr,hb,hlt⟩)⟩
 .obtain⟨c,hb,_,hc⟩:=h.held _ hm;exact⟨by simp[World.cell?,hb,hsp,hc],.inl (.inr ⟨v,t,n,hm⟩)⟩
def Qa.has_heap{U:Qa T}{w:World}(h:U.ok w){b:Nat}{o:Obj}(hs:U.has b o):w.heap[b]?=some o:=by
 rcases hs with hs|hs
 .exact h.imm _ _ hs
 .exact h.held _ hs
def Q1k(w:World)(a:Addr)(v:Value)(c:Array Value)(t:TypeId)(fr:Nat×Nat)(hsp:a.spot=none)(h:w.heap[a.block]?=some (.cells c t fr)) :
  (w.setCell a v).heap[a.block]?=some (.cells (c.setIfInBounds a.off v) t fr):=by
 simp[World.setCell,Array.getElem?_modify,h,hsp]
def Wx(w:World)(a:Addr)(v:Value){b:Nat}(h:b≠a.block):(w.setCell a v).heap[b]?=w.heap[b]?:=by
 simp only[World.setCell,Array.getElem?_modify];rw[if_neg (λ e=>h e.symm)]
def Q1l(w:World)(a:Addr)(v:Value):(w.setCell a v).heap.size=w.heap.size:=by simp[World.setCell]
inductive Qjy(a:Addr)(v:Value):Qv->Qv->Prop
 |obj {b c t}:b=a.block->a.spot=none->a.off<c.size->Qjy a v (.obj b (.cells c t (0,0))) (.obj b (.cells (c.setIfInBounds a.off v) t (0,0)))
 |cell {b i u t n}:b=a.block->i=a.off->a.spot=none->Qjy a v (.cell b i u t n) (.cell b i v t n)
def Upd.split{a:Addr}{v:Value}{M M':List Qv}(h:Upd a v M M'):∃M₁ r r' M₂,M=M₁++r::M₂/\M'=M₁++r'::M₂/\Qjy a v r r':=by
 induction h with
 |obj hsp hlt=>exact⟨[],_,_,_,rfl,rfl,.obj rfl hsp hlt⟩
 |cell hsp=>exact⟨[],_,_,_,rfl,rfl,.cell rfl rfl hsp⟩
 |there _ ih=>obtain⟨M₁,r,r',M₂,rfl,rfl,hl⟩:=ih;exact⟨_::M₁,r,r',M₂,rfl,rfl,hl⟩
def J4.split{b:Nat}{o' o:Obj}{M M':List Qv}(h:J4 b o' o M M'):∃M₁ M₂,M=M₁++.obj b o::M₂/\M'=M₁++.obj b o'::M₂:=by
 induction h with
 |here=>exact⟨[],_,rfl,rfl⟩
 |there _ ih=>obtain⟨M₁,M₂,rfl,rfl⟩:=ih;exact⟨_::M₁,M₂,rfl,rfl⟩
def Qjy.blk{a:Addr}{v:Value}{r s:Qv}(h:Qjy a v r s):s.blk=r.blk:=by cases h <;> rfl
def Qjy.blk'{a:Addr}{v:Value}{r s:Qv}(h:Qjy a v r s):r.blk=a.block:=by cases h <;> simp_all[Qv.blk]
def Qjy.apart{a:Addr}{v:Value}{r s:Qv}(h:Qjy a v r s)(x:Qv):s.apart x↔r.apart x:=by
 cases h <;> cases x <;> simp[Qv.apart,Qv.blk]
def Qv.apart_symm{r s:Qv}(h:r.apart s):s.apart r:=by
 cases r <;> cases s <;> simp_all[Qv.apart,Qv.blk,eq_comm]
def Qjy.apart'{a:Addr}{v:Value}{r s:Qv}(h:Qjy a v r s)(x:Qv):x.apart s↔x.apart r:=
 ⟨λ k=>Qv.apart_symm ((h.apart x).1 (Qv.apart_symm k)),λ k=>Qv.apart_symm ((h.apart x).2 (Qv.apart_symm k))⟩
def Qv.lets:Qv->Loc->Prop
 |.obj b (.cells c _ _),.cell a=>a.block=b/\a.off<c.size
 |.cell b i _ _ _,.cell a=>a.block=b/\a.off=i
 |.obj b _,.obj b'=>b'=b
 |_,_=>False
def Q6{U:Qa T}{l:Loc}:U.canW l↔∃r∈U.M,r.lets l:=by
 cases l with
 |cell a=>
  simp only[Qa.canW];constructor
  .rintro(⟨c,t,fr,hm,hlt⟩|⟨v,t,n,hm⟩)
   .exact⟨_,hm,rfl,hlt⟩
   .exact⟨_,hm,rfl,rfl⟩
  .rintro⟨r,hr,hl⟩;cases r with
   |obj b o=>
    cases o <;> simp only[Qv.lets]at hl;obtain⟨rfl,hlt⟩:=hl;exact .inl ⟨_,_,_,hr,hlt⟩
   |cell b i v t n=>
    simp only[Qv.lets]at hl;obtain⟨rfl,rfl⟩:=hl;exact .inr ⟨_,_,_,hr⟩
 |obj b=>
  simp only[Qa.canW];constructor
  .rintro⟨o,h⟩;exact⟨_,h,by cases o <;> rfl⟩
  .rintro⟨r,hr,hl⟩;cases r with
   |obj b' o=>refine⟨o,?_⟩;cases o <;> (simp only[Qv.lets]at hl;exact hl▸hr)
   |cell b' i v t n=>exact hl.elim
 |output=>simp[Qa.canW];intro r _ h;cases r with|obj b o=>cases o <;> exact h|cell=>exact h
 |goroutines=>simp[Qa.canW];intro r _ h;cases r with|obj b o=>cases o <;> exact h|cell=>exact h
 |mark _=>simp[Qa.canW];intro r _ h;cases r with|obj b o=>cases o <;> exact h|cell=>exact h
def Qjy.lets{a:Addr}{v:Value}{r s:Qv}(h:Qjy a v r s)(l:Loc):s.lets l↔r.lets l:=by
 cases h <;> cases l <;> simp[Qv.lets]
def Qjy.canAt{a:Addr}{v:Value}{r s:Qv}(h:Qjy a v r s):r.lets (.cell a):=by
 cases h <;> simp_all[Qv.lets]
def Qy{U:Qa T}{l:Loc}:U.canR l↔(∃r∈U.M,r.lets l)\/(match l with|.cell a=>∃c t fr,U.I a.block=some (.cells c t fr)/\a.off<c.size|.obj b=>∃o,U.I b=some o|_=>False):=by
 have:=Q6 (U:=U) (l:=l);cases l <;> simp only[Qa.canR,<- this] <;> simp[Qa.canW]
def Zd6{U:Qa T}{w:World}(h:U.ok w){a:Addr}{v:Value}{M':List Qv}(hu:Upd a v U.M M') :
  (∃u,w.cell? a=some u)/\w.frozen? a=false/\U.canW (.cell a)/\Qa.ok { U with M:=M' } (w.setCell a v)/\Qfb U w (w.setCell a v) { U with M:=M' }:=by
 obtain⟨M₁,r,r',M₂,hM,rfl,hl⟩:=hu.split;have hr:r∈U.M:=by rw[hM];simp
 have hcw:U.canW (.cell a):=Q6.2 ⟨r,hr,hl.canAt⟩;have hok:=h.held r hr;have hsp:a.spot=none:=by cases hl <;> assumption
 obtain⟨c,t,hb,hlt⟩:∃c t,w.heap[a.block]?=some (.cells c t (0,0))/\a.off<c.size:=by
  cases hl with
  |obj e _ hlt=>subst e;exact⟨_,_,hok,hlt⟩
  |cell e e' _=>subst e;subst e';obtain⟨c,hb,_,hc⟩:=hok;exact⟨c,_,hb,(Array.getElem?_eq_some_iff.1 hc).1⟩
 have hset:=Q1k w a v c t (0,0) hsp hb
 have hlets:∀l,(∃s∈M₁++r'::M₂,s.lets l)↔∃s∈U.M,s.lets l:=by
  intro l;rw[hM];simp only[mem_append,mem_cons];constructor
  .rintro⟨s,hs|rfl|hs,hl'⟩
   .exact⟨s,.inl hs,hl'⟩
   .exact⟨r,.inr (.inl rfl),(hl.lets l).1 hl'⟩
   .exact⟨s,.inr (.inr hs),hl'⟩
  .rintro⟨s,hs|rfl|hs,hl'⟩
   .exact⟨s,.inl hs,hl'⟩
   .exact⟨r',.inr (.inl rfl),(hl.lets l).2 hl'⟩
   .exact⟨s,.inr (.inr hs),hl'⟩
 have hap:=h.apart;rw[hM]at hap;refine⟨⟨c[a.off],by simp[World.cell?,hb,hsp,hlt]⟩,by simp[World.frozen?,hb],hcw,⟨?_,?_,?_,?_⟩,?_⟩
 .intro b o hI
  have hne:b≠a.block:=by
   intro e;have:=h.sep r hr;rw[hl.blk',<- e,hI]at this;cases this
  rw[Wx _ _ _ hne];exact h.imm b o hI
 .intro s hs;simp only[mem_append,mem_cons]at hs
  have other:∀s,s∈U.M->r.apart s->s.ok (w.setCell a v):=by
   intro s hs hap;have hso:=h.held s hs;cases s with
   |obj b o=>
    have hne:b≠a.block:=by
     cases hl <;> simp_all[Qv.apart,Qv.blk] <;> exact λ e=>hap e.symm
    simp only[Qv.ok]at hso ⊢;rw[Wx _ _ _ hne];exact hso
   |cell b i u t' n=>
    obtain⟨c',hb',hn,hc'⟩:=hso;by_cases hne:b=a.block
    .subst hne;cases hl with
     |obj e _ _=>exact absurd e.symm (by simpa[Qv.apart,Qv.blk]using λ e=>hap e.symm)
     |cell e e' _=>
      have hi:i≠a.off:=by
       simp[Qv.apart]at hap;rcases hap with hap|hap
       .exact absurd e hap
       .exact λ x=>hap (e'.trans x.symm)
      rw[hb]at hb';cases hb';refine⟨c.setIfInBounds a.off v,hset,by simpa using hn,?_⟩;rw[Array.getElem?_setIfInBounds_ne (λ x=>hi x.symm)];exact hc'
    .exact⟨c',by rw[Wx _ _ _ hne];exact hb',hn,hc'⟩
  rw[pairwise_append,pairwise_cons]at hap;rcases hs with hs|rfl|hs
  .exact other s (by rw[hM];simp[hs]) (Qv.apart_symm (hap.2.2 s hs r (by simp)))
  .cases hl with
   |obj e _ _=>subst e;simp only[Qv.ok]at hok ⊢;rw[hok]at hb;cases hb;exact hset
   |cell e e' _=>
    subst e;subst e';obtain⟨c',hb',hn,hc'⟩:=hok;rw[hb]at hb';cases hb';exact⟨_,hset,by simpa using hn,by rw[Array.getElem?_setIfInBounds_self_of_lt hlt]⟩
  .exact other s (by rw[hM];simp[hs]) (hap.2.1.1 s hs)
 .show Pairwise Qv.apart (M₁++r'::M₂);rw[pairwise_append,pairwise_cons]at hap ⊢;refine⟨hap.1,⟨λ s hs=>(hl.apart s).2 (hap.2.1.1 s hs),hap.2.1.2⟩,λ s hs x hx=>?_⟩;rcases mem_cons.1 hx with rfl|hx
  .exact(hl.apart' s).2 (hap.2.2 s hs r (by simp))
  .exact hap.2.2 s hs x (by simp[hx])
 .intro s hs;show U.I s.blk=none;simp only[mem_append,mem_cons]at hs;rcases hs with hs|rfl|hs
  .exact h.sep s (by rw[hM];simp[hs])
  .rw[hl.blk];exact h.sep r hr
  .exact h.sep s (by rw[hM];simp[hs])
 .refine⟨.refl _,rfl,rfl,by rw[Q1l];exact Nat.le_refl _,?_,?_,?_,?_⟩
  .intro b c' t' fr hb';by_cases hne:b=a.block
   .subst hne;rw[hb]at hb';cases hb';refine⟨_,_,hset,by simp,λ i hi=>?_,.inl rfl⟩;rw[Array.getElem?_setIfInBounds_ne];rintro rfl;refine hi (Q6.2 ⟨r,hr,?_⟩);have:=hl.canAt;cases hl <;> simp_all[Qv.lets]
   .exact⟨c',fr,by rw[Wx _ _ _ hne];exact hb',rfl,λ _ _=>rfl,.inl rfl⟩
  .intro b o ho hne _;by_cases e:b=a.block
   .subst e;rw[hb]at ho;cases ho;exact absurd rfl (hne _ _ _)
   .rw[Wx _ _ _ e];exact ho
  .intro l hl';rw[Q6]at hl' ⊢;exact .inl ((hlets l).1 hl')
  .intro l hl';rw[Qy]at hl' ⊢;exact .inl (hl'.imp (hlets l).1 id)
def World.plus(w:World)(o:Obj):World:={ w with heap:=w.heap.push o }
def Zsg{U:Qa T}{w:World}(h:U.ok w)(o:Obj) :
  U.free w.heap.size/\Qa.ok (U.put w.heap.size o) (World.plus w o)/\Qfb U w (World.plus w o) (U.put w.heap.size o):=by
 have hold:∀b,b<w.heap.size->(World.plus w o).heap[b]?=w.heap[b]?:=λ b hb=>by
  simp only[World.plus,Array.getElem?_push];rw[if_neg (by omega)]
 have hlt:∀r∈U.M,r.blk<w.heap.size:=by
  intro r hr;have:=h.held r hr;cases r with
  |obj b o=>exact(Array.getElem?_eq_some_iff.1 this).1
  |cell b i v t n=>obtain⟨c,hb,_⟩:=this;exact(Array.getElem?_eq_some_iff.1 hb).1
 have hfree:U.free w.heap.size:=by
  refine⟨?_,λ r hr e=>by have:=hlt r hr;omega⟩;cases e:U.I w.heap.size with
  |none=>rfl
  |some x=>have:=(Array.getElem?_eq_some_iff.1 (h.imm _ _ e)).1;omega
 have hne:∀b o',U.I b=some o'->b<w.heap.size:=λ b o' e=>(Array.getElem?_eq_some_iff.1 (h.imm _ _ e)).1;refine⟨hfree,⟨λ b o' e=>by rw[hold _ (hne b o' e)];exact h.imm b o' e,?_,?_,?_⟩,?_⟩
 .intro r hr;rcases mem_cons.1 hr with rfl|hr
  .simp[Qv.ok,World.plus]
  .have:=h.held r hr;cases r with
   |obj b o'=>exact(hold b (hlt _ hr)).trans this
   |cell b i v t n=>obtain⟨c,hb,x⟩:=this;exact⟨c,(hold b (hlt _ hr)).trans hb,x⟩
 .refine pairwise_cons.2 ⟨λ r hr=>?_,h.apart⟩;have:=hlt r hr;cases r <;> simp_all[Qv.apart,Qv.blk] <;> omega
 .intro r hr;rcases mem_cons.1 hr with rfl|hr
  .exact hfree.1
  .exact h.sep r hr
 .refine⟨.refl _,rfl,rfl,by simp[World.plus],?_,?_,?_,?_⟩
  .intro b c t fr hb;exact⟨c,fr,by rw[hold _ (Array.getElem?_eq_some_iff.1 hb).1];exact hb,rfl,λ _ _=>rfl,.inl rfl⟩
  .intro b o' hb _ _;rw[hold _ (Array.getElem?_eq_some_iff.1 hb).1];exact hb
  .intro l hl;rw[Q6]at hl ⊢;obtain⟨r,hr,hl⟩:=hl;rcases mem_cons.1 hr with rfl|hr
   .refine .inr ?_;cases l <;> cases o <;> simp_all[Qv.lets,Loc.new]
   .exact .inl ⟨r,hr,hl⟩
  .intro l hl;rw[Qy]at hl ⊢;rcases hl with⟨r,hr,hl⟩|hl
   .rcases mem_cons.1 hr with rfl|hr
    .refine .inr ?_;cases l <;> cases o <;> simp_all[Qv.lets,Loc.new]
    .exact .inl (.inl ⟨r,hr,hl⟩)
   .exact .inl (.inr hl)
def Zje{U:Qa T}{w:World}(h:U.ok w){b:Nat}{o' o:Obj}{M':List Qv}(hu:J4 b o' o U.M M')(h1:Obj.isCells o=false)(h2:Obj.isCells o'=false) :
  w.heap[b]?=some o/\U.canW (.obj b)/\Qa.ok { U with M:=M' } { w with heap:=w.heap.setIfInBounds b o' }/\Qfb U w { w with heap:=w.heap.setIfInBounds b o' } { U with M:=M' }:=by
 obtain⟨M₁,M₂,hM,rfl⟩:=hu.split;have hr:Qv.obj b o∈U.M:=by rw[hM];simp
 have hb:w.heap[b]?=some o:=h.held _ hr;have hlt:=(Array.getElem?_eq_some_iff.1 hb).1;have hcw:U.canW (.obj b):=⟨o,hr⟩;have hap:=h.apart;rw[hM]at hap
 have hold:∀x,x≠b->(w.heap.setIfInBounds b o')[x]?=w.heap[x]?:=λ x hx=>by
  rw[Array.getElem?_setIfInBounds_ne (λ e=>hx e.symm)]
 have hlets:∀l,(Qv.obj b o').lets l↔(Qv.obj b o).lets l:=by
  intro l;cases o <;> cases o' <;> simp_all[Obj.isCells] <;> cases l <;> simp[Qv.lets]
 have hall:∀l,(∃s∈M₁++Qv.obj b o'::M₂,s.lets l)↔∃s∈U.M,s.lets l:=by
  intro l;rw[hM];simp only[mem_append,mem_cons];constructor
  .rintro⟨s,hs|rfl|hs,hl'⟩
   .exact⟨s,.inl hs,hl'⟩
   .exact⟨_,.inr (.inl rfl),(hlets l).1 hl'⟩
   .exact⟨s,.inr (.inr hs),hl'⟩
  .rintro⟨s,hs|rfl|hs,hl'⟩
   .exact⟨s,.inl hs,hl'⟩
   .exact⟨_,.inr (.inl rfl),(hlets l).2 hl'⟩
   .exact⟨s,.inr (.inr hs),hl'⟩
 have ap1:∀x,(Qv.obj b o').apart x↔(Qv.obj b o).apart x:=λ x=>by cases x <;> simp[Qv.apart,Qv.blk]
 refine⟨hb,hcw,⟨?_,?_,?_,?_⟩,?_⟩
 .intro x ox hI;have hne:x≠b:=by rintro rfl;have:=h.sep _ hr;simp only[Qv.blk]at this;rw[hI]at this;cases this
  show(w.heap.setIfInBounds b o')[x]?=_;rw[hold x hne];exact h.imm x ox hI
 .intro s hs
  have other:∀s,s∈U.M->(Qv.obj b o).apart s->s.ok { w with heap:=w.heap.setIfInBounds b o' }:=by
   intro s hs hap;have hso:=h.held s hs;cases s with
   |obj x ox=>
    have hne:x≠b:=by simp[Qv.apart,Qv.blk]at hap;exact λ e=>hap e.symm
    show(w.heap.setIfInBounds b o')[x]?=_;rw[hold x hne];exact hso
   |cell x i u t n=>
    have hne:x≠b:=by simp[Qv.apart,Qv.blk]at hap;exact λ e=>hap e.symm
    obtain⟨c',hb',hn,hc'⟩:=hso;exact⟨c',(hold x hne).trans hb',hn,hc'⟩
  simp only[mem_append,mem_cons]at hs;rw[pairwise_append,pairwise_cons]at hap;rcases hs with hs|rfl|hs
  .exact other s (by rw[hM];simp[hs]) (Qv.apart_symm (hap.2.2 s hs _ (by simp)))
  .show(w.heap.setIfInBounds b o')[b]?=_;rw[Array.getElem?_setIfInBounds_self_of_lt hlt]
  .exact other s (by rw[hM];simp[hs]) (hap.2.1.1 s hs)
 .show Pairwise Qv.apart (M₁++Qv.obj b o'::M₂);rw[pairwise_append,pairwise_cons]at hap ⊢;refine⟨hap.1,⟨λ s hs=>(ap1 s).2 (hap.2.1.1 s hs),hap.2.1.2⟩,λ s hs x hx=>?_⟩;rcases mem_cons.1 hx with rfl|hx
  .exact Qv.apart_symm ((ap1 s).2 (Qv.apart_symm (hap.2.2 s hs _ (by simp))))
  .exact hap.2.2 s hs x (by simp[hx])
 .intro s hs;show U.I s.blk=none;simp only[mem_append,mem_cons]at hs;rcases hs with hs|rfl|hs
  .exact h.sep s (by rw[hM];simp[hs])
  .exact(h.sep _ hr:U.I b=none)
  .exact h.sep s (by rw[hM];simp[hs])
 .refine⟨.refl _,rfl,rfl,by simp,?_,?_,?_,?_⟩
  .intro x c' t' fr hb';by_cases e:x=b
   .subst e;rw[hb]at hb';cases hb';simp[Obj.isCells]at h1
   .exact⟨c',fr,(hold x e).trans hb',rfl,λ _ _=>rfl,.inl rfl⟩
  .intro x ox ho hne hw;by_cases e:x=b
   .subst e;exact absurd hcw hw
   .exact(hold x e).trans ho
  .intro l hl';rw[Q6]at hl' ⊢;exact .inl ((hall l).1 hl')
  .intro l hl';rw[Qy]at hl' ⊢;exact .inl (hl'.imp (hall l).1 id)
def Qqd(w:World)(a:Addr)(n:Nat)(hn:n≠0)(c:Array Value)(t:TypeId)(h:w.heap[a.block]?=some (.cells c t (0,0))):(w.freeze a n).heap[a.block]?=some (.cells c t (a.off,a.off+n)):=by
 simp[World.freeze,hn,Array.getElem?_modify,h]
def W7(w:World)(a:Addr)(n:Nat){b:Nat}(h:b≠a.block):(w.freeze a n).heap[b]?=w.heap[b]?:=by
 unfold World.freeze;split
 .rfl
 .simp only[Array.getElem?_modify];rw[if_neg (λ e=>h e.symm)]
def Q5x(w:World)(a:Addr)(n:Nat):(w.freeze a n).heap.size=w.heap.size:=by unfold World.freeze;split <;> simp
def Qop(w:World)(a:Addr)(n:Nat):(w.freeze a n).os=w.os/\(w.freeze a n).tape=w.tape/\(w.freeze a n).output=w.output:=by unfold World.freeze;split <;> exact⟨rfl,rfl,rfl⟩
def Zjd{U:Qa T}{w:World}(h:U.ok w){a:Addr}{n:Nat}(hn:n≠0){c:Array Value}{t:TypeId}{M':List Qv}(hM:U.M=.obj a.block (.cells c t (0,0))::M') :
  Qa.ok { U with M:=.obj a.block (.cells c t (a.off,a.off+n))::M' } (w.freeze a n)/\Qfb U w (w.freeze a n) { U with M:=.obj a.block (.cells c t (a.off,a.off+n))::M' }:=by
 have hr:Qv.obj a.block (.cells c t (0,0))∈U.M:=by rw[hM];simp
 have hb:w.heap[a.block]?=some (.cells c t (0,0)):=h.held _ hr;have hap:=h.apart;rw[hM,pairwise_cons]at hap;have hlets:∀l,(Qv.obj a.block (.cells c t (a.off,a.off+n))).lets l↔(Qv.obj a.block (.cells c t (0,0))).lets l:=λ l=>by cases l <;> rfl
 have hall:∀l,(∃s∈Qv.obj a.block (.cells c t (a.off,a.off+n))::M',s.lets l)↔∃s∈U.M,s.lets l:=by
  intro l;rw[hM];constructor
  .rintro⟨s,hs,hl⟩;rcases mem_cons.1 hs with rfl|hs
   .exact⟨_,mem_cons_self ..,(hlets l).1 hl⟩
   .exact⟨s,mem_cons_of_mem _ hs,hl⟩
  .rintro⟨s,hs,hl⟩;rcases mem_cons.1 hs with rfl|hs
   .exact⟨_,mem_cons_self ..,(hlets l).2 hl⟩
   .exact⟨s,mem_cons_of_mem _ hs,hl⟩
 have ne:∀r∈M',r.blk≠a.block:=λ r hr' e=>by
  have:=hap.1 r hr';cases r <;> simp_all[Qv.apart,Qv.blk]
 refine⟨⟨λ b o hI=>?_,λ s hs=>?_,?_,λ s hs=>?_⟩,?_⟩
 .have:b≠a.block:=by rintro rfl;have:=h.sep _ hr;simp only[Qv.blk]at this;rw[hI]at this;cases this
  rw[W7 _ _ _ this];exact h.imm b o hI
 .rcases mem_cons.1 hs with rfl|hs
  .exact Qqd w a n hn c t hb
  .have hne:=ne s hs;have hso:=h.held s (by rw[hM];simp[hs]);cases s with
   |obj b o=>exact(W7 w a n hne).trans hso
   |cell b i v t n'=>obtain⟨c',h1,h2⟩:=hso;exact⟨c',(W7 w a n hne).trans h1,h2⟩
 .show Pairwise Qv.apart (_::M');rw[pairwise_cons];refine⟨λ r hr'=>?_,hap.2⟩;have:=ne r hr';cases r <;> simp_all[Qv.apart,Qv.blk] <;> exact λ e=>this e.symm
 .rcases mem_cons.1 hs with rfl|hs
  .exact(h.sep _ hr:U.I a.block=none)
  .exact h.sep s (by rw[hM];simp[hs])
 .refine⟨by rw[(Qop w a n).1];exact .refl _,(Qop w a n).2.1,(Qop w a n).2.2,by rw[Q5x];exact Nat.le_refl _,?_,?_,?_,?_⟩
  .intro b c' t' fr hb';by_cases e:b=a.block
   .subst e;rw[hb]at hb';cases hb';exact⟨c,_,Qqd w a n hn c t hb,rfl,λ _ _=>rfl,.inr ⟨Q6.2 ⟨_,hr,rfl⟩,λ i hi=>Q6.2 ⟨_,hr,rfl,hi⟩⟩⟩
   .exact⟨c',fr,by rw[W7 _ _ _ e];exact hb',rfl,λ _ _=>rfl,.inl rfl⟩
  .intro b o ho hne _;by_cases e:b=a.block
   .subst e;rw[hb]at ho;cases ho;exact absurd rfl (hne _ _ _)
   .rw[W7 _ _ _ e];exact ho
  .intro l hl;rw[Q6]at hl ⊢;exact .inl ((hall l).1 hl)
  .intro l hl;rw[Qy]at hl ⊢;exact .inl (hl.imp (hall l).1 id)
def Q6d{U:Qa T}{w:World}(h:U.ok w)(d:Nat):U.ok { w with drawn:=d }:=⟨h.imm,h.held,h.apart,h.sep⟩
def Qkc(U:Qa T)(w:World)(d:Nat):Qfb U w { w with drawn:=d } U:=
 ⟨.refl _,rfl,rfl,Nat.le_refl _,λ _ c _ fr h=>⟨c,fr,h,rfl,λ _ _=>rfl,.inl rfl⟩,λ _ _ h _ _=>h,λ _ h=>.inl h,λ _ h=>.inl h⟩
def Qz0(w:World)(e:Event):Prop:=
 match e.loc with
 |.cell a=>a.block<w.heap.size
 |.obj b=>b<w.heap.size
 |_=>True
def Qz0.mono{w w':World}{e:Event}(h:Qz0 w e)(hs:w.heap.size<=w'.heap.size):Qz0 w' e:=by
 obtain⟨loc,wr,sy⟩:=e;cases loc <;> simp only[Qz0]at h ⊢ <;> omega
def Ze0{w:World}{a:Addr}{v:Value}(h:w.cell? a=some v):a.block<w.heap.size:=by
 apply Classical.byContradiction;intro hn;have:w.heap[a.block]?=none:=Array.getElem?_eq_none (Nat.le_of_not_lt hn);simp[World.cell?,this]at h
def Qr.sound{P:Program}{α:Type}(s:Sem α):∀{Q:α->Qa T->Prop}{U:Qa T}{w:World}{es₀:Array Event},Qr P s Q U->U.ok w ->
  ∃a w' es U',s.runT P w es₀=(.ok a w',es₀++es)/\(∀e∈es,Qjb U w e/\Qz0 w' e)/\Qfb U w w' U'/\U'.ok w'/\Q a U'/\U'.tok=U.tok:=by
 induction s with
 |pure a=>exact λ{Q U w es₀}h ok=>⟨a,w,#[],U,by simp[Sem.runT],by simp,.refl _ _,ok,h,rfl⟩
 |load m a k ih=>
  intro Q U w es₀ h ok;obtain⟨rfl,v,hs,h⟩:=h;obtain⟨hc,hr⟩:=Qa.sees_cell ok hs;obtain⟨x,w',es,U',hrun,hev,hg,hok,hq⟩:=ih v (es₀:=es₀.push ⟨.cell a,false,false⟩) h ok;refine⟨x,w',#[⟨.cell a,false,false⟩]++es,U',?_,?_,hg,hok,hq⟩
  .simp only[Sem.runT,hc];rw[show(Mode.plain==Mode.atomic)=false from rfl,hrun];simp
  .intro e he;rcases Array.mem_append.1 he with he|he
   .simp at he;subst he;exact⟨⟨rfl,.inl hr⟩,Nat.lt_of_lt_of_le (Ze0 hc) hg.size⟩
   .exact hev e he
 |store m a v k ih=>
  intro Q U w es₀ h ok;obtain⟨rfl,hv,M',hu,h⟩:=h;obtain⟨⟨u,hc⟩,hf,hcw,hok1,hg1⟩:=Zd6 ok hu;obtain⟨x,w',es,U',hrun,hev,hg,hok,hq⟩:=ih (es₀:=es₀.push ⟨.cell a,true,false⟩) h hok1;refine⟨x,w',#[⟨.cell a,true,false⟩]++es,U',?_,?_,hg1.trans hg,hok,hq⟩
  .have:Sem.runT P (.store .plain a v k) w es₀=k.runT P (w.setCell a v) (es₀.push ⟨.cell a,true,false⟩):=by
    cases v <;> first|(simp[Value.single]at hv;done)|(simp only[Sem.runT,hc,hf];rfl)
   rw[this,hrun];simp
  .intro e he;rcases Array.mem_append.1 he with he|he
   .simp at he;subst he;exact⟨⟨rfl,.inl hcw⟩,Nat.lt_of_lt_of_le (Ze0 hc) (hg1.trans hg).size⟩
   .exact⟨Qjb.of hg1 (hev e he).1,(hev e he).2⟩
 |new o k ih=>
  intro Q U w es₀ h ok;obtain⟨hf,hok1,hg1⟩:=Zsg ok o;obtain⟨x,w',es,U',hrun,hev,hg,hok,hq⟩:=ih w.heap.size (es₀:=es₀) (h _ hf) hok1;exact⟨x,w',es,U',hrun,λ e he=>⟨Qjb.of hg1 (hev e he).1,(hev e he).2⟩,hg1.trans hg,hok,hq⟩
 |shape r k ih=>
  intro Q U w es₀ h ok;obtain⟨o,ho,h⟩:=h;have hb:=Qa.has_heap ok ho
  have hsh:w.shape? r=Obj.shapeOf o:=by
   simp only[World.shape?,hb];cases o <;> rfl
  obtain⟨x,w',es,U',hrun,hev,hg,hok,hq⟩:=ih _ (es₀:=es₀) h ok;exact⟨x,w',es,U',by simp only[Sem.runT];rw[hsh];exact hrun,hev,hg,hok,hq⟩
 |freeze a n k ih=>
  intro Q U w es₀ h ok;obtain⟨hn,c,t,M',hM,h⟩:=h;obtain⟨hok1,hg1⟩:=Zjd ok hn hM;obtain⟨x,w',es,U',hrun,hev,hg,hok,hq⟩:=ih (es₀:=es₀) h hok1;exact⟨x,w',es,U',by simpa only[Sem.runT]using hrun,λ e he=>⟨Qjb.of hg1 (hev e he).1,(hev e he).2⟩,hg1.trans hg,hok,hq⟩
 |frozen a k ih=>
  intro Q U w es₀ h ok;obtain⟨c,t,hb,h⟩:=h;have hb:=Qa.has_heap ok hb;obtain⟨x,w',es,U',hrun,hev,hg,hok,hq⟩:=ih false (es₀:=es₀) h ok;have hfr:w.frozen? a=false:=by simp[World.frozen?,hb]
  exact⟨x,w',es,U',by simp only[Sem.runT,hfr];exact hrun,hev,hg,hok,hq⟩
 |getObj r k ih=>
  intro Q U w es₀ h ok;obtain⟨o,ho,hc,hch,h⟩:=h;have hb:=Qa.has_heap ok ho;obtain⟨x,w',es,U',hrun,hev,hg,hok,hq⟩:=ih o (es₀:=es₀.push ⟨.obj r,false,false⟩) h ok;refine⟨x,w',#[⟨.obj r,false,false⟩]++es,U',?_,?_,hg,hok,hq⟩
  .have:Sem.runT P (.getObj r k) w es₀=(k o).runT P w (es₀.push ⟨.obj r,false,o.isChan⟩):=by
    simp only[Sem.runT,hb];cases o <;> simp_all[Obj.isCells]
   rw[this,hch,hrun];simp
  .intro e he;rcases Array.mem_append.1 he with he|he
   .simp at he;subst he;refine⟨⟨rfl,.inl ?_⟩,Nat.lt_of_lt_of_le (Array.getElem?_eq_some_iff.1 hb).1 hg.size⟩;rcases ho with ho|ho
    .exact .inr ⟨o,ho⟩
    .exact .inl ⟨o,ho⟩
   .exact hev e he
 |setObj r o k ih=>
  intro Q U w es₀ h ok;obtain⟨o0,M',hu,h1,h2,hch,h⟩:=h;obtain⟨hb,hcw,hok1,hg1⟩:=Zje ok hu h1 h2;obtain⟨x,w',es,U',hrun,hev,hg,hok,hq⟩:=ih (es₀:=es₀.push ⟨.obj r,true,false⟩) h hok1;refine⟨x,w',#[⟨.obj r,true,false⟩]++es,U',?_,?_,hg1.trans hg,hok,hq⟩
  .have:Sem.runT P (.setObj r o k) w es₀=k.runT P { w with heap:=w.heap.setIfInBounds r o } (es₀.push ⟨.obj r,true,o.isChan⟩):=by
    simp only[Sem.runT,hb];cases o0 <;> simp_all[Obj.isCells]
   rw[this,hch,hrun];simp
  .intro e he;rcases Array.mem_append.1 he with he|he
   .simp at he;subst he;exact⟨⟨rfl,.inl hcw⟩,Nat.lt_of_lt_of_le (Array.getElem?_eq_some_iff.1 hb).1 (hg1.trans hg).size⟩
   .exact⟨Qjb.of hg1 (hev e he).1,(hev e he).2⟩
 |choose q k ih=>
  intro Q U w es₀ h ok;simp only[Qr]at h;by_cases hq:q.forced=true
  .rw[if_pos hq]at h;obtain⟨x,w',es,U',hrun,hev,hg,hok,hq'⟩:=ih 0 (es₀:=es₀) h ok;exact⟨x,w',es,U',by simp only[Sem.runT,hq,if_true];exact hrun,hev,hg,hok,hq'⟩
  .rw[if_neg hq]at h;obtain⟨x,w',es,U',hrun,hev,hg,hok,hq'⟩:=ih _ (es₀:=es₀) (h (w.tape w.drawn q)) (Q6d ok (w.drawn+1));exact⟨x,w',es,U',by simp only[Sem.runT,hq];exact hrun,λ e he=>⟨Qjb.of (Qkc U w _) (hev e he).1,(hev e he).2⟩,(Qkc U w _).trans hg,hok,hq'⟩
 |sys c k ih=>exact λ{Q U w es₀}h ok=>h.elim
 |program k ih=>
  intro Q U w es₀ h ok;obtain⟨x,w',es,U',hrun,hev,hg,hok,hq⟩:=ih P (es₀:=es₀) h ok;exact⟨x,w',es,U',by simpa only[Sem.runT]using hrun,hev,hg,hok,hq⟩
 |mark m k ih=>
  intro Q U w es₀ h ok;obtain⟨hm,h⟩:=h;obtain⟨x,w',es,U',hrun,hev,hg,hok,hq⟩:=ih (es₀:=es₀.push ⟨.mark m,false,true⟩) h ok;refine⟨x,w',#[⟨.mark m,false,true⟩]++es,U',?_,?_,hg,hok,hq⟩
  .simp only[Sem.runT];rw[hrun];simp
  .intro e he;rcases Array.mem_append.1 he with he|he
   .simp at he;subst he;exact⟨hm,trivial⟩
   .exact hev e he
 |halt h=>exact λ{Q U w es₀}h ok=>h.elim
def Qr.mono{P:Program}{α:Type}(s:Sem α):∀{Q Q':α->Qa T->Prop}{U:Qa T},Qr P s Q U->(∀a U,Q a U->Q' a U)->Qr P s Q' U:=by
 induction s with
 |pure a=>exact λ h q=>q _ _ h
 |load m a k ih=>exact λ⟨e,v,hs,h⟩q=>⟨e,v,hs,ih v h q⟩
 |store m a v k ih=>exact λ⟨e,e',M',hu,h⟩q=>⟨e,e',M',hu,ih h q⟩
 |new o k ih=>exact λ h q b hb=>ih b (h b hb) q
 |shape r k ih=>exact λ⟨o,ho,h⟩q=>⟨o,ho,ih _ h q⟩
 |freeze a n k ih=>exact λ⟨x,c,t,M',hM,h⟩q=>⟨x,c,t,M',hM,ih h q⟩
 |frozen a k ih=>exact λ⟨c,t,hb,h⟩q=>⟨c,t,hb,ih _ h q⟩
 |getObj r k ih=>exact λ⟨o,a,b,c,h⟩q=>⟨o,a,b,c,ih _ h q⟩
 |setObj r o k ih=>exact λ⟨o0,M',a,b,c,d,h⟩q=>⟨o0,M',a,b,c,d,ih h q⟩
 |choose q k ih=>
  intro Q Q' U h hq;simp only[Qr]at h ⊢;split <;> rename_i hf <;> simp only[hf,if_true,if_false,Bool.false_eq_true]at h
  .exact ih 0 h hq
  .exact λ t=>ih _ (h t) hq
 |sys c k ih=>exact λ h _=>h
 |program k ih=>exact λ h q=>ih _ h q
 |mark m k ih=>exact λ⟨a,h⟩q=>⟨a,ih h q⟩
 |halt h=>exact λ h _=>h
def Qmw{P:Program}{α β:Type}(s:Sem α)(f:α->Sem β):∀{Q:β->Qa T->Prop}{U:Qa T},Qr P (s.bind f) Q U↔Qr P s (λ a U=>Qr P (f a) Q U) U:=by
 induction s with
 |pure a=>exact λ{_ _}=>Iff.rfl
 |load m a k ih=>intro Q U;simp only[Sem.bind,Qr,ih]
 |store m a v k ih=>intro Q U;simp only[Sem.bind,Qr,ih]
 |new o k ih=>intro Q U;simp only[Sem.bind,Qr,ih]
 |shape r k ih=>intro Q U;simp only[Sem.bind,Qr,ih]
 |freeze a n k ih=>intro Q U;simp only[Sem.bind,Qr,ih]
 |frozen a k ih=>intro Q U;simp only[Sem.bind,Qr,ih]
 |getObj r k ih=>intro Q U;simp only[Sem.bind,Qr,ih]
 |setObj r o k ih=>intro Q U;simp only[Sem.bind,Qr,ih]
 |choose q k ih=>intro Q U;simp only[Sem.bind,Qr,ih]
 |sys c k ih=>intro Q U;simp only[Sem.bind,Qr]
 |program k ih=>intro Q U;simp only[Sem.bind,Qr,ih]
 |mark m k ih=>intro Q U;simp only[Sem.bind,Qr,ih]
 |halt h=>intro Q U;simp only[Sem.bind,Qr]
end Go.TM
namespace Go.TM
variable{T:Type}{P:Program}
structure Sys(P:Program)(T:Type) where
 syn:(Bool->Goroutine->Qa T->Prop)->Bool->Goroutine->Qa T->Prop
 mono:∀{X Y:Bool->Goroutine->Qa T->Prop},(∀m g U,X m g U->Y m g U)->∀m g U,syn X m g U->syn Y m g U
def Qw(U U':Qa T):Prop:=U'.tok=U.tok/\∀w,U.ok w->U'.ok w/\(∀l,U'.canW l->U.canW l)/\(∀l,U'.canR l->U.canR l)
def Qw.refl(U:Qa T):Qw U U:=⟨rfl,λ _ h=>⟨h,λ _ h=>h,λ _ h=>h⟩⟩
def Qw.trans{U U1 U2:Qa T}(h:Qw U U1)(k:Qw U1 U2):Qw U U2:=
 ⟨k.1.trans h.1,λ w ok=>let ⟨a,b,c⟩:=h.2 w ok;let ⟨a',b',c'⟩:=k.2 w a;⟨a',λ l x=>b l (b' l x),λ l x=>c l (c' l x)⟩⟩
abbrev Stp(T:Type):=Bool->Goroutine->Qa T->Prop
def Zf7(P:Program)(X:Stp T)(m:Bool)(g:Goroutine)(U:Qa T):Prop:=
 g.status=.running/\∀w,U.ok w->∃g' w' es U',stepG P m g w=.go g' w' es/\(∀e∈es,Qjb U w e/\Qz0 w' e)/\Qfb U w w' U'/\U'.ok w'/\U'.tok=U.tok/\X m g' U'
def FJ(S:Sys P T)(Stop:Stp T)(X:Stp T)(m:Bool)(g:Goroutine)(U:Qa T):Prop:=
 ∃U1,Qw U U1/\(Stop m g U1\/Zf7 P X m g U1\/S.syn X m g U1)
def J(S:Sys P T)(Stop:Stp T)(m:Bool)(g:Goroutine)(U:Qa T):Prop:=
 ∀X:Stp T,(∀m g U,FJ S Stop X m g U->X m g U)->X m g U
def Zf7.mono{X Y:Stp T}(h:∀m g U,X m g U->Y m g U){m:Bool}{g:Goroutine}{U:Qa T}(k:Zf7 P X m g U):Zf7 P Y m g U:=
 ⟨k.1,λ w ok=>let ⟨g',w',es,U',a,b,c,d,e,f⟩:=k.2 w ok;⟨g',w',es,U',a,b,c,d,e,h _ _ _ f⟩⟩
def FJ.mono{S:Sys P T}{Stop X Y:Stp T}(h:∀m g U,X m g U->Y m g U){m:Bool}{g:Goroutine}{U:Qa T}(k:FJ S Stop X m g U):FJ S Stop Y m g U:=by
 obtain⟨U1,hs,k|k|k⟩:=k
 .exact⟨U1,hs,.inl k⟩
 .exact⟨U1,hs,.inr (.inl (k.mono h))⟩
 .exact⟨U1,hs,.inr (.inr (S.mono h _ _ _ k))⟩
variable{S:Sys P T}{Stop:Stp T}{m:Bool}
def J.fold{g:Goroutine}{U:Qa T}(h:FJ S Stop (J S Stop) m g U):J S Stop m g U:=
 λ X hX=>hX _ _ _ (h.mono λ _ _ _ k=>k X hX)
def J.ind{X:Stp T}(hX:∀m g U,FJ S Stop (λ m g U=>X m g U/\J S Stop m g U) m g U->X m g U){g:Goroutine}{U:Qa T}(h:J S Stop m g U):X m g U:=
 (h (λ m g U=>X m g U/\J S Stop m g U) λ m g U k=>⟨hX m g U k,J.fold (k.mono λ _ _ _ x=>x.2)⟩).1
def J.unfold{g:Goroutine}{U:Qa T}(h:J S Stop m g U):FJ S Stop (J S Stop) m g U:=
 J.ind (X:=FJ S Stop (J S Stop)) (λ _ _ _ k=>k.mono λ _ _ _ x=>x.2) h
def J.stop{g:Goroutine}{U:Qa T}(h:Stop m g U):J S Stop m g U:=.fold ⟨U,.refl _,.inl h⟩
def J.priv{g:Goroutine}{U:Qa T}(h:Zf7 P (J S Stop) m g U):J S Stop m g U:=.fold ⟨U,.refl _,.inr (.inl h)⟩
def J.syn{g:Goroutine}{U:Qa T}(h:S.syn (J S Stop) m g U):J S Stop m g U:=.fold ⟨U,.refl _,.inr (.inr h)⟩
def J.still{g g':Goroutine}{U:Qa T}(hs:g.status=.running)(h:∀w,stepG P m g w=.go g' w)(k:J S Stop m g' U):J S Stop m g U:=
 .priv ⟨hs,λ w ok=>⟨g',w,#[],U,h w,by simp,.refl _ _,ok,rfl,k⟩⟩
def Jp(P:Program)(fn:FuncId)(es:Array Event):∀e∈seen P fn es,e∈es:=by
 dsimp only[seen]
 rw[<- Array.foldl_toList]
 have key:∀(l:List Event)(x:Bool×Array Event),(∀e∈x.2,e∈es)->(∀e∈l,e∈es) ->
   ∀e∈(l.foldl (λ(x:Bool×Array Event)e=>match e.loc with|.mark (.extern f)=>((P.funcs[f]?).any (·.norace),x.2)|_=>(x.1,if x.1&&!e.sync then x.2 else x.2.push e)) x).2,e∈es:=by
  intro l
  induction l with
  |nil=>exact λ x hx _=>hx
  |cons a l ih=>
   intro x hx hl;simp only[foldl_cons];refine ih _ ?_ λ e he=>hl e (mem_cons_of_mem _ he);split
   .exact hx
   .dsimp only
    split
    .exact hx
    .intro e he;rcases Array.mem_push.1 he with he|rfl
     .exact hx e he
     .exact hl _ (mem_cons_self ..)
 exact key es.toList _ (by simp) (by simp)
def J.sem{α:Type}{g:Goroutine}{U:Qa T}(s:Sem α){Q:α->Qa T->Prop}(hs:g.status=.running)(h:Qr P s Q U)
  (hstep:∀w x w' es,s.runT P w #[]=(.ok x w',es)->(∃U',Q x U')->∃g' es',stepG P m g w=.go g' w' es'/\(∀e∈es',e∈es)/\(∀U',Q x U'->J S Stop m g' U')):J S Stop m g U:=by
 refine .priv ⟨hs,λ w ok=>?_⟩;obtain⟨x,w',es,U',hr,hev,hg,hok,hq,ht⟩:=Qr.sound s (es₀:=#[]) h ok;obtain⟨g',es',hst,hsub,hk⟩:=hstep w x w' es (by simpa using hr) ⟨U',hq⟩;exact⟨g',w',es',U',hst,λ e he=>hev e (hsub e he),hg,hok,ht,hk U' hq⟩
def fr(b:Frame)(a:Act)(todo:List Item):Frame:={ b with tmps:=a.tmps,todo:=todo,defers:=a.defers,mode:=.run }
def R(b:Frame)(a:Act)(todo:List Item)(cs:List Frame):Goroutine:={ frame:=fr b a todo,callers:=cs,status:=.running,dying:=none }
def Rf(f:Frame)(cs:List Frame):Goroutine:={ frame:=f,callers:=cs,status:=.running,dying:=none }
def Qrd(b:Frame)(a:Act)(todo:List Item):(fr b a todo).eval=a.eval:=by funext x;cases x <;> rfl
section moves
variable{b:Frame}{a:Act}{k:List Item}{cs:List Frame}{w:World}
def Zq3:stepG P m (R b a (.code .skip::k) cs) w=.go (R b a k cs) w:=by simp[R,stepG,stepG.exec,fr]
def Zoj{l:Nat}:stepG P m (R b a (.code (.label l)::k) cs) w=.go (R b a k cs) w:=by simp[R,stepG,stepG.exec,fr]
def Zeh{id:Nat}:stepG P m (R b a (.inBlock id::k) cs) w=.go (R b a k cs) w:=by simp[R,stepG,stepG.exec,fr]
def Zei{c:Code}:stepG P m (R b a (.inScope c::k) cs) w=.go (R b a k cs) w:=by simp[R,stepG,stepG.exec,fr]
def Zsp{x y:Code}:stepG P m (R b a (.code (.seq x y)::k) cs) w=.go (R b a (.code x::.code y::k) cs) w:=by simp[R,stepG,stepG.exec,fr]
def Zqy{c:Operand}{x y:Code}{t:Bool}(h:a.eval c=.bool t) :
  stepG P m (R b a (.code (.cond c x y)::k) cs) w=.go (R b a (.code (if t then x else y)::k) cs) w:=by
 have h':(fr b a (.code (.cond c x y)::k)).eval c=.bool t:=by rw[Qrd];exact h
 simp only[fr]at h';simp[R,stepG,stepG.exec,fr,h']
def Zoi{id:Nat}{c:Code}:stepG P m (R b a (.code (.block id c)::k) cs) w=.go (R b a (.code c::.inBlock id::k) cs) w:=by simp[R,stepG,stepG.exec,fr]
def Zq1{c:Code}:stepG P m (R b a (.code (.loop c)::k) cs) w=.go (R b a (.code c::.inLoop c::k) cs) w:=by simp[R,stepG,stepG.exec,fr]
def Zjm{c:Code}:stepG P m (R b a (.inLoop c::k) cs) w=.go (R b a (.code c::.inLoop c::k) cs) w:=by simp[R,stepG,stepG.exec,fr]
def Zok{c:Code}:stepG P m (R b a (.code (.scope c)::k) cs) w=.go (R b a (.code c::.inScope c::k) cs) w:=by simp[R,stepG,stepG.exec,fr]
def Zq0{id:Nat}{k':List Item}(h:exitTo id k=some k'):stepG P m (R b a (.code (.exit id)::k) cs) w=.go (R b a k' cs) w:=by simp[R,stepG,stepG.exec,fr,h]
def Zjn{id:Nat}{ops:Array Oper}:stepG P m (R b a (.code (.region id ops false)::k) cs) w=.go (R b a (.inRegion ops (range ops.size)::k) cs) w:=by simp[R,stepG,stepG.exec,fr]
def Qxf{ops:Array Oper}:stepG P m (R b a (.inRegion ops []::k) cs) w=.go (R b a k cs) w:=by simp[R,stepG,stepG.exec,fr]
def Q6o{ops:Array Oper}{i:Nat}{rest:List Nat}{o:Oper}(ho:ops[i]?=some o)(hw:Region.wanted o (yielded ops a.tmps)=false) :
  stepG P m (R b a (.inRegion ops (i::rest)::k) cs) w=.go (R b (a.put o.dst undef) (.inRegion ops rest::k) cs) w:=by
 cases hd:o.dst <;> simp[R,stepG,stepG.exec,fr,ho,hw,Frame.finish,Act.put,hd]
def Zq2{ops:Array Oper}{i:Nat}{rest:List Nat}{o:Oper}(ho:ops[i]?=some o)(hw:Region.wanted o (yielded ops a.tmps)=true)
  (hr:b.roundOf=none\/∀c,o.op≠.defer c) :
  stepG P m (R b a (.inRegion ops (i::rest)::k) cs) w=stepG.apply P true (fr b a (.inRegion ops (i::rest)::k)) cs none (execOp a.eval o) w:=by
 have he:=Qrd b a (.inRegion ops (i::rest)::k);simp only[fr]at he;rcases hr with hr|hr
 .rw[hr]at he;simp[R,stepG,stepG.exec,stepG.oper,Frame.oper?,fr,ho,hw,hr];rw[he]
 .simp only[R,stepG,stepG.exec,stepG.oper,Frame.oper?,fr,ho,Option.map_some,hw,Option.getD_some,if_true,he];cases hro:b.roundOf with
  |none=>simp
  |some l=>cases hop:o.op <;> first|rfl|exact absurd hop (hr _)
def Qc5{ops:Array Oper}{i:Nat}{rest:List Nat}{o:Oper}(ho:ops[i]?=some o)(v:Value) :
  (fr b a (.inRegion ops (i::rest)::k)).finish v=fr b (a.put o.dst v) (.inRegion ops rest::k):=by
 cases h:o.dst <;> simp[Frame.finish,fr,Act.put,ho,h]
end moves
inductive Ex where
 |normal
 |exit (id:Nat)
 |ret
def Qe5(S:Sys P T)(Stop:Stp T)(m:Bool)(b:Frame)(cs:List Frame)(jump:Option Code)(a:Act)(U:Qa T):Prop:=
 match b.roundOf with
 |none=>(jump=none\/jump=some .ret)/\∀todo,J S Stop m (Rf { fr b a todo with mode:=.returning } cs) U
 |some l=>∃c rest,cs=c::rest/\Qr P (Instr.endRound l jump) (λ v U'=>J S Stop m (Rf (c.finish v) rest) U') U
def Qe4(S:Sys P T)(Stop:Stp T)(m:Bool)(b:Frame)(k:List Item)(cs:List Frame):Ex->Act->Qa T->Prop
 |.normal,a,U=>J S Stop m (R b a k cs) U
 |.exit id,a,U=>(∃k',exitTo id k=some k'/\J S Stop m (R b a k' cs) U)\/(exitTo id k=none/\Qe5 S Stop m b cs (some (.exit id)) a U)
 |.ret,a,U=>Qe5 S Stop m b cs (some .ret) a U
def Fr(fn:FuncId)(ro:Option Nat)(b:Frame):Prop:=b.fn=fn/\b.roundOf=ro/\b.kind≠.early/\(ro.isSome->b.kind=.normal)
def Zu(S:Sys P T)(fn:FuncId)(ro:Option Nat)(c:Code)(Q:Ex->Act->Qa T->Prop)(a:Act)(U:Qa T):Prop:=
 ∀(Stop:Stp T)(m:Bool)(b:Frame)(k:List Item)(cs:List Frame),Fr fn ro b->(∀e a' U',Q e a' U'->Qe4 S Stop m b k cs e a' U')->J S Stop m (R b a (.code c::k) cs) U
def Qbm(S:Sys P T)(fn:FuncId)(ro:Option Nat)(ops:Array Oper)(todo:List Nat)(Q:Ex->Act->Qa T->Prop)(a:Act)(U:Qa T):Prop:=
 ∀(Stop:Stp T)(m:Bool)(b:Frame)(k:List Item)(cs:List Frame),Fr fn ro b->(∀e a' U',Q e a' U'->Qe4 S Stop m b k cs e a' U')->J S Stop m (R b a (.inRegion ops todo::k) cs) U
def Qb(S:Sys P T)(f:FuncId)(args:Array Value)(Q:Value->Qa T->Prop)(U:Qa T):Prop:=
 ∀(Stop:Stp T)(m:Bool)(c:Frame)(cs:List Frame),(∀v U',Q v U'->J S Stop m (Rf (c.finish v) cs) U')->J S Stop m (Rf (Frame.enter P f args .normal) (c::cs)) U
def Qaw(S:Sys P T)(l:Nat)(f:FuncId)(tmps:Array Value)(assign body:Code)(Q:Value->Qa T->Prop)(U:Qa T):Prop:=
 ∀(Stop:Stp T)(m:Bool)(c:Frame)(cs:List Frame),(∀v U',Q v U'->J S Stop m (Rf (c.finish v) cs) U')->J S Stop m (Rf (Frame.round l f tmps assign body .normal) (c::cs)) U
def Qe4.push{b:Frame}{x:Item}{k:List Item}{cs:List Frame}{e:Ex}{a:Act}{U:Qa T}(hx:∀id k,exitTo id (x::k)=exitTo id k)(he:e≠.normal)
  (h:Qe4 S Stop m b k cs e a U):Qe4 S Stop m b (x::k) cs e a U:=by
 cases e with
 |normal=>exact absurd rfl he
 |exit id=>simpa only[Qe4,hx]using h
 |ret=>exact h
section rules
variable{fn:FuncId}{ro:Option Nat}{Q:Ex->Act->Qa T->Prop}{a:Act}{U:Qa T}
def Zu.mono{c:Code}{Q':Ex->Act->Qa T->Prop}(h:Zu S fn ro c Q a U)(hq:∀e a U,Q e a U->Q' e a U):Zu S fn ro c Q' a U:=
 λ Stop m b k cs hb hc=>h Stop m b k cs hb λ e a' U' q=>hc e a' U' (hq e a' U' q)
def Qb.mono{f:FuncId}{args:Array Value}{R R':Value->Qa T->Prop}(h:Qb S f args R U)(hr:∀v U,R v U->R' v U):Qb S f args R' U:=
 λ Stop m c cs k=>h Stop m c cs λ v U' r=>k v U' (hr v U' r)
def Qaw.mono{l:Nat}{f:FuncId}{tmps:Array Value}{as bd:Code}{R R':Value->Qa T->Prop}(h:Qaw S l f tmps as bd R U)(hr:∀v U,R v U->R' v U):Qaw S l f tmps as bd R' U:=
 λ Stop m c cs k=>h Stop m c cs λ v U' r=>k v U' (hr v U' r)
def J.shift{g:Goroutine}{U U':Qa T}(hs:Qw U U')(h:J S Stop m g U'):J S Stop m g U:=by
 obtain⟨U1,h1,h⟩:=h.unfold;exact .fold ⟨U1,hs.trans h1,h⟩
def Znk{c:Code}{U':Qa T}(hs:Qw U U')(h:Zu S fn ro c Q a U'):Zu S fn ro c Q a U:=λ Stop m b k cs hb hc=>.shift hs (h Stop m b k cs hb hc)
def Qf4{ops:Array Oper}{todo:List Nat}{U':Qa T}(hs:Qw U U')(h:Qbm S fn ro ops todo Q a U'):Qbm S fn ro ops todo Q a U:=λ Stop m b k cs hb hc=>.shift hs (h Stop m b k cs hb hc)
def Qb.shift{f:FuncId}{args:Array Value}{R:Value->Qa T->Prop}{U':Qa T}(hs:Qw U U')(h:Qb S f args R U'):Qb S f args R U:=λ Stop m c cs k=>.shift hs (h Stop m c cs k)
def Qaw.shift{l:Nat}{f:FuncId}{tmps:Array Value}{as bd:Code}{R:Value->Qa T->Prop}{U':Qa T}(hs:Qw U U')(h:Qaw S l f tmps as bd R U'):Qaw S l f tmps as bd R U:=λ Stop m c cs k=>.shift hs (h Stop m c cs k)
def Qb.post{f:FuncId}{args:Array Value}{R R':Value->Qa T->Prop}(h:Qb S f args R U)(hr:∀v U,R v U->∃U',Qw U U'/\R' v U'):Qb S f args R' U:=
 λ Stop m c cs k=>h Stop m c cs λ v U' r=>let ⟨_,hs,r'⟩:=hr v U' r;.shift hs (k v _ r')
def Zpz(h:Q .normal a U):Zu S fn ro .skip Q a U:=λ _ _ _ _ _ _ hc=>.still rfl (λ _=>Zq3) (hc _ _ _ h)
def Zng{l:Nat}(h:Q .normal a U):Zu S fn ro (.label l) Q a U:=λ _ _ _ _ _ _ hc=>.still rfl (λ _=>Zoj) (hc _ _ _ h)
def Zsb{x y:Code}(h:Zu S fn ro x (λ e a' U'=>match e with|.normal=>Zu S fn ro y Q a' U'|e=>Q e a' U') a U):Zu S fn ro (.seq x y) Q a U:=by
 intro Stop m b k cs hb hc;refine .still rfl (λ _=>Zsp) (h Stop m b (.code y::k) cs hb λ e a' U' q=>?_);cases e with
 |normal=>exact q Stop m b k cs hb hc
 |exit id=>exact(hc _ _ _ q).push (λ _ _=>rfl) (by simp)
 |ret=>exact(hc _ _ _ q).push (x:=.code y) (λ _ _=>rfl) (by simp)
def Zpy{c:Operand}{x y:Code}(t:Bool)(hc:a.eval c=.bool t)(h:Zu S fn ro (if t then x else y) Q a U):Zu S fn ro (.cond c x y) Q a U:=
 λ Stop m b k cs hb hq=>.still rfl (λ _=>Zqy hc) (h Stop m b k cs hb hq)
def Znf{id:Nat}{c:Code}(h:Zu S fn ro c (λ e a' U'=>match e with|.normal=>Q .normal a' U'|.exit id'=>if id'=id then Q .normal a' U' else Q (.exit id') a' U'|.ret=>Q .ret a' U') a U) :
  Zu S fn ro (.block id c) Q a U:=by
 intro Stop m b k cs hb hc;refine .still rfl (λ _=>Zoi) (h Stop m b (.inBlock id::k) cs hb λ e a' U' q=>?_);cases e with
 |normal=>exact .still rfl (λ _=>Zeh) (hc _ _ _ q)
 |exit id'=>
  by_cases hid:id'=id
  .simp only[hid,if_true]at q;exact .inl ⟨k,by simp[exitTo,hid],hc _ _ _ q⟩
  .simp only[hid,if_false]at q;have hne:(id==id')=false:=by simp;exact λ h=>hid h.symm
   simpa only[Qe4,exitTo,hne,Bool.false_eq_true,if_false]using hc _ _ _ q
 |ret=>exact hc _ _ _ q
def Znj{c:Code}(h:Zu S fn ro c Q a U):Zu S fn ro (.scope c) Q a U:=by
 intro Stop m b k cs hb hc;refine .still rfl (λ _=>Zok) (h Stop m b (.inScope c::k) cs hb λ e a' U' q=>?_);cases e with
 |normal=>exact .still rfl (λ _=>Zei) (hc _ _ _ q)
 |exit id=>exact(hc _ _ _ q).push (λ _ _=>rfl) (by simp)
 |ret=>exact(hc _ _ _ q).push (x:=.inScope c) (λ _ _=>rfl) (by simp)
def Ze4{id:Nat}(h:Q (.exit id) a U):Zu S fn ro (.exit id) Q a U:=by
 intro Stop m b k cs hb hc;rcases hc _ _ _ h with⟨k',hk,hj⟩|⟨hk,hl⟩
 .exact .still rfl (λ _=>Zq0 hk) hj
 .cases hro:b.roundOf with
  |none=>simp only[Qe5,hro]at hl;simp at hl
  |some l=>
   simp only[Qe5,hro]at hl;obtain⟨c,rest,rfl,hs⟩:=hl;have hkn:b.kind=.normal:=hb.2.2.2 (by rw[<- hb.2.1,hro];rfl);refine .sem _ rfl hs λ w x w' es hrun _=>⟨Rf (c.finish x) rest,seen P b.fn es,?_,Jp P _ es,λ _ h=>h⟩;obtain⟨hr,he⟩:Sem.run P (Instr.endRound l (some (.exit id))) w=.ok x w'/\Sem.events P (Instr.endRound l (some (.exit id))) w #[]=es:=by simpa using hrun
   simp[R,stepG,stepG.exec,fr,hro,hk,hr,he,doReturn,hkn,GStep.after,Rf]
def Zni(h:Q .ret a U):Zu S fn ro .ret Q a U:=by
 intro Stop m b k cs hb hc;have hl:=hc _ _ _ h;cases hro:b.roundOf with
 |none=>
  simp only[Qe4,Qe5,hro]at hl;refine .still rfl (λ w=>?_) (hl.2 (.code .ret::k));simp[R,Rf,stepG,stepG.exec,fr,hro]
 |some l=>
  simp only[Qe4,Qe5,hro]at hl;obtain⟨c,rest,rfl,hs⟩:=hl;have hkn:b.kind=.normal:=hb.2.2.2 (by rw[<- hb.2.1,hro];rfl);refine .sem _ rfl hs λ w x w' es hrun _=>⟨Rf (c.finish x) rest,seen P b.fn es,?_,Jp P _ es,λ _ h=>h⟩;obtain⟨hr,he⟩:Sem.run P (Instr.endRound l (some .ret)) w=.ok x w'/\Sem.events P (Instr.endRound l (some .ret)) w #[]=es:=by simpa using hrun
  simp[R,stepG,stepG.exec,fr,hro,hr,he,doReturn,hkn,GStep.after,Rf]
def Qy7{id:Nat}{ops:Array Oper}(h:Qbm S fn ro ops (range ops.size) Q a U):Zu S fn ro (.region id ops false) Q a U:=
 λ Stop m b k cs hb hc=>.still rfl (λ _=>Zjn) (h Stop m b k cs hb hc)
def Zoa{ops:Array Oper}(h:Q .normal a U):Qbm S fn ro ops [] Q a U:=λ _ _ _ _ _ _ hc=>.still rfl (λ _=>Qxf) (hc _ _ _ h)
def Zet(S:Sys P T)(ro:Option Nat)(o:Oper)(a:Act)(K:Act->Qa T->Prop):Next->Qa T->Prop
 |.value v,U=>K (a.put o.dst v) U
 |.skip,U=>K (a.put o.dst undef) U
 |.defer d,U=>ro=none/\K ({ a with defers:=d::a.defers }.put o.dst undef) U
 |.enter f args,U=>Qb S f args (λ v U'=>K (a.put o.dst v) U') U
 |.round l f tmps assign body,U=>Qaw S l f tmps assign body (λ v U'=>K (a.put o.dst v) U') U
 |_,_=>False
def OpV(S:Sys P T)(ro:Option Nat)(o:Oper)(a:Act)(K:Act->Qa T->Prop)(U:Qa T):Prop:=Qr P (execOp a.eval o) (Zet S ro o a K) U
def Qc1{ops:Array Oper}{i:Nat}{rest:List Nat}{o:Oper}(ho:ops[i]?=some o)(hw:Region.wanted o (yielded ops a.tmps)=true)(hd:ro=none\/∀c,o.op≠.defer c)
  (h:OpV S ro o a (Qbm S fn ro ops rest Q) U):Qbm S fn ro ops (i::rest) Q a U:=by
 intro Stop m b k cs hb hc;have hke:(b.kind==CallKind.early)=false:=by simpa using hb.2.2.1
 have hd':b.roundOf=none\/∀c,o.op≠.defer c:=by rw[hb.2.1];exact hd
 refine .sem _ rfl h λ w x w' es hrun hex=>?_;rw[Zq2 ho hw hd'];have hr:(execOp a.eval o).run P w=.ok x w':=by have:=Sem.runT_fst P (execOp a.eval o) w #[];rw[hrun]at this;exact this.symm
 cases x with
 |value v=>
  refine⟨R b (a.put o.dst v) (.inRegion ops rest::k) cs,seen P b.fn es,?_,Jp P _ es,λ U' q=>q Stop m b k cs hb hc⟩;have:=Qc5 (b:=b) (a:=a) (k:=k) (rest:=rest) ho v;simp only[stepG.apply,if_true,hrun];simp[fr,hke,GStep.after,R]at this ⊢;exact this
 |skip=>
  refine⟨R b (a.put o.dst undef) (.inRegion ops rest::k) cs,seen P b.fn es,?_,Jp P _ es,λ U' q=>q Stop m b k cs hb hc⟩;have:=Qc5 (b:=b) (a:=a) (k:=k) (rest:=rest) ho undef;simp only[stepG.apply,if_true,hrun];simp[fr,hke,GStep.after,R]at this ⊢;exact this
 |defer d=>
  refine⟨R b ({ a with defers:=d::a.defers }.put o.dst undef) (.inRegion ops rest::k) cs,seen P b.fn es,?_,Jp P _ es,λ U' q=>q.2 Stop m b k cs hb hc⟩;have:=Qc5 (b:=b) (a:={ a with defers:=d::a.defers }) (k:=k) (rest:=rest) ho undef;simp only[stepG.apply,if_true,hrun];simp[fr,hke,GStep.after,R]at this ⊢;exact this
 |enter f args=>
  refine⟨Rf (Frame.enter P f args .normal) (fr b a (.inRegion ops (i::rest)::k)::cs),seen P b.fn es,?_,Jp P _ es,λ U' q=>?_⟩
  .simp only[stepG.apply,if_true,hrun];simp[fr,hke,GStep.after,Rf]
  .refine q Stop m _ cs λ v U'' q'=>?_;have:=q' Stop m b k cs hb hc;rw[Qc5 ho];exact this
 |round l f tmps assign body=>
  refine⟨Rf (Frame.round l f tmps assign body .normal) (fr b a (.inRegion ops (i::rest)::k)::cs),seen P b.fn es,?_,Jp P _ es,λ U' q=>?_⟩
  .simp only[stepG.apply,if_true,hrun];simp[fr,hke,GStep.after,Rf]
  .refine q Stop m _ cs λ v U'' q'=>?_;have:=q' Stop m b k cs hb hc;rw[Qc5 ho];exact this
 |_=>obtain⟨_,hq⟩:=hex;exact hq.elim
def Qcj{ops:Array Oper}{i:Nat}{rest:List Nat}{o:Oper}(ho:ops[i]?=some o)(hw:Region.wanted o (yielded ops a.tmps)=false)
  (h:Qbm S fn ro ops rest Q (a.put o.dst undef) U):Qbm S fn ro ops (i::rest) Q a U:=
 λ Stop m b k cs hb hc=>.still rfl (λ _=>Q6o ho hw) (h Stop m b k cs hb hc)
def Qbm.mono{ops:Array Oper}{todo:List Nat}{Q':Ex->Act->Qa T->Prop}(h:Qbm S fn ro ops todo Q a U)(hq:∀e a U,Q e a U->Q' e a U):Qbm S fn ro ops todo Q' a U:=
 λ Stop m b k cs hb hc=>h Stop m b k cs hb λ e a' U' q=>hc e a' U' (hq e a' U' q)
end rules
def Qg0(I:Nat->Option Obj)(b:Nat)(o:Obj):Nat->Option Obj:=λ x=>if x=b then some o else I x
def Qi4{M M':List Qv}(h:∀r,r∈M'->r∈M){l:Loc}:(∃r∈M',r.lets l)->∃r∈M,r.lets l:=λ⟨r,hr,hl⟩=>⟨r,h r hr,hl⟩
def Qzm{U:Qa T}{M':List Qv}(h:∃M₀,Perm U.M (M'++M₀)):Qw U { U with M:=M' }:=by
 obtain⟨M₀,hp⟩:=h;have hmem:∀r,r∈M'->r∈U.M:=λ r hr=>hp.mem_iff.2 (mem_append_left _ hr);refine⟨rfl,λ w ok=>⟨⟨ok.imm,λ r hr=>ok.held r (hmem r hr),?_,λ r hr=>ok.sep r (hmem r hr)⟩,λ l hl=>?_,λ l hl=>?_⟩⟩
 .have:=(hp.pairwise_iff (λ{x y}h=>Qv.apart_symm h)).1 ok.apart;exact(pairwise_append.1 this).1
 .rw[Q6]at hl ⊢;exact Qi4 hmem hl
 .rw[Qy]at hl ⊢;exact hl.imp (Qi4 hmem) id
def Wf{U:Qa T}{b:Nat}{o:Obj}{M':List Qv}(h:Perm U.M (.obj b o::M')):Qw U { U with I:=Qg0 U.I b o,M:=M' }:=by
 have hmem:∀r,r∈M'->r∈U.M:=λ r hr=>h.mem_iff.2 (mem_cons_of_mem _ hr);have hb:Qv.obj b o∈U.M:=h.mem_iff.2 (mem_cons_self ..);refine⟨rfl,λ w ok=>?_⟩;have hap:=(h.pairwise_iff (λ{x y}h=>Qv.apart_symm h)).1 ok.apart;rw[pairwise_cons]at hap;refine⟨⟨?_,λ r hr=>ok.held r (hmem r hr),hap.2,?_⟩,λ l hl=>?_,λ l hl=>?_⟩
 .intro x ox hx;simp only[Qg0]at hx;split at hx
  .rename_i e;cases hx;subst e;exact ok.held _ hb
  .exact ok.imm x ox hx
 .intro r hr
  have hne:r.blk≠b:=by
   have:=hap.1 r hr;cases r <;> simp_all[Qv.apart,Qv.blk] <;> exact λ e=>this e.symm
  simp only[Qg0,if_neg hne];exact ok.sep r (hmem r hr)
 .rw[Q6]at hl ⊢;exact Qi4 hmem hl
 .rw[Qy]at hl ⊢;rcases hl with hl|hl
  .exact .inl (Qi4 hmem hl)
  .cases l with
   |cell a=>
    obtain⟨c,t,f,hc,hlt⟩:=hl;simp only[Qg0]at hc;split at hc
    .rename_i e;cases hc;exact .inl ⟨_,hb,e,hlt⟩
    .exact .inr ⟨c,t,f,hc,hlt⟩
   |obj x=>
    obtain⟨ox,hx⟩:=hl;simp only[Qg0]at hx;split at hx
    .rename_i e;cases hx;exact .inl ⟨_,hb,by cases o <;> simp[Qv.lets,e]⟩
    .exact .inr ⟨ox,hx⟩
   |output=>exact hl.elim
   |goroutines=>exact hl.elim
   |mark _=>exact hl.elim
end Go.TM
namespace Go.TM
variable{T:Type}{P:Program}{S:Sys P T}{fn:FuncId}{ro:Option Nat}
structure Qa.le(U U':Qa T):Prop where
 imm:∀b o,U.I b=some o->U'.I b=some o
 own:U'.M=U.M
 tok:U'.tok=U.tok
def Qa.le.refl(U:Qa T):U.le U:=⟨λ _ _ h=>h,rfl,rfl⟩
def Qa.le.trans{a b c:Qa T}(h:a.le b)(k:b.le c):a.le c:=⟨λ x o e=>k.imm x o (h.imm x o e),k.own.trans h.own,k.tok.trans h.tok⟩
def Zqz{m:Bool}{b:Frame}{a:Act}{k:List Item}{cs:List Frame}{w:World}{id:Nat}{ops:Array Oper} :
  stepG P m (R b a (.code (.region id ops true)::k) cs) w =
   .go (R b a (.inRegion ops (Region.schedule (P.follows .mixedOrders) ops (w.tape w.drawn (.order b.fn id)))::k) cs) { w with drawn:=w.drawn+1 }:=by
 simp[R,stepG,stepG.exec,fr,choose,Sem.run,Question.forced,Question.cut]
def Ze3{Q:Ex->Act->Qa T->Prop}{a:Act}{U:Qa T}{id:Nat}{ops:Array Oper}(h:∀t,Qbm S fn ro ops (Region.schedule (P.follows .mixedOrders) ops t) Q a U) :
  Zu S fn ro (.region id ops true) Q a U:=by
 intro Stop m b k cs hb hc;refine .priv ⟨rfl,λ w ok=>⟨_,_,#[],U,Zqz,by simp,Qkc U w _,Q6d ok _,rfl,h _ Stop m b k cs hb hc⟩⟩
def Qak(S:Sys P T)(K:Value->Qa T->Prop):Next->Qa T->Prop
 |.value v,U=>K v U
 |.skip,U=>K undef U
 |.enter f args,U=>Qb S f args K U
 |.round l f tmps assign body,U=>Qaw S l f tmps assign body K U
 |_,_=>False
def OpQ(S:Sys P T)(o:Oper)(a:Act)(K:Value->Qa T->Prop)(U:Qa T):Prop:=Qr P (execOp a.eval o) (Qak S K) U
def OpQ.mono{o:Oper}{a:Act}{K K':Value->Qa T->Prop}{U:Qa T}(h:OpQ S o a K U)(hk:∀v U,K v U->K' v U):OpQ S o a K' U:=
 Qr.mono _ h λ n U hn=>by
  cases n <;> first|exact hk _ _ hn|exact Qb.mono hn hk|exact Qaw.mono hn hk|exact hn
def OpQ.opV{o:Oper}{a:Act}{K:Act->Qa T->Prop}{U:Qa T}(h:OpQ S o a (λ v U=>K (a.put o.dst v) U) U):OpV S ro o a K U:=
 Qr.mono _ h λ n U hn=>by cases n <;> first|exact hn|exact hn.elim
def Qwd(F:Qa T->Prop):Prop:=∀U U',F U->U.le U'->F U'
inductive Qa2(S:Sys P T)(ops:Array Oper)(rl:List Nat)(B:Nat->Nat->Prop)(late:Nat->Bool)(G:Qa T->Prop)(U:Qa T)(Fin:Act->Qa T->Prop):List Nat->(Qa T->Prop)->Act->Prop
 |nil {C a}:(∀U',U.le U'->C U'->Fin a U')->Qa2 S ops rl B late G U Fin [] C a
 |un {i rest C a o}:i∉rl->ops[i]?=some o->Region.wanted o (yielded ops a.tmps)=false->Qa2 S ops rl B late G U Fin rest C (a.put o.dst undef)->Qa2 S ops rl B late G U Fin (i::rest) C a
 |det {i rest C a o} (v:Value):i∉rl->ops[i]?=some o->Region.wanted o (yielded ops a.tmps)=true ->
   (∀U',U.le U'->C U'->OpQ S o a (λ v' U2=>v'=v/\∃U1,Qw U2 U1/\U'.le U1) U') ->
   (late i=true->∀U',G U'->OpQ S o a (λ v' U2=>v'=v/\∃U1,Qw U2 U1/\U'.le U1) U') ->
   Qa2 S ops rl B late G U Fin rest C (a.put o.dst v)->Qa2 S ops rl B late G U Fin (i::rest) C a
 |rel {i rest C a o} (F:Value->Qa T->Prop):i∈rl->(∀v,Qwd (F v))->ops[i]?=some o->Region.wanted o (yielded ops a.tmps)=true ->
   (∀U',U.le U'->C U'->OpQ S o a (λ v' U2=>∃U1,Qw U2 U1/\F v' U1/\U'.le U1) U') ->
   (∀v,(∃U',U.le U'/\C U'/\F v U')->Qa2 S ops rl B late G U Fin rest (λ U'=>C U'/\F v U') (a.put o.dst v))->Qa2 S ops rl B late G U Fin (i::rest) C a
 |last {i C a o}:i∈rl->Qwd G->(∀j,late j=false->B j i)->ops[i]?=some o->Region.wanted o (yielded ops a.tmps)=true ->
   (∀U',U.le U'->C U'->OpQ S o a (λ v' U2=>v'=undef/\∃U1,Qw U2 U1/\G U1) U')->((∃U',U.le U'/\C U')->∀U',G U'->Fin (a.put o.dst undef) U')->Qa2 S ops rl B late G U Fin [i] C a
def Ww(ops:Array Oper)(i:Nat):List Nat:=((ops[i]?).map λ o=>(o.after.toList.filter (Region.binds .any)).map (·.on)).getD []
inductive Qbo(ops:Array Oper):Nat->Nat->Prop
 |edge {i j}:j∈Ww ops i->Qbo ops j i
 |trans {i j k}:Qbo ops k j->j∈Ww ops i->Qbo ops k i
def Qgx(ops:Array Oper):Nat->List Nat
 |0=>[]
 |n+1=>let acc:=Qgx ops n;acc++[(Ww ops n).foldl (λ s j=>s||| 2^j||| acc.getD j 0) 0]
def Qc0(ops:Array Oper):∀n,(Qgx ops n).length=n
 |0=>rfl
 |n+1=>by simp[Qgx,Qc0 ops n]
def Qvm(acc:List Nat)(j:Nat):∀(l:List Nat)(s:Nat),(l.foldl (λ s j=>s||| 2^j||| acc.getD j 0) s).testBit j=true->s.testBit j=true\/∃k∈l,k=j\/(acc.getD k 0).testBit j=true
 |[],s,h=>.inl h
 |k::l,s,h=>by
  simp only[foldl_cons]at h;rcases Qvm acc j l _ h with h|⟨x,hx,h⟩
  .simp only[Nat.testBit_or,Bool.or_eq_true]at h;rcases h with(h|h)|h
   .exact .inl h
   .refine .inr ⟨k,mem_cons_self ..,.inl ?_⟩;rw[Nat.testBit_two_pow]at h;exact of_decide_eq_true h
   .exact .inr ⟨k,mem_cons_self ..,.inr h⟩
  .exact .inr ⟨x,mem_cons_of_mem _ hx,h⟩
def Wr(ops:Array Oper):∀n i j,((Qgx ops n).getD i 0).testBit j=true->Qbo ops j i:=by
 intro n
 induction n with
 |zero=>intro i j h;simp[Qgx]at h
 |succ n ih=>
  intro i j h;simp only[Qgx]at h;by_cases hi:i<n
  .rw[getD_eq_getElem?_getD,getElem?_append_left (by rw[Qc0];exact hi),<- getD_eq_getElem?_getD]at h;exact ih i j h
  .rw[getD_eq_getElem?_getD,getElem?_append_right (by rw[Qc0];omega),Qc0,<- getD_eq_getElem?_getD]at h;by_cases e:i=n
   .subst e;simp only[Nat.sub_self,getD_cons_zero]at h;rcases Qvm _ j _ 0 h with h|⟨k,hk,rfl|h⟩
    .simp at h
    .exact .edge hk
    .exact .trans (ih k j h) hk
   .have:i-n=(i-n-1)+1:=by omega
    rw[this]at h;simp at h
def Qdh(ops:Array Oper)(i:Nat):Option Tmp:=(ops[i]?).bind (·.dst)
def looks(ops:Array Oper)(i:Nat):List Tmp:=((ops[i]?).map (Oper.looksAt ops)).getD []
def Qvh(ops:Array Oper)(rl qs ts:List Nat):Bool:=
 let n:=ops.size
 let ms:=Qgx ops n
 let bf (j i:Nat):Bool:=(ms.getD i 0).testBit j
 let all:=qs++ts
 (range n).all (λ i=>all.contains i)&&(decide all.Nodup&&all.all (λ i=>decide (i<n))) &&
 (ops.toList.all λ o=>!(o.op matches .select ..)) &&
 (range n).all (λ i=>(range n).all λ j=>i==j|| (match Qdh ops i with|some d=>Qdh ops j != some d|none=>true)) &&
 qs.all (λ i=>(range n).all λ j=>i==j|| (match Qdh ops j with|some d=>!(looks ops i).contains d|| bf j i|| bf i j|none=>true)) &&
 (range all.length).all (λ p=>(Ww ops (all.getD p 0)).all λ j=>(all.take p).contains j) &&
 (range qs.length).all (λ p=>!rl.contains (qs.getD p 0)|| ((all.drop (p+1)).all λ j=>bf (qs.getD p 0) j)) &&
 (range ts.length).all (λ p=>(qs++ts.take p).all λ j=>bf j (ts.getD p 0))
structure Jy(ops:Array Oper)(rl qs ts:List Nat):Prop where
 mem:∀i,i<ops.size↔i∈qs++ts
 nodup:(qs++ts).Nodup
 nosel:∀(i:Nat)o,ops[i]?=some o->∀cs b,o.op≠.select cs b
 once:∀i j d,Qdh ops i=some d->Qdh ops j=some d->i=j
 look:∀i,i∈qs->∀j d,i≠j->Qdh ops j=some d->d∈looks ops i->Qbo ops j i\/Qbo ops i j
 order:∀p i,(qs++ts)[p]?=some i->∀j∈Ww ops i,j∈(qs++ts).take p
 behind:∀p i,qs[p]?=some i->i∈rl->∀j∈(qs++ts).drop (p+1),Qbo ops i j
 tail:∀p i,ts[p]?=some i->∀j∈qs++ts.take p,Qbo ops j i
def Qvj{ops:Array Oper}{i:Nat}{d:Tmp}(h:Qdh ops i=some d):i<ops.size:=by
 simp only[Qdh]at h;cases hi:ops[i]? with
 |none=>simp[hi]at h
 |some o=>exact(Array.getElem?_eq_some_iff.1 hi).1
def Qvi{ops:Array Oper}{rl qs ts:List Nat}(h:Qvh ops rl qs ts=true):Jy ops rl qs ts:=by
 simp only[Qvh,Bool.and_eq_true]at h;obtain⟨⟨⟨⟨⟨⟨⟨h1,h2⟩,h3⟩,h4⟩,h5⟩,h6⟩,h7⟩,h8⟩:=h
 have hmem:∀i,i<ops.size->i∈qs++ts:=λ i hi=>by
  have:=all_eq_true.1 h1 i (mem_range.2 hi);simpa using this
 obtain⟨hnd,hlt⟩:(qs++ts).Nodup/\∀i∈qs++ts,i<ops.size:=by
  exact⟨of_decide_eq_true h2.1,λ i hi=>of_decide_eq_true (all_eq_true.1 h2.2 i hi)⟩
 refine⟨λ i=>⟨hmem i,hlt i⟩,hnd,?_,?_,?_,?_,?_,?_⟩
 .intro i o ho cs b e;have:=all_eq_true.1 h3 o (Array.mem_toList_iff.2 (Array.mem_of_getElem? ho));simp[e]at this
 .intro i j d hi hj;have:=all_eq_true.1 (all_eq_true.1 h4 i (mem_range.2 (Qvj hi))) j (mem_range.2 (Qvj hj));simp only[hi,hj,Bool.or_eq_true,beq_iff_eq]at this;rcases this with h|h
  .exact h
  .simp at h
 .intro i hi j d hne hj hd;have:=all_eq_true.1 (all_eq_true.1 h5 i hi) j (mem_range.2 (Qvj hj));simp only[hj,Bool.or_eq_true,beq_iff_eq]at this;rcases this with h|(h|h)|h
  .exact absurd h hne
  .simp[hd]at h
  .exact .inl (Wr _ _ _ _ h)
  .exact .inr (Wr _ _ _ _ h)
 .intro p i hp j hj;have hpl:=(List.getElem?_eq_some_iff.1 hp).1;have:=all_eq_true.1 h6 p (mem_range.2 hpl);rw[getD_eq_getElem?_getD,hp,Option.getD_some]at this;simpa using all_eq_true.1 this j hj
 .intro p i hp hr j hj;have hpl:=(List.getElem?_eq_some_iff.1 hp).1;have:=all_eq_true.1 h7 p (mem_range.2 hpl);rw[getD_eq_getElem?_getD,hp,Option.getD_some]at this;simp only[Bool.or_eq_true]at this;rcases this with h|h
  .simp[hr]at h
  .exact Wr _ _ _ _ (all_eq_true.1 h j hj)
 .intro p i hp j hj;have hpl:=(List.getElem?_eq_some_iff.1 hp).1;have:=all_eq_true.1 h8 p (mem_range.2 hpl);have e:ts.getD p 0=i:=by rw[getD_eq_getElem?_getD,hp];rfl
  rw[e]at this;exact Wr _ _ _ _ (all_eq_true.1 this j hj)
def J6{ops:Array Oper}{listed:Array Bool}{i:Nat}:i∈Region.ready .any ops listed↔i<ops.size/\listed.getD i true=false/\∀j∈Ww ops i,listed.getD j false=true:=by
 simp only[Region.ready,mem_filter,mem_range,Bool.and_eq_true,Bool.not_eq_true'];constructor
 .rintro⟨hi,h1,h2⟩;refine⟨hi,h1,λ j hj=>?_⟩;obtain⟨o,ho⟩:∃o,ops[i]?=some o:=⟨ops[i],by simp[hi]⟩;simp only[ho,Option.map_some,Option.getD_some]at h2;simp only[Ww,ho,Option.map_some,Option.getD_some,mem_map,mem_filter,Array.mem_toList_iff]at hj;obtain⟨e,⟨he,hb⟩,rfl⟩:=hj;have:=(Array.all_eq_true'.1 h2) e he;simpa[hb]using this
 .rintro⟨hi,h1,h2⟩;refine⟨hi,h1,?_⟩;obtain⟨o,ho⟩:∃o,ops[i]?=some o:=⟨ops[i],by simp[hi]⟩;simp only[ho,Option.map_some,Option.getD_some];rw[Array.all_eq_true'];intro e he;by_cases hb:Region.binds .any e=true
  .have:=h2 e.on (by simp only[Ww,ho,Option.map_some,Option.getD_some,mem_map,mem_filter,Array.mem_toList_iff];exact⟨e,⟨he,hb⟩,rfl⟩);rw[this];simp
  .simp[hb]
structure Jm(ops:Array Oper)(val:Nat->Value)(D:Nat->Prop)(a_0 a:Act):Prop where
 defers:a.defers=a_0.defers
 size:a.tmps.size=a_0.tmps.size
 wr:∀(s:Nat)(j:Nat),Qdh ops j=some s->D j->s<a_0.tmps.size->a.tmps[s]?=some (val j)
 not:∀s:Nat,(∀j,Qdh ops j=some s->¬D j)->a.tmps[s]?=a_0.tmps[s]?
def Jm.put{ops:Array Oper}{rl qs ts:List Nat}(hf:Jy ops rl qs ts){val:Nat->Value}{D:Nat->Prop}{a_0 a:Act}(h:Jm ops val D a_0 a){i:Nat}{o:Oper}(ho:ops[i]?=some o) :
  Jm ops val (λ j=>D j\/j=i) a_0 (a.put o.dst (val i)):=by
 have hd:Qdh ops i=o.dst:=by simp[Qdh,ho]
 cases hdst:o.dst with
 |none=>
  rw[hdst]at hd;refine⟨h.defers,h.size,λ s j hj hD hs=>?_,λ s hs=>h.not s λ j hj hD=>hs j hj (.inl hD)⟩;rcases hD with hD|rfl
  .exact h.wr s j hj hD hs
  .rw[hd]at hj;cases hj
 |some d=>
  rw[hdst]at hd;refine⟨h.defers,by simp[Act.put,h.size],λ s j hj hD hs=>?_,λ s hs=>?_⟩
  .by_cases e:d=s
   .subst e;obtain rfl:=hf.once _ _ _ hj hd;simp only[Act.put];rw[Array.getElem?_setIfInBounds_self_of_lt (by rw[h.size];exact hs)]
   .rcases hD with hD|rfl
    .simp only[Act.put];rw[Array.getElem?_setIfInBounds_ne e];exact h.wr s j hj hD hs
    .rw[hd]at hj;cases hj;exact absurd rfl e
  .have e:d≠s:=λ e=>hs i (e▸hd) (.inr rfl);simp only[Act.put];rw[Array.getElem?_setIfInBounds_ne e];exact h.not s λ j hj hD=>hs j hj (.inl hD)
def Jm.val{ops:Array Oper}{val val':Nat->Value}{D:Nat->Prop}{a_0 a:Act}(h:Jm ops val D a_0 a)(hv:∀j,D j->val' j=val j):Jm ops val' D a_0 a:=
 ⟨h.defers,h.size,λ s j hj hD hs=>by rw[hv j hD];exact h.wr s j hj hD hs,h.not⟩
def Jm.slot{ops:Array Oper}{val:Nat->Value}{D D':Nat->Prop}{a_0 a a':Act}(h:Jm ops val D a_0 a)(h':Jm ops val D' a_0 a'){s:Nat}(hs:∀j,Qdh ops j=some s->(D j↔D' j)):a.tmps[s]?=a'.tmps[s]?:=by
 by_cases hw:∃j,Qdh ops j=some s/\D j
 .obtain⟨j,hj,hD⟩:=hw;by_cases hlt:s<a_0.tmps.size
  .rw[h.wr s j hj hD hlt,h'.wr s j hj ((hs j hj).1 hD) hlt]
  .rw[Array.getElem?_eq_none (by rw[h.size];omega),Array.getElem?_eq_none (by rw[h'.size];omega)]
 .rw[h.not s λ j hj hD=>hw ⟨j,hj,hD⟩,h'.not s λ j hj hD=>hw ⟨j,hj,(hs j hj).2 hD⟩]
def Qmn{ops:Array Oper}{a a':Act}{i:Nat}{o:Oper}(ho:ops[i]?=some o)(hns:∀cs b,o.op≠.select cs b)(h:∀s∈looks ops i,a.tmps[s]?=a'.tmps[s]?) :
  execOp a.eval o=execOp a'.eval o/\Region.wanted o (yielded ops a.tmps)=Region.wanted o (yielded ops a'.tmps):=by
 have hl:looks ops i=Oper.looksAt ops o:=by simp[looks,ho]
 rw[hl]at h;constructor
 .refine execOp_congr o hns λ x hx=>?_;cases x with
  |tmp t=>
   have:=h t (by simp only[Oper.looksAt,mem_append,mem_filterMap,Array.mem_toList_iff];exact .inl ⟨.tmp t,hx,rfl⟩);simp only[Act.eval,Array.getD_eq_getD_getElem?,this]
  |_=>rfl
 .unfold Region.wanted;cases hg:o.guard with
  |none=>rfl
  |some p=>
   obtain⟨j,want⟩:=p;simp only[]
   have:yielded ops a.tmps j=yielded ops a'.tmps j:=by
    unfold yielded;cases hj:(ops[j]?).bind (·.dst)with
    |none=>rfl
    |some t=>
     have:=h t (by simp only[Oper.looksAt,hg,mem_append];exact .inr (by simp[hj]));simp only[Option.bind_some,this]
   rw[this]
section sound
variable{ops:Array Oper}{rl qs ts:List Nat}
def Li(listed:Array Bool)(i:Nat):Prop:=listed.getD i false=true
def Qzz{listed:Array Bool}{i j:Nat}(h:i<listed.size):Li (listed.setIfInBounds i true) j↔Li listed j\/j=i:=by
 simp only[Li,Array.getD_eq_getD_getElem?,Array.getElem?_setIfInBounds];by_cases e:i=j
 .subst e;simp[h]
 .have:¬j=i:=λ x=>e x.symm;simp[e,this]
def Qp7(hf:Jy ops rl qs ts){i j:Nat}(h:Qbo ops j i):∀p,(qs++ts)[p]?=some i->j∈(qs++ts).take p:=by
 induction h with
 |edge he=>exact λ p hp=>hf.order p _ hp _ he
 |trans _ he ih=>
  intro p hp;have:=hf.order p _ hp _ he;obtain⟨p',hp'⟩:=mem_iff_getElem?.1 this;rw[getElem?_take]at hp';split at hp'
  .have h2:=ih p' hp';have:(qs++ts).take p' ⊆ (qs++ts).take p:=take_subset_take_left _ (by omega);exact this h2
  .cases hp'
def Qjq{listed:Array Bool}(down:∀i,Li listed i->∀j∈Ww ops i,Li listed j){i j:Nat}(h:Qbo ops j i):Li listed i->Li listed j:=by
 induction h with
 |edge he=>exact λ hi=>down _ hi _ he
 |trans _ he ih=>exact λ hi=>ih (down _ hi _ he)
def Wd{listed:Array Bool}(down:∀i,Li listed i->∀j∈Ww ops i,Li listed j){i j:Nat}(h:Qbo ops j i)(hr:∀j∈Ww ops i,Li listed j):Li listed j:=by
 cases h with
 |edge he=>exact hr _ he
 |trans h he=>exact Qjq down h (hr _ he)
def Qds(hf:Jy ops rl qs ts){p p' i:Nat}(h:(qs++ts)[p]?=some i)(h':(qs++ts)[p']?=some i):p=p':=by
 have hp:=(List.getElem?_eq_some_iff.1 h).1;have hp':=(List.getElem?_eq_some_iff.1 h').1;exact(getElem?_inj hp hf.nodup).1 (h.trans h'.symm)
structure Inv(S:Sys P T)(ops:Array Oper)(rl qs:List Nat)(late:Nat->Bool)(G:Qa T->Prop)(U₀:Qa T)(a_0:Act)(Fin:Act->Qa T->Prop)(listed:Array Bool)(ac:Act)(U:Qa T)
  (pre L:List Nat) (C:Qa T->Prop) (av:Act) (val:Nat->Value):Prop where
 split:qs=pre++L
 der:Qa2 S ops rl (Qbo ops) late G U₀ Fin L C av
 mono:Qwd C
 base:U₀.le U
 c:C U
 av:Jm ops val (·∈pre) a_0 av
 ac:Jm ops val (Li listed) a_0 ac
 sub:∀i,Li listed i->i∈pre
 size:listed.size=ops.size
 down:∀i,Li listed i->∀j∈Ww ops i,Li listed j
 rels:∀i∈pre,i∈rl->Li listed i
 pend:∀i∈pre,¬Li listed i->∃o ai p,qs[p]?=some i/\ops[i]?=some o/\Jm ops val (·∈qs.take p) a_0 ai /\
  ((Region.wanted o (yielded ops ai.tmps)=false/\val i=undef) \/
   (Region.wanted o (yielded ops ai.tmps)=true/\(∀U',U.le U'->OpQ S o ai (λ v' U2=>v'=val i/\∃U1,Qw U2 U1/\U'.le U1) U')/\(late i=true->∀U',G U'->OpQ S o ai (λ v' U2=>v'=val i/\∃U1,Qw U2 U1/\U'.le U1) U')))
variable{late:Nat->Bool}{G:Qa T->Prop}{U₀:Qa T}{a_0:Act}{Fin:Act->Qa T->Prop}{listed:Array Bool}{ac av:Act}{U:Qa T}{pre L:List Nat}{C:Qa T->Prop}{val:Nat->Value}
def Qf6(val:Nat->Value)(i:Nat)(v:Value):Nat->Value:=λ j=>if j=i then v else val j
def Qe2{val:Nat->Value}{i j:Nat}{v:Value}(h:j≠i):Qf6 val i v j=val j:=by simp[Qf6,h]
def Qb2(val:Nat->Value)(i:Nat)(v:Value):Qf6 val i v i=v:=by simp[Qf6]
def Qmg(hf:Jy ops rl qs ts){x:Nat}{rest:List Nat}(h:qs=pre++x::rest):x∉pre:=by
 intro hx;have:=(nodup_append.1 hf.nodup).1;rw[h]at this;exact(nodup_append.1 this).2.2 x hx x (mem_cons_self ..) rfl
def Qac{x:Nat}{rest:List Nat}(h:qs=pre++x::rest):qs.take pre.length=pre/\qs[pre.length]?=some x:=by
 subst h;exact⟨by simp,by simp⟩
def Qaf{p i:Nat}(hp:qs[p]?=some i):(qs++ts)[p]?=some i:=by
 rw[getElem?_append_left (List.getElem?_eq_some_iff.1 hp).1];exact hp
def Inv.note(hf:Jy ops rl qs ts){x:Nat}{rest:List Nat}(h:Inv S ops rl qs late G U₀ a_0 Fin listed ac U pre (x::rest) C av val)(v:Value) :
  Jm ops (Qf6 val x v) (·∈pre) a_0 av/\Jm ops (Qf6 val x v) (Li listed) a_0 ac /\
  (∀i∈pre,¬Li listed i->∃o ai p,qs[p]?=some i/\ops[i]?=some o/\Jm ops (Qf6 val x v) (·∈qs.take p) a_0 ai /\
   ((Region.wanted o (yielded ops ai.tmps)=false/\Qf6 val x v i=undef) \/
    (Region.wanted o (yielded ops ai.tmps)=true/\(∀U',U.le U'->OpQ S o ai (λ v' U2=>v'=Qf6 val x v i/\∃U1,Qw U2 U1/\U'.le U1) U')/\(late i=true->∀U',G U'->OpQ S o ai (λ v' U2=>v'=Qf6 val x v i/\∃U1,Qw U2 U1/\U'.le U1) U')))):=by
 have hx:=Qmg hf h.split;refine⟨h.av.val λ j hj=>Qe2 (λ e=>hx (e▸hj)),h.ac.val λ j hj=>Qe2 (λ e=>hx (e▸h.sub j hj)),λ i hi hl=>?_⟩;obtain⟨o,ai,p,hp,ho,hag,hh⟩:=h.pend i hi hl;have hne:i≠x:=λ e=>hx (e▸hi);refine⟨o,ai,p,hp,ho,hag.val λ j hj=>Qe2 λ e=>?_,by rw[Qe2 hne];exact hh⟩;subst e;obtain⟨p',hp'⟩:=mem_iff_getElem?.1 hj;rw[getElem?_take]at hp';split at hp'
 .rename_i hlt;have e1:=Qds hf (Qaf (ts:=ts) hp') (Qaf (Qac h.split).2);obtain⟨pi,hpi⟩:=mem_iff_getElem?.1 hi;have hpl:pi<pre.length:=(List.getElem?_eq_some_iff.1 hpi).1;have e2:=Qds hf (Qaf (ts:=ts) hp) (Qaf (ts:=ts) (p:=pi) (i:=i) (by rw[h.split,getElem?_append_left hpl];exact hpi));omega
 .cases hp'
def Inv.adv(hf:Jy ops rl qs ts){x:Nat}{rest:List Nat}(h:Inv S ops rl qs late G U₀ a_0 Fin listed ac U pre (x::rest) C av val){v:Value}{o:Oper}(ho:ops[x]?=some o)(hrl:x∉rl)
  (hd:Qa2 S ops rl (Qbo ops) late G U₀ Fin rest C (av.put o.dst v))
  (hh:(Region.wanted o (yielded ops av.tmps)=false/\v=undef)\/(Region.wanted o (yielded ops av.tmps)=true/\(∀U',U₀.le U'->C U'->OpQ S o av (λ v' U2=>v'=v/\∃U1,Qw U2 U1/\U'.le U1) U')/\(late x=true->∀U',G U'->OpQ S o av (λ v' U2=>v'=v/\∃U1,Qw U2 U1/\U'.le U1) U'))) :
  Inv S ops rl qs late G U₀ a_0 Fin listed ac U (pre++[x]) rest C (av.put o.dst v) (Qf6 val x v):=by
 obtain⟨n1,n2,n3⟩:=h.note hf v;have hput:=Jm.put hf n1 ho;rw[Qb2]at hput;refine⟨by rw[h.split];simp,hd,h.mono,h.base,h.c,?_,n2,λ i hi=>mem_append_left _ (h.sub i hi),h.size,h.down,?_,?_⟩
 .have e:(λ j=>j∈pre\/j=x)=(·∈pre++[x]):=by funext j;simp
  rw[<- e];exact hput
 .intro i hi hr;rcases mem_append.1 hi with hi|hi
  .exact h.rels i hi hr
  .simp at hi;subst hi;exact absurd hr hrl
 .intro i hi hl;rcases mem_append.1 hi with hi|hi
  .exact n3 i hi hl
  .simp at hi;subst hi;refine⟨o,av,pre.length,(Qac h.split).2,ho,by rw[(Qac h.split).1];exact n1,?_⟩;rw[Qb2];rcases hh with hh|⟨hw,hh,hg⟩
   .exact .inl hh
   .exact .inr ⟨hw,λ U' hle=>hh U' (h.base.trans hle) (h.mono _ _ h.c hle),hg⟩
def Qci(hf:Jy ops rl qs ts)(down:∀i,Li listed i->∀j∈Ww ops i,Li listed j){p i:Nat}(hp:qs[p]?=some i)(hl:¬Li listed i)(hr:∀j∈Ww ops i,Li listed j)
  {s j:Nat} (hs:s∈looks ops i) (hj:Qdh ops j=some s):Li listed j↔j∈qs.take p:=by
 have hpa:=Qaf (ts:=ts) hp;have hpl:=(List.getElem?_eq_some_iff.1 hp).1;by_cases e:i=j
 .subst e;refine⟨λ h=>absurd h hl,λ h=>?_⟩;obtain⟨p',hp'⟩:=mem_iff_getElem?.1 h;rw[getElem?_take]at hp';split at hp'
  .have:=Qds hf (Qaf (ts:=ts) hp') hpa;omega
  .cases hp'
 .rcases hf.look i (mem_of_getElem? hp) j s e hj hs with hb|hb
  .have h1:=Wd down hb hr;have h2:=Qp7 hf hb p hpa;rw[take_append_of_le_length (by omega)]at h2;exact⟨λ _=>h2,λ _=>h1⟩
  .refine⟨λ h=>absurd (Qjq down hb h) hl,λ h=>?_⟩;obtain⟨p',hp'⟩:=mem_iff_getElem?.1 h;rw[getElem?_take]at hp';split at hp'
   .have h2:=Qp7 hf hb p' (Qaf (ts:=ts) hp');obtain⟨p2,hp2⟩:=mem_iff_getElem?.1 h2;rw[getElem?_take]at hp2;split at hp2
    .have:=Qds hf hp2 hpa;omega
    .cases hp2
   .cases hp'
def Inv.reach(hf:Jy ops rl qs ts){i:Nat}(hi:i∈qs)(hr:∀j∈Ww ops i,Li listed j) :
  ∀(L pre:List Nat)(C:Qa T->Prop)(av:Act)(val:Nat->Value),Inv S ops rl qs late G U₀ a_0 Fin listed ac U pre L C av val ->
   ∃pre' L' C' av' val',Inv S ops rl qs late G U₀ a_0 Fin listed ac U pre' L' C' av' val'/\(i∈pre'\/∃rest,L'=i::rest/\i∈rl):=by
 intro L
 induction L with
 |nil=>
  intro pre C av val h;exact⟨pre,[],C,av,val,h,.inl (by have:=h.split;simp at this;exact this▸hi)⟩
 |cons x rest ih=>
  intro pre C av val h;by_cases hx:x∈rl
  .by_cases e:x=i
   .subst e;exact⟨pre,_,C,av,val,h,.inr ⟨rest,rfl,hx⟩⟩
   .by_cases hpre:i∈pre
    .exact⟨pre,_,C,av,val,h,.inl hpre⟩
    .exfalso
     have hm:i∈rest:=by
      rw[h.split]at hi;simp at hi;rcases hi with hi|hi|hi
      .exact absurd hi hpre
      .exact absurd hi.symm e
      .exact hi
     have hb:Qbo ops x i:=by
      refine hf.behind pre.length x (Qac h.split).2 hx i ?_;rw[h.split];simp[hm]
     exact Qmg hf h.split (h.sub x (Wd h.down hb hr))
  .have hder:=h.der;cases hder with
   |un _ ho hw hd=>exact ih _ _ _ _ (h.adv hf ho hx hd (.inl ⟨hw,rfl⟩))
   |det v _ ho hw hop hg hd=>exact ih _ _ _ _ (h.adv hf ho hx hd (.inr ⟨hw,hop,hg⟩))
   |rel F hm=>exact absurd hm hx
   |last hm=>exact absurd hm hx
def Qf3{o:Oper}{a:Act}{K:Value->Qa T->Prop}{K':Act->Qa T->Prop}(h:OpQ S o a K U)(hk:∀v U,K v U->K' (a.put o.dst v) U):OpV S ro o a K' U:=
 OpQ.opV (h.mono hk)
def Qf2{o:Oper}{a:Act}{K:Value->Qa T->Prop}(h:OpQ S o a K U):∀c,o.op≠.defer c:=by
 intro c e;unfold OpQ at h;simp only[execOp,e]at h;have h':=(Qmw (P:=P) (resolve a.eval c o.type) (λ d=>(pure (.defer d):Sem Next))).1 h;have hn:Qr P (resolve a.eval c o.type) (λ _ _=>False) U:=Qr.mono _ h' λ d U hd=>hd;obtain⟨callee,args,ats⟩:=c;cases callee with
 |value f=>cases hv:a.eval f <;> simp[resolve,Deferred.ofValue,hv,Qr,pure,stuck]at hn
 |invoke r mth=>simp[resolve,Qr,pure]at hn
 |builtin bb=>simp[resolve,Qr,pure]at hn
def Qme{k t:Nat}{listed:Array Bool}(h:Region.ready .any ops listed≠[]):∃i∈Region.ready .any ops listed,∃t',Region.linearise.go .any ops (k+1) t listed []=i::Region.linearise.go .any ops k t' (listed.setIfInBounds i true) []:=by
 have hlt:t % (Region.ready .any ops listed).length<(Region.ready .any ops listed).length:=Nat.mod_lt _ (length_pos_iff.2 h);refine⟨(Region.ready .any ops listed)[t % (Region.ready .any ops listed).length],getElem_mem _,t / (Region.ready .any ops listed).length,?_⟩;have hg:(Region.ready .any ops listed)[t % (Region.ready .any ops listed).length]?=some (Region.ready .any ops listed)[t % (Region.ready .any ops listed).length]:=getElem?_eq_getElem hlt;simp only[Region.linearise.go]
 change(match(Region.ready .any ops listed)[t % (Region.ready .any ops listed).length]? with
   |some i=>Region.linearise.go .any ops k (t / (Region.ready .any ops listed).length) (listed.setIfInBounds i true) [i]
   |none=>[].reverse)=_
 rw[hg];simp only[];rw[linearise_go_acc,reverse_singleton,singleton_append]
def Qgl(hf:Jy ops rl qs ts){listed:Array Bool}(hs:listed.size=ops.size):∀(p i:Nat),(qs++ts)[p]?=some i->¬Li listed i->∃x,x∈Region.ready .any ops listed:=by
 intro p
 induction p using Nat.strongRecOn with
 |ind p ih=>
  intro i hp hi;by_cases he:∀j∈Ww ops i,Li listed j
  .refine⟨i,J6.2 ⟨(hf.mem i).2 (mem_of_getElem? hp),?_,he⟩⟩;have hlt:i<listed.size:=by rw[hs];exact(hf.mem i).2 (mem_of_getElem? hp)
   simp only[Li,Array.getD_eq_getD_getElem?,Array.getElem?_eq_getElem hlt,Option.getD_some,Bool.not_eq_true]at hi ⊢;exact hi
  .obtain⟨j,hj,hl⟩:∃j∈Ww ops i,¬Li listed j:=by
    apply Classical.byContradiction;intro hc;exact he λ j hj=>Classical.byContradiction λ hl=>hc ⟨j,hj,hl⟩
   obtain⟨p',hp'⟩:=mem_iff_getElem?.1 (hf.order p i hp j hj);rw[getElem?_take]at hp';split at hp'
   .exact ih p' (by assumption) j hp' hl
   .cases hp'
def Qml{listed:Array Bool}{i:Nat}(h:i∈Region.ready .any ops listed):¬Li listed i:=by
 have:=(J6.1 h).2.1;simp only[Li,Array.getD_eq_getD_getElem?]at this ⊢;cases hx:listed[i]? <;> simp_all
def Ziz(hf:Jy ops rl qs ts){listed:Array Bool}{p:Nat}(hl:∀i,Li listed i↔i∈(qs++ts).take p):∀i,Li listed i->∀j∈Ww ops i,Li listed j:=by
 intro i hi j hj;rw[hl]at hi ⊢;obtain⟨p1,hp1⟩:=mem_iff_getElem?.1 hi;rw[getElem?_take]at hp1;split at hp1
 .have:=hf.order p1 i hp1 j hj;exact take_subset_take_left _ (by omega) this
 .cases hp1
def Zfs(hf:Jy ops rl qs ts):∀(q:Nat)(p t:Nat)(listed:Array Bool),p+q=ts.length->listed.size=ops.size->(∀i,Li listed i↔i∈(qs++ts).take (qs.length+p)) ->
  Region.linearise.go .any ops q t listed []=ts.drop p:=by
 intro q
 induction q with
 |zero=>intro p t listed hp _ _;simp[Region.linearise.go,drop_of_length_le (show ts.length<=p by omega)]
 |succ q ih=>
  intro p t listed hp hs hl;have hlt:p<ts.length:=by omega
  have hx:ts[p]?=some ts[p]:=getElem?_eq_getElem hlt;have hxa:(qs++ts)[qs.length+p]?=some ts[p]:=by rw[getElem?_append_right (by omega)];simp
  have hxl:¬Li listed ts[p]:=by
   rw[hl];intro h;obtain⟨p1,hp1⟩:=mem_iff_getElem?.1 h;rw[getElem?_take]at hp1;split at hp1
   .have:=Qds hf hp1 hxa;omega
   .cases hp1
  obtain⟨y,hy⟩:=Qgl hf hs _ _ hxa hxl;obtain⟨i,hi,t',hgo⟩:=Qme (k:=q) (t:=t) (ne_nil_of_mem hy);have hdown:=Ziz hf hl
  have hie:i=ts[p]:=by
   have hnl:=Qml hi;have hr:=(J6.1 hi).2.2;have hm:=(hf.mem i).1 (J6.1 hi).1;obtain⟨p1,hp1⟩:=mem_iff_getElem?.1 hm;by_cases h1:p1<qs.length+p
   .exfalso;apply hnl;rw[hl];exact mem_iff_getElem?.2 ⟨p1,by rw[getElem?_take,if_pos h1];exact hp1⟩
   .by_cases h2:p1=qs.length+p
    .subst h2;rw[hxa]at hp1;cases hp1;rfl
    .exfalso;have hp2:ts[p1-qs.length]?=some i:=by rw[getElem?_append_right (by omega)]at hp1;exact hp1
     refine hxl (Wd hdown (hf.tail _ i hp2 ts[p] ?_) hr);refine mem_append_right _ (mem_iff_getElem?.2 ⟨p,?_⟩);rw[getElem?_take,if_pos (by omega)];exact hx
  subst hie;rw[hgo,ih (p+1) t' _ (by omega) (by simpa using hs),drop_eq_getElem_cons hlt];intro j;rw[Qzz (by rw[hs];exact(J6.1 hi).1),hl]
  have:(qs++ts).take (qs.length+(p+1))=(qs++ts).take (qs.length+p)++[ts[p]]:=by
   rw[<- Nat.add_assoc,take_add_one,hxa];rfl
  rw[this];simp
def Jm.eq{val:Nat->Value}{D D':Nat->Prop}{a_0 a a':Act}(h:Jm ops val D a_0 a)(h':Jm ops val D' a_0 a')(hd:∀j,D j↔D' j):a=a':=by
 obtain⟨ta,da⟩:=a;obtain⟨tb,db⟩:=a';have h1:da=db:=h.defers.trans h'.defers.symm
 have h2:ta=tb:=by
  apply Array.ext_getElem?;intro s;exact h.slot h' (s:=s) λ j _=>hd j
 rw[h1,h2]
def Zp0(hf:Jy ops rl qs ts){Q:Ex->Act->Qa T->Prop}:∀(r t:Nat)(listed:Array Bool)(ac:Act)(U:Qa T)(pre L:List Nat)(C:Qa T->Prop)(av:Act)(val:Nat->Value),
  Inv S ops rl qs late G U₀ a_0 (λ a U=>Qbm S fn ro ops ts Q a U) listed ac U pre L C av val->(qs.filter λ i=>!listed.getD i false).length=r ->
  Qbm S fn ro ops (Region.linearise.go .any ops (r+ts.length) t listed []) Q ac U:=by
 intro r
 induction r generalizing U₀ with
 |zero=>
  intro t listed ac U pre L C av val h hr
  have hall:∀i∈qs,Li listed i:=by
   intro i hi;have:=filter_eq_nil_iff.1 (length_eq_zero_iff.1 hr) i hi;simpa[Li]using this
  have hL:L=[]:=by
   cases L with
   |nil=>rfl
   |cons x rest=>exact absurd (h.sub x (hall x (by rw[h.split];simp))) (Qmg hf h.split)
  subst hL;have hpre:pre=qs:=by have:=h.split;simp at this;exact this.symm
  subst hpre;have hder:=h.der;cases hder with
  |nil hfin=>
   have e:av=ac:=h.av.eq h.ac λ j=>⟨hall j,h.sub j⟩;have:=hfin U h.base h.c;rw[e]at this;rw[Nat.zero_add,Zfs hf ts.length 0 t listed (by omega) h.size λ i=>?_]
   .simpa using this
   .rw[Nat.add_zero,take_left']
    .exact⟨h.sub i,hall i⟩
    .rfl
 |succ r ih=>
  intro t listed ac U pre L C av val h hr;obtain⟨q,hq⟩:∃q,q∈qs.filter λ i=>!listed.getD i false:=exists_mem_of_length_pos (by omega);have hqs:=(mem_filter.1 hq).1;have hql:¬Li listed q:=by have:=(mem_filter.1 hq).2;simpa[Li]using this
  obtain⟨pq,hpq⟩:=mem_iff_getElem?.1 hqs;obtain⟨y,hy⟩:=Qgl hf h.size _ _ (Qaf (ts:=ts) hpq) hql;obtain⟨i,hi,t',hgo⟩:=Qme (k:=r+ts.length) (t:=t) (ne_nil_of_mem hy);have hnl:=Qml hi;have hred:=(J6.1 hi).2.2;have hlt:=(J6.1 hi).1
  have hiq:i∈qs:=by
   rcases mem_append.1 ((hf.mem i).1 hlt)with hm|hm
   .exact hm
   .obtain⟨p1,hp1⟩:=mem_iff_getElem?.1 hm;exact absurd (Wd h.down (hf.tail p1 i hp1 q (mem_append_left _ hqs)) hred) hql
  rw[show r+1+ts.length=(r+ts.length)+1 by omega,hgo];have hls:∀j,Li (listed.setIfInBounds i true) j↔Li listed j\/j=i:=λ j=>Qzz (by rw[h.size];exact hlt)
  have hcount:(qs.filter λ x=>!(listed.setIfInBounds i true).getD x false).length=r:=by
   have hnd:=(nodup_append.1 hf.nodup).1
   have e:(qs.filter λ x=>!(listed.setIfInBounds i true).getD x false)=(qs.filter λ x=>!listed.getD x false).filter (λ x=>x != i):=by
    rw[filter_filter];refine filter_congr λ x _=>?_;have:=hls x;simp only[Li]at this;cases hx:(listed.setIfInBounds i true).getD x false <;> cases hx':listed.getD x false <;> by_cases e:x=i <;> simp_all
   rw[e,<- Nodup.erase_eq_filter (hnd.filter _),length_erase_of_mem (mem_filter.2 ⟨hiq,by simpa[Li]using hnl⟩),hr];rfl
  obtain⟨pre',L',C',av',val',h',hcase⟩:=h.reach hf hiq hred
  have hdown':∀j,Li (listed.setIfInBounds i true) j->∀k∈Ww ops j,Li (listed.setIfInBounds i true) k:=by
   intro j hj k hk;rw[hls]at hj ⊢;rcases hj with hj|rfl
   .exact .inl (h.down j hj k hk)
   .exact .inl (hred k hk)
  have put_ac:∀{val:Nat->Value}{o:Oper},ops[i]?=some o->Jm ops val (Li listed) a_0 ac->Jm ops val (Li (listed.setIfInBounds i true)) a_0 (ac.put o.dst (val i)):=by
   intro val o ho ha;have:=Jm.put hf ha ho;have e:Li (listed.setIfInBounds i true)=λ j=>Li listed j\/j=i:=by funext j;exact propext (hls j)
   rw[e];exact this
  by_cases hpre:i∈pre'
  ·
   obtain⟨o,ai,p,hp,ho,hag,hh⟩:=h'.pend i hpre hnl;have hsame:=Qmn ho (hf.nosel i o ho) (a:=ac) (a':=ai) λ s hs=>h'.ac.slot hag λ j hj=>Qci hf h'.down hp hnl hred hs hj
   have next:∀U1,U.le U1->Inv S ops rl qs late G U₀ a_0 (λ a U=>Qbm S fn ro ops ts Q a U) (listed.setIfInBounds i true) (ac.put o.dst (val' i)) U1 pre' L' C' av' val':=λ U1 hle=>
    ⟨h'.split,h'.der,h'.mono,h'.base.trans hle,h'.mono _ _ h'.c hle,h'.av,put_ac ho h'.ac,λ j hj=>((hls j).1 hj).elim (h'.sub j) (λ e=>e▸hpre),by simpa using h'.size,hdown',λ j hj hr=>(hls j).2 (.inl (h'.rels j hj hr)),
     λ j hj hl=>by
      obtain⟨o,ai,p,a,b,c,d⟩:=h'.pend j hj λ hx=>hl ((hls j).2 (.inl hx));exact⟨o,ai,p,a,b,c,d.imp id λ⟨x,y,z⟩=>⟨x,λ U' hU=>y U' (hle.trans hU),z⟩⟩⟩
   rcases hh with⟨hw,hv⟩|⟨hw,hop,hg⟩
   .refine Qcj ho (by rw[hsame.2];exact hw) ?_;have:=ih t' _ _ _ _ _ _ _ _ (next U (.refl U)) hcount;rw[hv]at this;exact this
   .have hq':OpQ S o ac (λ v' U2=>v'=val' i/\∃U1,Qw U2 U1/\U.le U1) U:=by have:=hop U (.refl U);unfold OpQ at this ⊢;rw[hsame.1];exact this
    refine Qc1 ho (by rw[hsame.2];exact hw) (.inr (Qf2 hq')) (Qf3 hq' λ v U2 hv=>?_);obtain⟨rfl,U1,hs,hle⟩:=hv;exact Qf4 hs (ih t' _ _ _ _ _ _ _ _ (next U1 hle) hcount)
  .obtain⟨rest,rfl,hrl⟩:=hcase.resolve_left hpre;have hder:=h'.der;cases hder with
   |un hx _ _ _=>exact absurd hrl hx
   |det _ hx _ _ _ _ _=>exact absurd hrl hx
   |@rel _ _ _ _ o F _ hF ho hw hop hd=>
    obtain⟨htk,hget⟩:=Qac h'.split
    have hsame:=Qmn ho (hf.nosel i o ho) (a:=ac) (a':=av') λ s hs=>h'.ac.slot h'.av λ j hj=>by
     have:=Qci hf h'.down hget hnl hred hs hj;rw[htk]at this;exact this
    have hq':OpQ S o ac (λ v' U2=>∃U1,Qw U2 U1/\F v' U1/\U.le U1) U:=by have:=hop U h'.base h'.c;unfold OpQ at this ⊢;rw[hsame.1];exact this
    refine Qc1 ho (by rw[hsame.2];exact hw) (.inr (Qf2 hq')) (Qf3 hq' λ v U2 hv=>?_);obtain⟨U1,hs,hFv,hle⟩:=hv;refine Qf4 hs ?_;obtain⟨n1,n2,n3⟩:=h'.note hf v;have hav:=Jm.put hf n1 ho;have hac:=put_ac ho n2;rw[Qb2]at hav hac;refine ih t' _ _ U1 (pre'++[i]) rest (λ U'=>C' U'/\F v U') (av'.put o.dst v) (Qf6 val' i v) ⟨by rw[h'.split];simp,hd v ⟨U1,h'.base.trans hle,h'.mono _ _ h'.c hle,hFv⟩,λ a b⟨x,y⟩hl=>⟨h'.mono a b x hl,hF v a b y hl⟩,h'.base.trans hle,⟨h'.mono _ _ h'.c hle,hFv⟩,?_,hac,?_,by simpa using h'.size,hdown',?_,?_⟩ hcount
    .have e:(λ j=>j∈pre'\/j=i)=(·∈pre'++[i]):=by funext j;simp
     rw[<- e];exact hav
    .intro j hj;rcases(hls j).1 hj with hj|rfl
     .exact mem_append_left _ (h'.sub j hj)
     .simp
    .intro j hj hr;rw[hls];rcases mem_append.1 hj with hj|hj
     .exact .inl (h'.rels j hj hr)
     .exact .inr (by simpa using hj)
    .intro j hj hl;rcases mem_append.1 hj with hj|hj
     .obtain⟨o,ai,p,a,b,c,d⟩:=n3 j hj λ hx=>hl ((hls j).2 (.inl hx));exact⟨o,ai,p,a,b,c,d.imp id λ⟨x,y,z⟩=>⟨x,λ U' hU=>y U' (hle.trans hU),z⟩⟩
     .exact absurd ((hls j).2 (.inr (by simpa using hj))) hl
   |@last _ _ _ o _ hG hlate ho hw hop hfin=>
    obtain⟨htk,hget⟩:=Qac h'.split
    have hsame:=Qmn ho (hf.nosel i o ho) (a:=ac) (a':=av') λ s hs=>h'.ac.slot h'.av λ j hj=>by
     have:=Qci hf h'.down hget hnl hred hs hj;rw[htk]at this;exact this
    have hq':OpQ S o ac (λ v' U2=>v'=undef/\∃U1,Qw U2 U1/\G U1) U:=by have:=hop U h'.base h'.c;unfold OpQ at this ⊢;rw[hsame.1];exact this
    refine Qc1 ho (by rw[hsame.2];exact hw) (.inr (Qf2 hq')) (Qf3 hq' λ v U2 hv=>?_);obtain⟨rfl,U1,hs,hGU⟩:=hv;refine Qf4 hs ?_;obtain⟨n1,n2,n3⟩:=h'.note hf undef;have hav:=Jm.put hf n1 ho;have hac:=put_ac ho n2;rw[Qb2]at hav hac;refine ih (U₀:=U1) t' _ _ U1 (pre'++[i]) [] G (av'.put o.dst undef) (Qf6 val' i undef) ⟨by rw[h'.split];simp,.nil λ U' _ hg=>hfin ⟨U,h'.base,h'.c⟩ U' hg,hG,.refl U1,hGU,?_,hac,?_,by simpa using h'.size,hdown',?_,?_⟩ hcount
    .have e:(λ j=>j∈pre'\/j=i)=(·∈pre'++[i]):=by funext j;simp
     rw[<- e];exact hav
    .intro j hj;rcases(hls j).1 hj with hj|rfl
     .exact mem_append_left _ (h'.sub j hj)
     .simp
    .intro j hj hr;rw[hls];rcases mem_append.1 hj with hj|hj
     .exact .inl (h'.rels j hj hr)
     .exact .inr (by simpa using hj)
    .intro j hj hl;rcases mem_append.1 hj with hj|hj
     .have hnj:¬Li listed j:=λ hx=>hl ((hls j).2 (.inl hx));obtain⟨o,ai,p,a,b,c,d⟩:=n3 j hj hnj;refine⟨o,ai,p,a,b,c,d.imp id λ⟨x,y,z⟩=>?_⟩
      have hlj:late j=true:=by
       cases hb:late j with
       |true=>rfl
       |false=>exact absurd (Wd h.down (hlate j hb) hred) hnj
      exact⟨x,λ U' hU=>z hlj U' (hG _ _ hGU hU),z⟩
     .exact absurd ((hls j).2 (.inr (by simpa using hj))) hl
end sound
def Q5m{late:Nat->Bool}{G:Qa T->Prop}{Q:Ex->Act->Qa T->Prop}{a:Act}{U:Qa T}{id:Nat}{ops:Array Oper}(rl qs ts:List Nat)(hm:P.follows .mixedOrders=true)(hok:Qvh ops rl qs ts=true)
  (h:Qa2 S ops rl (Qbo ops) late G U (λ a U=>Qbm S fn ro ops ts Q a U) qs (λ _=>True) a):Zu S fn ro (.region id ops true) Q a U:=by
 have hf:=Qvi hok;refine Ze3 λ t=>?_;simp only[Region.schedule,hm,Bool.true_or,if_true,Region.linearise]
 have hc:(qs.filter λ i=>!(Array.replicate ops.size false).getD i false).length=qs.length:=by
  congr 1;rw[filter_eq_self];intro x _;simp[Array.getElem?_replicate];split <;> rfl
 have hsize:ops.size=qs.length+ts.length:=by
  have h1:(qs++ts).Perm (range ops.size):=by
   refine(perm_ext_iff_of_nodup hf.nodup nodup_range).2 λ x=>?_;rw[mem_range];exact(hf.mem x).symm
  have:=h1.length_eq;simp at this;omega
 have hno:∀i,¬Li (Array.replicate ops.size false) i:=by
  intro i h;simp only[Li,Array.getD_eq_getD_getElem?,Array.getElem?_replicate]at h;split at h <;> simp at h
 have:=Zp0 (S:=S) (fn:=fn) (ro:=ro) (Q:=Q) hf qs.length t (Array.replicate ops.size false) a U [] qs (λ _=>True) a (λ _=>undef)
  ⟨rfl,h,λ _ _ _ _=>trivial,.refl U,trivial,⟨rfl,rfl,λ _ _ _ h=>by simp at h,λ _ _=>rfl⟩,⟨rfl,rfl,λ _ j _ h=>absurd h (hno j),λ _ _=>rfl⟩,λ i h=>absurd h (hno i),by simp,λ i h=>absurd h (hno i),by simp,by simp⟩ hc
 rw[<- hsize]at this;exact this
end Go.TM
namespace Go.TM
variable{T:Type}{P:Program}{S:Sys P T}{fn:FuncId}{ro:Option Nat}{Stop:Stp T}{m:Bool}
def J.body{b:Frame}{a:Act}{c:Code}{cs:List Frame}{U:Qa T}{Q:Ex->Act->Qa T->Prop}(hb:Fr fn none b)(h:Zu S fn none c Q a U)
  (hq:∀e a' U',Q e a' U'->(e=.normal\/e=.ret)/\∀todo,J S Stop m (Rf { fr b a' todo with mode:=.returning } cs) U'):J S Stop m (R b a [.code c] cs) U:=by
 refine h Stop m b [] cs hb λ e a' U' q=>?_;obtain⟨he,hj⟩:=hq e a' U' q;have hro:=hb.2.1;rcases he with rfl|rfl
 .refine .still (g':=Rf { fr b a' []with mode:=.returning } cs) rfl (λ w=>?_) (hj []);simp[R,Rf,stepG,stepG.exec,fr,hro]
 .simp only[Qe4,Qe5,hro];exact⟨.inr trivial,hj⟩
def Qqh(P:Program)(f:Func)(Q:Value->Qa T->Prop)(tmps:Array Value):List Deferred->Qa T->Prop
 |[],U=>Qr P (results f tmps) Q U
 |{ target:=.collected blk,.. }::ds,U=>Qr P (Instr.takeDeferred blk) (λ calls U'=>calls=[]/\Qqh P f Q tmps ds U') U
 |_,_=>False
def Qqh.step{f:Func}{Q:Value->Qa T->Prop}{b:Frame}{tmps:Array Value}{c:Frame}{cs:List Frame}(hf:P.funcs[b.fn]?=some f)(hk:b.kind=.normal\/b.kind=.wrapped)(hq:∀v U',Q v U'->J S Stop m (Rf (c.finish v) cs) U') :
  ∀(ds:List Deferred)(todo:List Item)(U:Qa T),Qqh P f Q tmps ds U->J S Stop m (Rf { fr b ⟨tmps,ds⟩ todo with mode:=.returning } (c::cs)) U:=by
 intro ds
 induction ds with
 |nil=>
  intro todo U h;refine .sem _ rfl h λ w x w' es hrun _=>⟨Rf (c.finish x) cs,seen P b.fn es,?_,Jp P _ es,λ U' q=>hq _ _ q⟩;obtain⟨hr,he⟩:Sem.run P (results f tmps) w=.ok x w'/\Sem.events P (results f tmps) w #[]=es:=by simpa using hrun
  rcases hk with hk|hk <;> simp[Rf,stepG,unwind,fr,hf,hr,he,doReturn,hk,GStep.after]
 |cons d ds ih=>
  intro todo U h;obtain⟨tg,args⟩:=d;cases tg with
  |collected blk=>
   simp only[Qqh]at h;refine .sem _ rfl h λ w x w' es hrun hex=>⟨Rf { fr b ⟨tmps,x++ds⟩ todo with mode:=.returning } (c::cs),seen P b.fn es,?_,Jp P _ es,λ U' q=>?_⟩
   .obtain⟨hr,he⟩:Sem.run P (Instr.takeDeferred blk) w=.ok x w'/\Sem.events P (Instr.takeDeferred blk) w #[]=es:=by simpa using hrun
    simp[Rf,stepG,unwind,fr,hr,he,GStep.after]
   .obtain⟨rfl,q⟩:=q;exact ih todo U' q
  |_=>exact h.elim
def Zm8(P:Program)(f:Func)(Q:Value->Qa T->Prop):Ex->Act->Qa T->Prop
 |.normal,a,U=>Qqh P f Q a.tmps a.defers U
 |.ret,a,U=>Qqh P f Q a.tmps a.defers U
 |.exit _,_,_=>False
def Qb.of_body{f:FuncId}{fd:Func}{c:Code}{args:Array Value}{U:Qa T}{Q:Value->Qa T->Prop}(hf:P.funcs[f]?=some fd)(hb:fd.body=some c)
  (h:Zu S f none c (Zm8 P fd Q) { tmps:=args++Array.replicate (fd.ntmps-args.size) undef,defers:=[] } U):Qb S f args Q U:=by
 intro Stop m caller cs hq
 let b:Frame:={ (default:Frame)with fn:=f,kind:=.normal }
 have henter:Rf (Frame.enter P f args .normal) (caller::cs)=R b { tmps:=args++Array.replicate (fd.ntmps-args.size) undef,defers:=[] } [.code c] (caller::cs):=by
  simp[Rf,R,Frame.enter,fr,hf,hb,b];rfl
 rw[henter];refine J.body (fn:=f) ⟨rfl,rfl,by simp[b],by simp⟩ h λ e a' U' q=>?_;cases e with
 |normal=>exact⟨.inl rfl,λ todo=>Qqh.step hf (.inl rfl) hq a'.defers todo U' q⟩
 |ret=>exact⟨.inr rfl,λ todo=>Qqh.step hf (.inl rfl) hq a'.defers todo U' q⟩
 |exit id=>exact q.elim
def Zdy:Ex->Option Code
 |.normal=>none
 |.ret=>some .ret
 |.exit id=>some (.exit id)
def Zoh(P:Program)(l:Nat)(Q:Value->Qa T->Prop)(e:Ex)(_:Act)(U:Qa T):Prop:=Qr P (Instr.endRound l (Zdy e)) Q U
def Qaw.of_body{l:Nat}{f:FuncId}{tmps:Array Value}{assign body:Code}{U:Qa T}{Q:Value->Qa T->Prop}
  (h:Zu S f (some l) assign (λ e a' U'=>e=.normal/\Qr P (Instr.beginRound l) (λ _ U2=>Zu S f (some l) body (Zoh P l Q) a' U2) U') ⟨tmps,[]⟩ U):Qaw S l f tmps assign body Q U:=by
 intro Stop m c cs hq
 let b:Frame:={ (default:Frame)with fn:=f,kind:=.normal,roundOf:=some l }
 have hb:Fr f (some l) b:=⟨rfl,rfl,by simp[b],by simp[b]⟩;have hro:b.roundOf=some l:=rfl
 have henter:Rf (Frame.round l f tmps assign body .normal) (c::cs)=R b ⟨tmps,[]⟩ [.code assign,.beginRound,.code body] (c::cs):=by
  simp[Rf,R,Frame.round,fr,b]
 rw[henter];refine h Stop m b [.beginRound,.code body] (c::cs) hb λ e a' U' q=>?_;obtain⟨rfl,q⟩:=q;show J S Stop m (R b a' [.beginRound,.code body] (c::cs)) U'
 have q':Qr P (do Instr.beginRound l;pure Next.skip:Sem Next) (λ n U2=>n=.skip/\Zu S f (some l) body (Zoh P l Q) a' U2) U':=
  (Qmw _ _).2 (Qr.mono _ q λ _ _ h=>⟨rfl,h⟩)
 refine .sem _ rfl q' λ w x w' es hrun hex=>⟨R b a' [.code body] (c::cs),seen P f es,?_,Jp P _ es,λ U2 q=>?_⟩
 .obtain⟨_,rfl,_⟩:=hex;have hke:(b.kind==CallKind.early)=false:=rfl;show stepG.apply P true (fr b a' [.beginRound,.code body]) (c::cs) none (do (Instr.beginRound l);pure .skip) w=_;simp only[stepG.apply,if_true,hrun];simp[fr,hke,GStep.after,R,Frame.finish,b]
 .obtain⟨_,q⟩:=q;refine q Stop m b [] (c::cs) hb λ e a'' U3 q=>?_
  have leave:Qe5 S Stop m b (c::cs) (Zdy e) a'' U3:=by
   simp only[Qe5,hro];exact⟨c,cs,rfl,Qr.mono _ q λ v U4 hv=>hq v U4 hv⟩
  cases e with
  |normal=>
   simp only[Qe5,hro,Zdy]at leave;obtain⟨c',rest,e,hs⟩:=leave;cases e;refine .sem _ rfl hs λ w x w' es hrun _=>⟨Rf (c.finish x) cs,seen P f es,?_,Jp P _ es,λ _ h=>h⟩;obtain⟨hr,he⟩:Sem.run P (Instr.endRound l none) w=.ok x w'/\Sem.events P (Instr.endRound l none) w #[]=es:=by simpa using hrun
   simp[R,stepG,stepG.exec,fr,b,hr,he,doReturn,GStep.after,Rf]
  |exit id=>exact .inr ⟨rfl,leave⟩
  |ret=>exact leave
def Qja(f:Operand)(l:Nat):Call:={ callee:=.value f,args:=#[.const (.func (.yield l) #[] #[])],argTypes:=#[] }
def Q00{Q:Ex->Act->Qa T->Prop}{a:Act}{U:Qa T}{f:Operand}{params:Array Tmp}{assign body:Code}
  (h:Qr P (Instr.enterLoop fn a.tmps params assign body ro) (λ lm U1=>
   Qr P (do let d <- resolve a.eval (Qja f lm.1) 0;invoke d.target d.args:Sem Next) (λ nx U2=>match nx with
    |.enter f' args=>Qb S f' args (λ _ U3=>Qr P (Instr.endLoop lm.1) (λ j U4=>match j with
      |none=>Q .normal { a with defers:=lm.2++a.defers } U4
      |some c=>Zu S fn ro c Q { a with defers:=lm.2++a.defers } U4) U3) U2
    |_=>False) U1) U):Zu S fn ro (.rangeFunc f params assign body) Q a U:=by
 intro Stop m b k cs hb hc;have hke:(b.kind==CallKind.early)=false:=by simpa using hb.2.2.1
 refine .priv ⟨rfl,λ w ok=>?_⟩;obtain⟨⟨l,mark⟩,w_1,es1,U1,hr_1,hev1,hg_1,ok_1,h,ht_1⟩:=Qr.sound _ (es₀:=#[]) h ok;obtain⟨nx,w_2,es2,U2,hr_2,hev2,hg_2,ok2,h,ht_2⟩:=Qr.sound _ (es₀:=#[]) h ok_1;have hr1':(Instr.enterLoop b.fn a.tmps params assign body b.roundOf).runT P w #[]=(.ok (l,mark) w_1,es1):=by rw[hb.1,hb.2.1];simpa using hr_1
 have hr2':(do let d <- resolve a.eval (Qja f l) 0;invoke d.target d.args:Sem Next).runT P w_1 #[]=(.ok nx w_2,es2):=by simpa using hr_2
 cases nx with
 |enter f' args=>
  refine⟨Rf (Frame.enter P f' args .normal) (fr b { a with defers:=mark++a.defers } (.inRangeFunc l::k)::cs),w_2,seen P b.fn es1++seen P b.fn es2,U2,?_,?_,hg_1.trans hg_2,ok2,ht_2.trans ht_1,?_⟩
  .have he:(fr b { a with defers:=mark++a.defers } (.inRangeFunc l::k)).eval=a.eval:=by rw[Qrd];rfl
   show GStep.after (seen P b.fn ((Instr.enterLoop b.fn a.tmps params assign body b.roundOf).runT P w #[]).2) (match((Instr.enterLoop b.fn a.tmps params assign body b.roundOf).runT P w #[]).1 with
    |.ok (l,mark) w=>stepG.apply P true (fr b { a with defers:=mark++a.defers } (.inRangeFunc l::k)) cs none (do let d <- resolve (fr b { a with defers:=mark++a.defers } (.inRangeFunc l::k)).eval (Qja f l) 0;invoke d.target d.args) w
    |.halt _ w=>_)=_
   rw[hr1'];simp only[he];simp only[stepG.apply,if_true,hr2'];simp[fr,hke,GStep.after,Rf]
  .intro e he;rcases Array.mem_append.1 he with he|he
   .exact⟨(hev1 e (Jp P _ _ e he)).1,(hev1 e (Jp P _ _ e he)).2.mono hg_2.size⟩
   .exact⟨Qjb.of hg_1 (hev2 e (Jp P _ _ e he)).1,(hev2 e (Jp P _ _ e he)).2⟩
  .refine h Stop m _ cs λ v U3 h=>?_;have hfin:(fr b { a with defers:=mark++a.defers } (.inRangeFunc l::k)).finish v=fr b { a with defers:=mark++a.defers } (.endRangeFunc l::k):=by simp[Frame.finish,fr]
   rw[hfin];refine .sem (g:=R b { a with defers:=mark++a.defers } (.endRangeFunc l::k) cs) _ rfl h λ w j w' es hrun _=>⟨R b { a with defers:=mark++a.defers } ((j.map Item.code).toList++k) cs,seen P b.fn es,?_,Jp P _ es,λ U4 q=>?_⟩
   .obtain⟨hr,he⟩:Sem.run P (Instr.endLoop l) w=.ok j w'/\Sem.events P (Instr.endLoop l) w #[]=es:=by simpa using hrun
    simp[R,stepG,stepG.exec,fr,hr,he,GStep.after]
   .cases j with
    |none=>exact hc _ _ _ q
    |some c=>exact q Stop m b k cs hb hc
 |_=>exact h.elim
end Go.TM
namespace Go.TM
variable{T:Type}{P:Program}{S:Sys P T}
def Sep(U:Qa T):Prop:=∀r∈U.M,U.I r.blk=none
def Qb.sep{f:FuncId}{args:Array Value}{R R':Value->Qa T->Prop}{U:Qa T}(h:Qb S f args R U)(hr:∀v U',Sep U'->R v U'->∃U'',Qw U' U''/\R' v U''):Qb S f args R' U:=by
 intro Stop m c cs k;refine h Stop m c cs λ v U' r=>?_;by_cases hs:Sep U'
 .obtain⟨U'',h1,h2⟩:=hr v U' hs r;exact .shift h1 (k v _ h2)
 .exact .priv ⟨rfl,λ w ok=>absurd ok.sep hs⟩
def Zh(S:Sys P T)(l:Nat)(vs:List Value)(K:Value->Qa T->Prop)(U:Qa T):Prop:=Qr P (Instr.yield l vs.toArray) (Qak S K) U
abbrev Fm:=Nat->Value
def upd(f:Fm)(d:Nat)(v:Value):Fm:=λ t=>bif Nat.beq t d then v else f t
def Qc3(f:Fm):Option Nat->Value->Fm
 |some d,v=>upd f d v
 |none,_=>f
def Zl(f:Fm):Operand->Value
 |.tmp t=>f t
 |.const v=>v
 |.global g=>.pointer (some ⟨g,0,none⟩)
 |.func g=>.func (.func g) #[] #[]
inductive O where
 |mv (x:Operand)
 |pick (c a b:Operand)
 |add (x y:Operand)|sub (x y:Operand)|mul (x y:Operand)
 |cmp (op:BinOp) (x y:Operand)
 |beq (op:BinOp) (x y:Operand)
 |ar (op:BinOp) (x y:Operand)
 |teq (op:BinOp) (x y:Operand)
 |not (x:Operand)
 |len (x:Operand)
 |lenT (x:Operand)
 |lenM (x:Operand)
 |conv (k:IntKind) (x:Operand)
 |off (n:Nat) (x:Operand)
 |idx (sz:Nat) (x i:Operand)
 |aidx (n sz:Nat) (x i:Operand)
 |sidx (x i:Operand)
 |ld (x:Operand)
 |ldn (n:Nat) (x:Operand)
 |st (n:Nat) (x v:Operand)
 |box (t:TypeId) (x:Operand)
 |boxM (t:TypeId) (x:Operand)
 |alloc (t:TypeId) (zero:Array Value)
 |ext (x:Operand) (i:Nat)
 |part (off n:Nat) (x:Operand)
 |part1 (off:Nat) (x:Operand)
 |mkf (fn:Fn) (first capt:Array Operand)
 |call (f:Operand) (args:Array Operand)
 |nilc (x:Operand)
 |sub3 (sz:Nat) (x:Operand) (lo hi:Option Operand)
 |build (zero:Array Value) (parts:List (Nat×Nat×Operand))
 |bsl (t:TypeId) (len:Nat) (zero:Array Value) (parts:List (Nat×Nat×Operand))
 |raw (o:Oper)
def Qe1(v:Value)(K:Value->Prop):Prop:=
 match v with
 |.bool b=>K (.bool b)|.int k n=>K (.int k n)|.float k n=>K (.float k n)|.complex k a b=>K (.complex k a b)|.string s=>K (.string s)
 |.pointer a=>K (.pointer a)|.slice a l c=>K (.slice a l c)|.map r=>K (.map r)|.chan r=>K (.chan r)|.func f a b=>K (.func f a b)
 |.nilFunc=>K .nilFunc|.iface t x=>K (.iface t x)|.nilIface=>K .nilIface|.agg c=>K (.agg c)|.tuple c=>K (.tuple c)
def Qz(v:Value)(K:Value->Prop):Qe1 v K=K v:=by cases v <;> rfl
def Qcs(l:List Value):(List Value->Prop)->Prop:=List.rec (motive:=λ _=>(List Value->Prop)->Prop) (λ K=>K []) (λ v _ ih K=>Qe1 v λ v=>ih λ r=>K (v::r)) l
def J8:∀(l:List Value)(K:List Value->Prop),Qcs l K=K l
 |[],_=>rfl
 |v::r,K=>by
  show(Qe1 v λ v=>Qcs r λ r=>K (v::r))=_;rw[Qz];exact J8 r _
def Qvo(v:Value)(K:Array Value->Prop):Prop:=Qe1 v λ v=>match v with|.agg cs=>K cs|v=>K #[v]
def Qoo(v:Value)(K:Array Value->Prop):Qvo v K=K v.cells:=by unfold Qvo;rw[Qz];cases v <;> rfl
def Zd(U:Qa T)(b:Nat)(c:Array Value):Prop:=∃t fr,U.I b=some (.cells c t fr)
def Zd.new{U:Qa T}{b:Nat}{c:Array Value}{t:TypeId}:Zd { U with I:=Qg0 U.I b (.cells c t) } b c:=⟨t,(0,0),by simp[Qg0]⟩
def Qor{U:Qa T}{b:Nat}{o:Obj}(h:U.free b):U.le { U with I:=Qg0 U.I b o }:=by
 refine⟨λ x o' hx=>?_,rfl,rfl⟩;show Qg0 U.I b o x=_;unfold Qg0;rw[if_neg]
 .exact hx
 .intro e;rw[e,h.1]at hx;cases hx
def Zm(n:Int):Prop:=-9223372036854775808<=n/\n<9223372036854775808
def Qdx{n:Int}(h:Zm n):IntKind.wrap .i64 n=n:=by
 unfold Zm at h;have e1:(2:Int)^64=18446744073709551616:=by decide
 have e2:(2:Int)^(64-1)=9223372036854775808:=by decide
 simp only[IntKind.wrap,IntKind.bits,IntKind.signed,Bool.true_and,e1,e2];split <;> rename_i hc <;> simp only[decide_eq_true_eq]at hc <;> omega
def Z7(U:Qa T)(a:Addr)(vs:List Value):Prop:=∀i v,vs[i]?=some v->U.sees (a.add i) v
def StV(a:Addr)(l:List Value):Nat->(Qa T->Prop)->Qa T->Prop:=
 List.rec (motive:=λ _=>Nat->(Qa T->Prop)->Qa T->Prop) (λ _ K U=>K U) (λ v _ ih i K U=>v.single=true/\∃M',Upd (a.add i) v U.M M'/\ih (i+1) K { U with M:=M' }) l
def StV.mono{a:Addr}{K K':Qa T->Prop}(hk:∀U,K U->K' U):∀(vs:List Value)(i:Nat)(U:Qa T),StV a vs i K U->StV a vs i K' U
 |[],_,_,h=>hk _ h
 |_::vs,i,_,⟨h1,M',hu,h⟩=>⟨h1,M',hu,StV.mono hk vs (i+1) _ h⟩
def Qo2(len:Nat)(lo hi:Option Value):Option (Int×Int):=
 match lo,hi with
 |none,none=>some (0,len)
 |some (.int _ l),none=>some (l,len)
 |none,some (.int _ h)=>some (0,h)
 |some (.int _ l),some (.int _ h)=>some (l,h)
 |_,_=>none
def Qcv(cells:Array Value)(off:Nat):List Value->Nat->Array Value
 |[],_=>cells
 |v::r,j=>Qcv (cells.setIfInBounds (off+j) v) off r (j+1)
def Q5w(f:Fm)(cells:Array Value):List (Nat×Nat×Operand)->Option (Array Value)
 |[]=>some cells
 |(off,size,x)::r=>
  if(Zl f x).cells.size≠size|| off+(Zl f x).cells.size > cells.size then none
  else Q5w f (Qcv cells off (Zl f x).cells.toList 0) r
def Qgi:∀(vs:List Value)(c:Array Value)(off j:Nat),(Qcv c off vs j).size=c.size
 |[],_,_,_=>rfl
 |v::vs,c,off,j=>by simp[Qcv,Qgi vs]
def Qfz:∀(vs:List Value)(c:Array Value)(off j k:Nat),off+j+vs.length<=c.size->(Qcv c off vs j)[k]?=if off+j<=k/\k<off+j+vs.length then vs[k-(off+j)]? else c[k]?
 |[],c,off,j,k,_=>by simp[Qcv];omega
 |v::vs,c,off,j,k,h=>by
  simp only[length_cons]at h;simp only[Qcv];rw[Qfz vs _ off (j+1) k (by simp;omega)];by_cases e:k=off+j
  .subst e;rw[if_neg (by omega),if_pos (by simp)];rw[Array.getElem?_setIfInBounds_self_of_lt (by omega)];simp
  .by_cases h1:off+(j+1)<=k/\k<off+(j+1)+vs.length
   .rw[if_pos h1,if_pos (by simp;omega)];have:k-(off+j)=(k-(off+(j+1)))+1:=by omega
    rw[this,getElem?_cons_succ]
   .rw[if_neg h1,if_neg (by simp;omega),Array.getElem?_setIfInBounds_ne (by omega)]
def Zdz(vs:List Value)(c:Array Value)(off:Nat)(h:off+vs.length<=c.size):(Qcv c off vs 0).toList=c.toList.take off++vs++c.toList.drop (off+vs.length):=by
 apply ext_getElem?;intro k;have hg:=Qfz vs c off 0 k (by omega);rw[Array.getElem?_toList,hg];have hl:(c.toList.take off).length=off:=by simp;omega
 by_cases h1:k<off
 .rw[if_neg (by omega),append_assoc,getElem?_append_left (by omega),getElem?_take,if_pos h1,Array.getElem?_toList]
 .by_cases h2:k<off+vs.length
  .rw[if_pos (by omega),append_assoc,getElem?_append_right (by omega),getElem?_append_left (by omega),hl];rfl
  .rw[if_neg (by omega),append_assoc,getElem?_append_right (by omega),getElem?_append_right (by omega),hl,getElem?_drop,Array.getElem?_toList];congr 1;omega
def Zeg(off:Nat)(vs cs:List Value):List Value:=cs.take off++vs++cs.drop (off+vs.length)
def Ze8(f:Fm)(ps:List (Nat×Nat×Operand)):List Value->(List Value->Prop)->Prop:=
 List.rec (motive:=λ _=>List Value->(List Value->Prop)->Prop) (λ cs K=>Qcs cs K)
  (λ p _ ih cs K=>Qvo (Zl f p.2.2) λ vs=>Qcs vs.toList λ vl=>
   bif (Nat.beq vl.length p.2.1&&Nat.ble (p.1+vl.length) cs.length)then Qcs (Zeg p.1 vl cs) (λ cs'=>ih cs' K)else False) ps
def Qdj(f:Fm):∀(ps:List (Nat×Nat×Operand))(cs:List Value)(K:List Value->Prop),Ze8 f ps cs K=(match Q5w f cs.toArray ps with|some c=>K c.toList|none=>False)
 |[],cs,K=>by
  show Qcs cs K=_;rw[J8];rfl
 |(off,size,x)::r,cs,K=>by
  show(Qvo (Zl f x) λ vs=>Qcs vs.toList λ vl=>bif (Nat.beq vl.length size&&Nat.ble (off+vl.length) cs.length)then Qcs (Zeg off vl cs) (λ cs'=>Ze8 f r cs' K)else False)=_;rw[Qoo,J8,Q5w];simp only[Array.length_toList,size_toArray];by_cases h:(Zl f x).cells.size=size/\off+(Zl f x).cells.size<=cs.length
  .have e1:(Nat.beq (Zl f x).cells.size size&&Nat.ble (off+(Zl f x).cells.size) cs.length)=true:=by
    rw[Bool.and_eq_true];exact⟨Nat.beq_eq.symm▸h.1,Nat.ble_eq.symm▸h.2⟩
   rw[e1,cond_true,J8,Qdj f r];rw[if_neg (by simp;omega)];have e2:=Zdz (Zl f x).cells.toList cs.toArray off (by simpa using h.2)
   have e3:(Zeg off (Zl f x).cells.toList cs).toArray=Qcv cs.toArray off (Zl f x).cells.toList 0:=by
    apply Array.ext';rw[e2];rfl
   rw[e3]
  .have e1:(Nat.beq (Zl f x).cells.size size&&Nat.ble (off+(Zl f x).cells.size) cs.length)=false:=by
    rw[Bool.and_eq_false_iff];by_cases h1:(Zl f x).cells.size=size
    .right;rw[Bool.eq_false_iff];intro h2;exact h ⟨h1,Nat.le_of_ble_eq_true h2⟩
    .left;rw[Bool.eq_false_iff];intro h2;exact h1 (Nat.eq_of_beq_eq_true h2)
   rw[e1,cond_false,if_pos];simp;omega
def OX(S:Sys P T):O->Fm->(Value->Qa T->Prop)->Qa T->Prop
 |.mv x,f,K,U=>Qe1 (Zl f x) λ v=>K v U
 |.pick c a b,f,K,U=>match Zl f c with
  |.bool true=>Qe1 (Zl f a) λ v=>K v U
  |.bool false=>Qe1 (Zl f b) λ v=>K v U
  |_=>False
 |.add x y,f,K,U=>match Zl f x,Zl f y with|.int .i64 a,.int .i64 b=>Zm (a+b)/\K (.int .i64 (a+b)) U|_,_=>False
 |.sub x y,f,K,U=>match Zl f x,Zl f y with|.int .i64 a,.int .i64 b=>Zm (a-b)/\K (.int .i64 (a-b)) U|_,_=>False
 |.mul x y,f,K,U=>match Zl f x,Zl f y with|.int .i64 a,.int .i64 b=>Zm (a*b)/\K (.int .i64 (a*b)) U|_,_=>False
 |.cmp op x y,f,K,U=>match Zl f x,Zl f y with
  |.int k a,.int k' b=>k=k'/\(match op with
   |.eql=>K (.bool (a==b)) U|.neq=>K (.bool (a != b)) U|.lss=>K (.bool (decide (a<b))) U
   |.leq=>K (.bool (decide (a<=b))) U|.gtr=>K (.bool (decide (a > b))) U|.geq=>K (.bool (decide (a ≥ b))) U|_=>False)
  |_,_=>False
 |.beq op x y,f,K,U=>match Zl f x,Zl f y with
  |.bool a,.bool b=>(match op with|.eql=>K (.bool (a==b)) U|.neq=>K (.bool (!(a==b))) U|_=>False)
  |_,_=>False
 |.ar op x y,f,K,U=>match Zl f x,Zl f y with
  |.int k a,.int k' b=>(match op with
   |.add=>k=k'/\K (.int k (k.wrap (a+b))) U|.sub=>k=k'/\K (.int k (k.wrap (a-b))) U|.mul=>k=k'/\K (.int k (k.wrap (a*b))) U
   |.quo=>k=k'/\b≠0/\K (.int k (k.wrap (a.tdiv b))) U|.rem=>k=k'/\b≠0/\K (.int k (a.tmod b)) U
   |.and=>k=k'/\K (.int k (k.wrap (BitVec.ofInt k.bits a&&&BitVec.ofInt k.bits b).toNat)) U
   |.or=>k=k'/\K (.int k (k.wrap (BitVec.ofInt k.bits a||| BitVec.ofInt k.bits b).toNat)) U
   |.xor=>k=k'/\K (.int k (k.wrap (BitVec.ofInt k.bits a ^^^ BitVec.ofInt k.bits b).toNat)) U
   |.andNot=>k=k'/\K (.int k (k.wrap (BitVec.ofInt k.bits a&&&~~~ BitVec.ofInt k.bits b).toNat)) U
   |.shl=>0<=b/\K (.int k (k.wrap (a*2^(min b.toNat k.bits)))) U
   |.shr=>0<=b/\K (.int k (a.fdiv (2^(min b.toNat k.bits)))) U
   |_=>False)
  |_,_=>False
 |.teq op x y,f,K,U=>match Zl f x,Zl f y with
  |.string a,.string b=>(match op with|.eql=>K (.bool (a.toList==b.toList)) U|.neq=>K (.bool (!(a.toList==b.toList))) U|_=>False)
  |_,_=>False
 |.not x,f,K,U=>match Zl f x with|.bool b=>K (.bool (!b)) U|_=>False
 |.len x,f,K,U=>match Zl f x with|.slice _ n _=>K (.int .i64 n) U|_=>False
 |.lenT x,f,K,U=>match Zl f x with|.string s=>K (.int .i64 s.size) U|_=>False
 |.lenM x,f,K,U=>match Zl f x with
  |.map none=>K (.int .i64 0) U
  |.map (some r)=>∃es clock,U.has r (.map es clock)/\K (.int .i64 es.size) U
  |_=>False
 |.conv k x,f,K,U=>match Zl f x with|.int _ n=>K (.int k (k.wrap n)) U|_=>False
 |.off n x,f,K,U=>match Zl f x with|.pointer (some a)=>K (.pointer (some (a.add n))) U|_=>False
 |.idx sz x i,f,K,U=>match Zl f x,Zl f i with
  |.slice a len _,.int _ n=>∃(ad:Addr)(j:Nat),(a=some ad/\n=j/\j<len)/\K (.pointer (some (ad.add (j*sz)))) U
  |_,_=>False
 |.aidx len sz x i,f,K,U=>match Zl f x,Zl f i with
  |.pointer (some a),.int _ n=>∃j:Nat,(n=j/\j<len)/\K (.pointer (some (a.add (j*sz)))) U
  |_,_=>False
 |.sidx x i,f,K,U=>match Zl f x,Zl f i with
  |.string s,.int _ n=>∃(j:Nat)(b:UInt8),(n=j/\s[j]?=some b)/\K (.int .u8 b.toNat) U
  |_,_=>False
 |.ld x,f,K,U=>match Zl f x with|.pointer (some a)=>∃v,U.sees a v/\Qe1 v λ v=>K v U|_=>False
 |.ldn n x,f,K,U=>match Zl f x with|.pointer (some a)=>∃vs:List Value,(vs.length=n/\Z7 U a vs)/\K (.agg vs.toArray) U|_=>False
 |.st n x v,f,K,U=>match Zl f x with|.pointer (some a)=>(Zl f v).cells.size=n/\StV a (Zl f v).cells.toList 0 (λ U'=>∃U1,Qw U' U1/\K undef U1) U|_=>False
 |.box _ x,f,K,U=>Qvo (Zl f x) λ cs=>∀b U1,U.le U1->Zd U1 b cs->K (.pointer (some ⟨b,0,none⟩)) U1
 |.boxM t x,f,K,U=>∀b,U.free b->K (.pointer (some ⟨b,0,none⟩)) (U.put b (.cells (Zl f x).cells t))
 |.alloc t zero,_,K,U=>∀b,U.free b->∃U1,Qw (U.put b (.cells zero t)) U1/\K (.pointer (some ⟨b,0,none⟩)) U1
 |.ext x i,f,K,U=>match Zl f x with|.tuple vs=>(match vs[i]? with|some v=>Qe1 v λ v=>K v U|none=>False)|_=>False
 |.part off n x,f,K,U=>match Zl f x with|.agg cs=>K (.agg ((cs.toList.drop off).take n).toArray) U|_=>False
 |.part1 off x,f,K,U=>match Zl f x with|.agg cs=>(match cs[off]? with|some v=>Qe1 v λ v=>K v U|none=>False)|_=>False
 |.mkf fn first capt,f,K,U=>Qcs (first.toList.map (Zl f)) λ a=>Qcs (capt.toList.map (Zl f)) λ c=>K (.func fn a.toArray c.toArray) U
 |.call c args,f,K,U=>match Zl f c with
  |.func (.func g) first capt=>(P.funcs[g]?.any λ fd=>fd.body.isSome&&fd.name != "runtime.NumGoroutine")=true/\Qcs (args.toList.map (Zl f)) λ vs=>Qb S g (first.toList++vs++capt.toList).toArray (λ v U'=>Sep U'->K v U') U
  |.func (.yield l) first _=>Qcs (args.toList.map (Zl f)) λ vs=>Zh S l (first.toList++vs) K U
  |_=>False
 |.nilc x,f,K,U=>match Zl f x with|.pointer (some a)=>K (.pointer (some a)) U|_=>False
 |.sub3 sz x lo hi,f,K,U=>match Zl f x with
  |.slice a len cap=>(match Qo2 len (lo.map (Zl f)) (hi.map (Zl f))with
   |some (li,hi)=>∃l h:Nat,(li=l/\hi=h/\l<=h/\h<=cap)/\K (.slice (if cap=l then a else a.map (·.add (l*sz))) (h-l) (cap-l)) U
   |none=>False)
  |_=>False
 |.build zero parts,f,K,U=>Ze8 f parts zero.toList λ l=>K (.agg l.toArray) U
 |.bsl t len zero parts,f,K,U=>Ze8 f parts zero.toList λ l=>∀b,U.free b->∃U1,Qw (U.put b (.cells l.toArray t)) U1/\K (.slice (some ⟨b,0,none⟩) len len) U1
 |.raw o,f,K,U=>∀a:Act,(∀x,a.eval x=Zl f x)->Qr P (execOp a.eval o) (Qak S λ v U'=>∃U1,Qw U' U1/\K v U1) U
def Qxe{α:Type}(s:Sem α):s.bind Sem.pure=s:=by
 induction s with
 |pure a=>rfl
 |load m a k ih=>simp only[Sem.bind];congr 1;funext v;exact ih v
 |store m a v k ih=>simp only[Sem.bind,ih]
 |new o k ih=>simp only[Sem.bind];congr 1;funext v;exact ih v
 |shape r k ih=>simp only[Sem.bind];congr 1;funext v;exact ih v
 |freeze a n k ih=>simp only[Sem.bind,ih]
 |frozen a k ih=>simp only[Sem.bind];congr 1;funext v;exact ih v
 |getObj r k ih=>simp only[Sem.bind];congr 1;funext v;exact ih v
 |setObj r o k ih=>simp only[Sem.bind,ih]
 |choose q k ih=>simp only[Sem.bind];congr 1;funext v;exact ih v
 |sys c k ih=>simp only[Sem.bind];congr 1;funext v;exact ih v
 |program k ih=>simp only[Sem.bind];congr 1;funext v;exact ih v
 |mark m k ih=>simp only[Sem.bind,ih]
 |halt h=>rfl
def Qv5{α β γ:Type}(s:Sem α)(g:α->Sem β)(h:β->Sem γ):(s.bind g).bind h=s.bind λ a=>(g a).bind h:=by
 induction s with
 |pure a=>rfl
 |load m a k ih=>simp only[Sem.bind];congr 1;funext v;exact ih v
 |store m a v k ih=>simp only[Sem.bind,ih]
 |new o k ih=>simp only[Sem.bind];congr 1;funext v;exact ih v
 |shape r k ih=>simp only[Sem.bind];congr 1;funext v;exact ih v
 |freeze a n k ih=>simp only[Sem.bind,ih]
 |frozen a k ih=>simp only[Sem.bind];congr 1;funext v;exact ih v
 |getObj r k ih=>simp only[Sem.bind];congr 1;funext v;exact ih v
 |setObj r o k ih=>simp only[Sem.bind,ih]
 |choose q k ih=>simp only[Sem.bind];congr 1;funext v;exact ih v
 |sys c k ih=>simp only[Sem.bind];congr 1;funext v;exact ih v
 |program k ih=>simp only[Sem.bind];congr 1;funext v;exact ih v
 |mark m k ih=>simp only[Sem.bind,ih]
 |halt h=>rfl
theorem Qv6:LawfulMonad Sem:=LawfulMonad.mk' Sem (id_map:=λ s=>Qxe s) (pure_bind:=λ _ _=>rfl) (bind_assoc:=λ s g h=>Qv5 s g h)
def Qgw{α β:Type}(g:α->Sem β):List α->Array β->Sem (Array β)
 |[],acc=>pure acc
 |x::r,acc=>do let y <- g x;Qgw g r (acc.push y)
def Zn3{α β:Type}(g:α->Sem β):∀(l:List α)(acc:Array β),Qgw g l acc=(do let r <- l.mapM g;pure (acc++r.toArray)):=by
 have:=Qv6;intro l
 induction l with
 |nil=>intro acc;simp[Qgw]
 |cons x l ih=>intro acc;simp[Qgw,ih,mapM_cons]
def Q1b{α β:Type}(g:α->Sem β)(l:List α):Array.mapM g l.toArray=Qgw g l #[]:=by
 have:=Qv6;rw[Zn3];simp
def Qf{α β:Type}(s:Sem α)(g:α->Sem β)(Q:β->Qa T->Prop)(U:Qa T):Qr P (s >>= g) Q U=Qr P s (λ a U=>Qr P (g a) Q U) U:=propext (Qmw s g)
def Qi{α:Type}(a:α)(Q:α->Qa T->Prop)(U:Qa T):Qr P (pure a:Sem α) Q U=Q a U:=rfl
def Zg{t:TypeId}{d:TypeDesc}(h:P.underlying t=some d)(Q:TypeDesc->Qa T->Prop)(U:Qa T):Qr P (underlying t) Q U=Q d U:=by
 simp only[underlying,program,Qf,Qr,h,Qi]
def Wi{t:TypeId}{i:TypeInfo}(h:P.info? t=some i)(Q:TypeInfo->Qa T->Prop)(U:Qa T):Qr P (typeInfo t) Q U=Q i U:=by
 simp only[typeInfo,program,Qf,Qr,h,Qi]
def Jh{t:TypeId}{i:TypeInfo}(h:P.info? t=some i)(Q:Nat->Qa T->Prop)(U:Qa T):Qr P (sizeOf t) Q U=Q i.size U:=by
 simp only[sizeOf,Qf,Wi h,Qi]
def TypeDesc.agg:TypeDesc->Bool
 |.struct _|.array _ _=>true
 |_=>false
def Qif{t:TypeId}{d:TypeDesc}(h:P.underlying t=some d)(Q:Bool->Qa T->Prop)(U:Qa T):Qr P (isAgg t) Q U=Q (TypeDesc.agg d) U:=by
 simp only[isAgg,Qf,Zg h];cases d <;> rfl
def Qb7{t:TypeId}{i:TypeInfo}{v:Value}(h:P.info? t=some i)(hz:i.zero=some v)(Q:Value->Qa T->Prop)(U:Qa T):Qr P (zeroValue t) Q U=Q v U:=by
 simp only[zeroValue,Qf,Wi h,hz,Qi]
def Q1r{a:Addr}{v:Value}{Q:Value->Qa T->Prop}{U:Qa T}(h:U.sees a v)(hq:Q v U):Qr P (load a) Q U:=⟨rfl,v,h,hq⟩
def Qgp{a:Addr}{Q:Array Value->Qa T->Prop}{U:Qa T}:∀(vs:List Value)(i:Nat)(acc:Array Value),(∀j v,vs[j]?=some v->U.sees (a.add (i+j)) v)->Q (acc++vs.toArray) U ->
  Qr P (loadCellsFrom a i vs.length acc) Q U
 |[],i,acc,_,hq=>by simpa[loadCellsFrom,Qi]using hq
 |v::vs,i,acc,h,hq=>by
  simp only[length_cons,loadCellsFrom,Qf];refine Q1r (h 0 v rfl) (Qgp vs (i+1) (acc.push v) (λ j u hj=>?_) ?_)
  .have:=h (j+1) u hj
   rwa [show i+(j+1)=i+1+j by omega]at this
  .have e:acc.push v++vs.toArray=acc++(v::vs).toArray:=by apply Array.ext';simp
   rw[e];exact hq
def Qat{a:Addr}{Q:Unit->Qa T->Prop}:∀(vs:List Value)(i:Nat)(U:Qa T),StV a vs i (λ U'=>Q () U') U->Qr P (storeCells a vs i) Q U
 |[],_,_,h=>h
 |v::vs,i,U,h=>by
  obtain⟨hv,M',hu,h⟩:=h;simp only[storeCells,Qf,store];exact⟨rfl,hv,M',hu,Qat vs (i+1) _ h⟩
def Jk{t:TypeId}{c:Array Value}{Q:Addr->Qa T->Prop}{U:Qa T}(h:∀b,U.free b->Q ⟨b,0,none⟩ (U.put b (.cells c t))):Qr P (newRow t c) Q U:=by
 simp only[newRow,newObj,Qf,Qr,Qi];exact h
end Go.TM
