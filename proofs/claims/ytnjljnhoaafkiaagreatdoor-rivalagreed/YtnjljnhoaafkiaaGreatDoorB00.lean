/- Lemmas. No conditions. -/
import Derived.Conc.Own
import Derived.Orders
import Derived.KernelRfl
set_option linter.all false
theorem K1{α:Sort _}{a b:α}(h:a=b:=by kernel_rfl):a=b:=h
theorem R1{α:Sort _}{a:α}{p:Prop}(h:p):a=a/\p:=⟨rfl,h⟩
theorem O1{p:Prop}(h:p:=by omega):p:=h
theorem S1{p:Prop}(h:p:=by simp):p:=h
theorem T1{p:Prop}(h:p:=by trivial):p:=h
theorem D1{p:Prop}(h:p:=by decide):p:=h
theorem L1{p:Prop}(h:p:=by show _-_<_-_;omega):p:=h
theorem S2{p:Prop}(h:p:=by simp_all):p:=h
theorem S3{p:Prop}(h:p:=by simp;omega):p:=h
theorem Zz2{p:Prop}(h:p:=by simp only;omega):p:=h
theorem Zz4{α}{l:List α}{i:Nat}{a:α}(h:l[i]?=some a):i<l.length:=(List.getElem?_eq_some_iff.1 h).1
theorem Zz3{α}{l:List α}:∃x,l=x++[]:=⟨_,(List.append_nil _).symm⟩
open List
namespace Go
abbrev Value.pb(b:Nat):Value:=.pointer (some ⟨b,0,none⟩)
abbrev Value.nl:Value:=.slice none 0 0
abbrev Gr:=Goroutine
def Value.single:Value->Bool
 |.agg _|.tuple _=>false
 |_=>true
theorem _root_.Zz1{p:Prop}(h:p:=by simp[Value.single]):p:=h
end Go
namespace Go.TM
variable{T α β γ:Type}{w w' E:World}{π:Loc}{l len n j cap:Nat}{o' ε:Obj}{χ:Event}{W:Addr}{v z:Value}{args tmps:Array Value}{t e:TypeId}{P:Program}{m p:Bool}{g g':Gr}{b A:Frame}{a a_0 av ac:Act}{k u:List Item}{cs:List Frame}{c assign as:Code}{ops:Array Oper}{rest todo rl qs ts pre L:List Nat}{o:Oper}{fn:FuncId}{ro:Option Nat}{listed:Array Bool}{N:Nat->Value}{D F:Nat->Prop}{late:Nat->Bool}{fd:Func}{x y:Operand}{params:Array Tmp}{ζ η:Int}{d:TypeDesc}{θ:TypeInfo}{op:BinOp}{Z k':IntKind}{σ τ:ByteArray}{ω:Array Operand}{B:Array TypeId}{ρ:Operand->Value}{code:BoundsCode}{κ μ:Option Value}{lo hi:Option Operand}{vs:List Value}
inductive Qw where
 |obj (b:Nat) (o:Obj)
 |cell (b i:Nat) (v:Value) (T:TypeId) (n:Nat)
variable{M M':List Qw}{r s:Qw}
abbrev Qw.cl(b:Nat)(l:List Value)(t:TypeId):Qw:=.obj b (.cells l.toArray t (0,0))
def Qw.blk:Qw->Nat
 |.obj b _=>b
 |.cell b _ _ _ _=>b
def Qw.ok(w:World):Qw->Prop
 |.obj b o=>w.heap[b]?=some o
 |.cell b i v T n=>∃c,w.heap[b]?=some (.cells c T (0,0))/\c.size=n/\c[i]?=some v
def Qw.apart:Qw->Qw->Prop
 |.cell b i _ _ _,.cell c j _ _ _=>b≠c\/i≠j
 |r,s=>r.blk≠s.blk
structure Qa(T:Type) where
 I:Nat->Option Obj
 M:List Qw
 tok:T
variable{U U' U₀:Qa T}{ψ:α->Qa T->Prop}{K R':Value->Qa T->Prop}{V:Act->Qa T->Prop}{G:Qa T->Prop}{υ:Addr->Qa T->Prop}{δ:Unit->Qa T->Prop}{φ:Nat->Qa T->Prop}{I:Nat×Nat×Nat->Qa T->Prop}{ν:Array (Nat×Nat)->Qa T->Prop}{ξ:Array Value->Qa T->Prop}
structure Qa.ok(U:Qa T)(w:World):Prop where
 imm:∀b o,U.I b=some o->w.heap[b]?=some o
 held:∀r∈U.M,r.ok w
 apart:U.M.Pairwise Qw.apart
 sep:∀r∈U.M,U.I r.blk=none
def Qa.canW(U:Qa T):Loc->Prop
 |.cell a=>(∃c t fr,Qw.obj a.block (.cells c t fr)∈U.M/\a.off<c.size)\/(∃v t n,Qw.cell a.block a.off v t n∈U.M)
 |.obj b=>∃o,Qw.obj b o∈U.M
 |_=>False
def Qa.canR(U:Qa T):Loc->Prop
 |.cell a=>U.canW (.cell a)\/∃c t fr,U.I a.block=some (.cells c t fr)/\a.off<c.size
 |.obj b=>U.canW (.obj b)\/∃o,U.I b=some o
 |_=>False
def Loc.new(w:World):Loc->Prop
 |.cell a=>w.heap.size<=a.block
 |.obj b=>w.heap.size<=b
 |_=>False
def Mark.still:Mark->Bool
 |.acquire _|.release _|.releaseMerge _|.disable|.enable|.read _|.write _=>false
 |_=>true
def JY(U:Qa T)(w:World)(e:Event):Prop:=
 match e.loc with
 |.cell a=>e.sync=false/\(if e.write then U.canW (.cell a)\/Loc.new w (.cell a)else U.canR (.cell a)\/Loc.new w (.cell a))
 |.obj b=>e.sync=false/\(if e.write then U.canW (.obj b)\/Loc.new w (.obj b)else U.canR (.obj b)\/Loc.new w (.obj b))
 |.mark m=>Mark.still m=true
 |_=>False
def WA(o o':Os):Prop:=∃d:Nat,o'={ o with wall:=o.wall+d,mono:=o.mono+d }
def WA.refl(o:Os):WA o o:=⟨0,rfl⟩
def WA.trans{a b c:Os}(h:WA a b)(k:WA b c):WA a c:=by
 obtain⟨d,rfl⟩:=h;obtain⟨e,rfl⟩:=k;exact⟨d+e,by simp[Nat.add_assoc]⟩
structure ZQ(U:Qa T)(w w':World)(U':Qa T):Prop where
 os:WA w.os w'.os
 tape:w'.tape=w.tape
 output:w'.output=w.output
 size:w.heap.size<=w'.heap.size
 cells:∀b c t fr,w.heap[b]?=some (.cells c t fr)->∃c' fr',w'.heap[b]?=some (.cells c' t fr')/\c'.size=c.size/\(∀i,¬U.canW (.cell ⟨b,i,none⟩)->c'[i]?=c[i]?)/\(fr'=fr\/(U.canW (.obj b)/\∀i,i<c.size->U.canW (.cell ⟨b,i,none⟩)))
 objs:∀b o,w.heap[b]?=some o->(∀c t fr,o≠.cells c t fr)->¬U.canW (.obj b)->w'.heap[b]?=some o
 cw:∀l,U'.canW l->U.canW l\/Loc.new w l
 cr:∀l,U'.canR l->U.canR l\/Loc.new w l
def ZQ.refl(U:Qa T)(w:World):ZQ U w w U:=
 ⟨.refl _,rfl,rfl,Nat.le_refl _,λ _ c _ fr h=>⟨c,fr,h,rfl,λ _ _=>rfl,.inl rfl⟩,λ _ _ h _ _=>h,λ _ h=>.inl h,λ _ h=>.inl h⟩
def Loc.new_mono(h:w.heap.size<=w'.heap.size)(hl:Loc.new w' π):Loc.new w π:=by
 cases π <;> simp_all[Loc.new] <;> omega
def DO(h:w.heap[l]?=some o')(i:Nat):¬Loc.new w (.cell ⟨l,i,none⟩):=by
 have:=(Array.getElem?_eq_some_iff.1 h).1;simp[Loc.new];omega
def DU(h:w.heap[l]?=some o'):¬Loc.new w (.obj l):=by
 have:=(Array.getElem?_eq_some_iff.1 h).1;simp[Loc.new];omega
def ZQ.trans{U Y Z:Qa T}{w L M:World}(h:ZQ U w L Y)(k:ZQ Y L M Z):ZQ U w M Z:=by
 refine⟨h.os.trans k.os,k.tape.trans h.tape,k.output.trans h.output,Nat.le_trans h.size k.size,?_,?_,?_,?_⟩
 .intro b c t fr hb;obtain⟨N,Q,F,E,G,H⟩:=h.cells b c t fr hb;obtain⟨P,S,V,K,W,I⟩:=k.cells b N t Q F;refine⟨P,S,V,K.trans E,λ i hi=>?_,?_⟩
  .rw[W i λ f=>?_,G i hi];rcases h.cw _ f with f|f
   .exact hi f
   .exact DO hb i f
  .rcases I with rfl|⟨ho,hi⟩
   .exact H
   .refine .inr ⟨?_,λ i X=>?_⟩
    .rcases h.cw _ ho with f|f
     .exact f
     .exact absurd f (DU hb)
    .rcases h.cw _ (hi i (by rw[E];exact X))with f|f
     .exact f
     .exact absurd f (DO hb i)
 .intro b o hb hne f;have F:=h.objs b o hb hne f;refine k.objs b o F hne λ B=>?_;rcases h.cw _ B with B|B
  .exact f B
  .exact DU hb B
 .intro l hl;rcases k.cw l hl with hl|hl
  .exact h.cw l hl
  .exact .inr (Loc.new_mono h.size hl)
 .intro l hl;rcases k.cr l hl with hl|hl
  .exact h.cr l hl
  .exact .inr (Loc.new_mono h.size hl)
def JY.of{F:Qa T}(h:ZQ U w E F)(f:JY F E χ):JY U w χ:=by
 obtain⟨loc,wr,G⟩:=χ;cases loc with
 |cell a=>
  simp only[JY]at f ⊢;refine⟨f.1,?_⟩;have h2:=f.2;split at h2 <;> rename_i B <;> simp only[B,if_true,if_false,Bool.false_eq_true]
  .rcases h2 with h2|h2
   .exact h.cw _ h2
   .exact .inr (Loc.new_mono h.size h2)
  .rcases h2 with h2|h2
   .exact h.cr _ h2
   .exact .inr (Loc.new_mono h.size h2)
 |obj b=>
  simp only[JY]at f ⊢;refine⟨f.1,?_⟩;have h2:=f.2;split at h2 <;> rename_i B <;> simp only[B,if_true,if_false,Bool.false_eq_true]
  .rcases h2 with h2|h2
   .exact h.cw _ h2
   .exact .inr (Loc.new_mono h.size h2)
  .rcases h2 with h2|h2
   .exact h.cr _ h2
   .exact .inr (Loc.new_mono h.size h2)
 |output=>exact f
 |goroutines=>exact f
 |mark m=>exact f
def Qa.sees(U:Qa T)(a:Addr)(v:Value):Prop:=
 a.spot=none/\((∃c t fr,(U.I a.block=some (.cells c t fr)\/Qw.obj a.block (.cells c t fr)∈U.M)/\c[a.off]?=some v)\/(∃t n,Qw.cell a.block a.off v t n∈U.M))
def Qa.has(U:Qa T)(b:Nat)(o:Obj):Prop:=U.I b=some o\/Qw.obj b o∈U.M
inductive XH(a:Addr)(v:Value):List Qw->List Qw->Prop
 |obj {a1 a4 i}:a.spot=none->a.off<a1.size->XH a v (.obj a.block (.cells a1 a4 (0,0))::i) (.obj a.block (.cells (a1.setIfInBounds a.off v) a4 (0,0))::i)
 |cell {a5 a4 a2 i}:a.spot=none->XH a v (.cell a.block a.off a5 a4 a2::i) (.cell a.block a.off v a4 a2::i)
 |there {a3 i a0}:XH a v i a0->XH a v (a3::i) (a3::a0)
inductive J0(b:Nat)(o':Obj):Obj->List Qw->List Qw->Prop
 |here {a1 i}:J0 b o' a1 (.obj b a1::i) (.obj b o'::i)
 |there {a1 a2 i a0}:J0 b o' a1 i a0->J0 b o' a1 (a2::i) (a2::a0)
def Obj.shapeOf:Obj->Option (TypeId×Nat)
 |.cells c t _=>some (t,c.size)
 |_=>none
def Obj.isCells:Obj->Bool
 |.cells ..=>true
 |_=>false
def Qa.put(U:Qa T)(b:Nat)(o:Obj):Qa T:={ U with M:=.obj b o::U.M }
def Qa.free(U:Qa T)(b:Nat):Prop:=U.I b=none/\∀r∈U.M,r.blk≠b
def Qq(P:Program){α:Type}:Sem α->(α->Qa T->Prop)->Qa T->Prop
 |.pure a,Q,U=>Q a U
 |.load m a k,Q,U=>m=.plain/\∃v,U.sees a v/\Qq P (k v) Q U
 |.store m a v k,Q,U=>m=.plain/\v.single=true/\∃M',XH a v U.M M'/\Qq P k Q { U with M:=M' }
 |.new o k,Q,U=>∀b,U.free b->Qq P (k b) Q (U.put b o)
 |.shape r k,Q,U=>∃o,U.has r o/\Qq P (k (Obj.shapeOf o)) Q U
 |.freeze a n k,Q,U=>n≠0/\∃c t M',U.M=.obj a.block (.cells c t (0,0))::M'/\Qq P k Q { U with M:=.obj a.block (.cells c t (a.off,a.off+n))::M' }
 |.frozen a k,Q,U=>∃c t,U.has a.block (.cells c t (0,0))/\Qq P (k false) Q U
 |.getObj r k,Q,U=>∃o,U.has r o/\Obj.isCells o=false/\o.isChan=false/\Qq P (k o) Q U
 |.setObj r o k,Q,U=>∃f M',J0 r o f U.M M'/\Obj.isCells f=false/\Obj.isCells o=false/\o.isChan=false/\Qq P k Q { U with M:=M' }
 |.choose q k,Q,U=>if q.forced then Qq P (k 0) Q U else ∀t,Qq P (k (q.cut t)) Q U
 |.sys _ _,_,_=>False
 |.program k,Q,U=>Qq P (k P) Q U
 |.mark m k,Q,U=>Mark.still m=true/\Qq P k Q U
 |.halt _,_,_=>False
def Qa.sees_cell(h:U.ok w)(B:U.sees W v):w.cell? W=some v/\U.canR (.cell W):=by
 obtain⟨b,⟨c,t,fr,hb,f⟩|⟨t,n,hm⟩⟩:=B
 .have hlt:W.off<c.size:=(Array.getElem?_eq_some_iff.1 f).1;rcases hb with hb|hb
  .exact⟨by simp[World.cell?,h.imm _ _ hb,b,f],.inr ⟨c,t,fr,hb,hlt⟩⟩
  .have:=h.held _ hb;simp only[Qw.ok]at this;exact⟨by simp[World.cell?,this,b,f],.inl (.inl ⟨c,t,fr,hb,hlt⟩)⟩
 .obtain⟨c,hb,_,f⟩:=h.held _ hm;exact⟨by simp[World.cell?,hb,b,f],.inl (.inr ⟨v,t,n,hm⟩)⟩
def Qa.has_heap(h:U.ok w)(f:U.has l o'):w.heap[l]?=some o':=by
 rcases f with f|f
 .exact h.imm _ _ f
 .exact h.held _ f
def jg(w:World)(a:Addr)(v:Value)(c:Array Value)(t:TypeId)(fr:Nat×Nat)(b:a.spot=none)(h:w.heap[a.block]?=some (.cells c t fr)) :
  (w.setCell a v).heap[a.block]?=some (.cells (c.setIfInBounds a.off v) t fr):=by
 simp[World.setCell,Array.getElem?_modify,h,b]
def Wu(w:World)(a:Addr)(v:Value)(h:l≠a.block):(w.setCell a v).heap[l]?=w.heap[l]?:=by
 simp only[World.setCell,Array.getElem?_modify];rw[if_neg (λ e=>h e.symm)]
def jh(w:World)(a:Addr)(v:Value):(w.setCell a v).heap.size=w.heap.size:=by simp[World.setCell]
inductive WJ(a:Addr)(v:Value):Qw->Qw->Prop
 |obj {a0 a1 a3}:a0=a.block->a.spot=none->a.off<a1.size->WJ a v (.obj a0 (.cells a1 a3 (0,0))) (.obj a0 (.cells (a1.setIfInBounds a.off v) a3 (0,0)))
 |cell {a0 i a4 a3 a2}:a0=a.block->i=a.off->a.spot=none->WJ a v (.cell a0 i a4 a3 a2) (.cell a0 i v a3 a2)
def XH.split(h:XH W v M M'):∃M₁ r f M₂,M=M₁++r::M₂/\M'=M₁++f::M₂/\WJ W v r f:=by
 induction h with
 |obj b w=>exact⟨[],_,_,_,rfl,rfl,.obj rfl b w⟩
 |cell b=>exact⟨[],_,_,_,rfl,rfl,.cell rfl rfl b⟩
 |there _ B=>obtain⟨M₁,r,f,M₂,rfl,rfl,hl⟩:=B;exact⟨_::M₁,r,f,M₂,rfl,rfl,hl⟩
def J0.split(h:J0 l o' ε M M'):∃M₁ M₂,M=M₁++.obj l ε::M₂/\M'=M₁++.obj l o'::M₂:=by
 induction h with
 |here=>exact⟨[],_,rfl,rfl⟩
 |there _ f=>obtain⟨M₁,M₂,rfl,rfl⟩:=f;exact⟨_::M₁,M₂,rfl,rfl⟩
def WJ.blk{a:Addr}{v:Value}{r s:Qw}(h:WJ a v r s):s.blk=r.blk:=by cases h <;> rfl
def WJ.blk'(h:WJ W v r s):r.blk=W.block:=by cases h <;> simp_all[Qw.blk]
def WJ.apart{a:Addr}{v:Value}{r s:Qw}(h:WJ a v r s)(x:Qw):s.apart x↔r.apart x:=by
 cases h <;> cases x <;> simp[Qw.apart,Qw.blk]
def Qw.apart_symm(h:r.apart s):s.apart r:=by
 cases r <;> cases s <;> simp_all[Qw.apart,Qw.blk,eq_comm]
def WJ.apart'(h:WJ W v r s)(x:Qw):x.apart s↔x.apart r:=
 ⟨λ k=>Qw.apart_symm ((h.apart x).1 (Qw.apart_symm k)),λ k=>Qw.apart_symm ((h.apart x).2 (Qw.apart_symm k))⟩
def Qw.lets:Qw->Loc->Prop
 |.obj b (.cells c _ _),.cell a=>a.block=b/\a.off<c.size
 |.cell b i _ _ _,.cell a=>a.block=b/\a.off=i
 |.obj b _,.obj f=>f=b
 |_,_=>False
def Q4{l:Loc}:U.canW l↔∃r∈U.M,r.lets l:=by
 cases l with
 |cell a=>
  simp only[Qa.canW];constructor
  .rintro(⟨c,t,fr,hm,f⟩|⟨v,t,n,hm⟩)
   .exact⟨_,hm,rfl,f⟩
   .exact⟨_,hm,rfl,rfl⟩
  .rintro⟨r,hr,hl⟩;cases r with
   |obj b o=>
    cases o <;> simp only[Qw.lets]at hl;obtain⟨rfl,f⟩:=hl;exact .inl ⟨_,_,_,hr,f⟩
   |cell b i v t n=>
    simp only[Qw.lets]at hl;obtain⟨rfl,rfl⟩:=hl;exact .inr ⟨_,_,_,hr⟩
 |obj b=>
  simp only[Qa.canW];constructor
  .rintro⟨o,h⟩;exact⟨_,h,by cases o <;> rfl⟩
  .rintro⟨r,hr,hl⟩;cases r with
   |obj w o=>refine⟨o,?_⟩;cases o <;> (simp only[Qw.lets]at hl;exact hl▸hr)
   |cell w i v t n=>exact hl.elim
 |output=>simp[Qa.canW];intro r _ h;cases r with|obj b o=>cases o <;> exact h|cell=>exact h
 |goroutines=>simp[Qa.canW];intro r _ h;cases r with|obj b o=>cases o <;> exact h|cell=>exact h
 |mark _=>simp[Qa.canW];intro r _ h;cases r with|obj b o=>cases o <;> exact h|cell=>exact h
def WJ.lets{a:Addr}{v:Value}{r s:Qw}(h:WJ a v r s)(l:Loc):s.lets l↔r.lets l:=by
 cases h <;> cases l <;> simp[Qw.lets]
def WJ.canAt(h:WJ W v r s):r.lets (.cell W):=by
 cases h <;> simp_all[Qw.lets]
def Qx:U.canR π↔(∃r∈U.M,r.lets π)\/(match π with|.cell a=>∃c t fr,U.I a.block=some (.cells c t fr)/\a.off<c.size|.obj b=>∃o,U.I b=some o|_=>False):=by
 have:=Q4 (U:=U) (l:=π);cases π <;> simp only[Qa.canR,<- this] <;> simp[Qa.canW]
def jv(h:U.ok w){a:Addr}(hu:XH a v U.M M') :
  (∃u,w.cell? a=some u)/\w.frozen? a=false/\U.canW (.cell a)/\Qa.ok { U with M:=M' } (w.setCell a v)/\ZQ U w (w.setCell a v) { U with M:=M' }:=by
 obtain⟨M₁,r,Z,M₂,P,rfl,hl⟩:=hu.split;have V:r∈U.M:=by rw[P];simp
 have Y:U.canW (.cell a):=Q4.2 ⟨r,V,hl.canAt⟩;have K:=h.held r V;have W:a.spot=none:=by cases hl <;> assumption
 obtain⟨c,t,hb,N⟩:∃c t,w.heap[a.block]?=some (.cells c t (0,0))/\a.off<c.size:=by
  cases hl with
  |obj e _ N=>subst e;exact⟨_,_,K,N⟩
  |cell e e' _=>subst e;subst e';obtain⟨c,hb,_,hc⟩:=K;exact⟨c,_,hb,(Array.getElem?_eq_some_iff.1 hc).1⟩
 have G:=jg w a v c t (0,0) W hb
 have H:∀l,(∃s∈M₁++Z::M₂,s.lets l)↔∃s∈U.M,s.lets l:=by
  intro l;rw[P];simp only[mem_append,mem_cons];constructor
  .rintro⟨s,B|rfl|B,hl'⟩
   .exact⟨s,.inl B,hl'⟩
   .exact⟨r,.inr (.inl rfl),(hl.lets l).1 hl'⟩
   .exact⟨s,.inr (.inr B),hl'⟩
  .rintro⟨s,B|rfl|B,hl'⟩
   .exact⟨s,.inl B,hl'⟩
   .exact⟨Z,.inr (.inl rfl),(hl.lets l).2 hl'⟩
   .exact⟨s,.inr (.inr B),hl'⟩
 have f:=h.apart;rw[P]at f;refine⟨⟨c[a.off],by simp[World.cell?,hb,W,N]⟩,by simp[World.frozen?,hb],Y,⟨?_,?_,?_,?_⟩,?_⟩
 .intro b o hI
  have E:b≠a.block:=by
   intro e;have:=h.sep r V;rw[hl.blk',<- e,hI]at this;cases this
  rw[Wu _ _ _ E];exact h.imm b o hI
 .intro s B;simp only[mem_append,mem_cons]at B
  have L:∀s,s∈U.M->r.apart s->s.ok (w.setCell a v):=by
   intro s B f;have S:=h.held s B;cases s with
   |obj b o=>
    have E:b≠a.block:=by
     cases hl <;> simp_all[Qw.apart,Qw.blk] <;> exact λ e=>f e.symm
    simp only[Qw.ok]at S ⊢;rw[Wu _ _ _ E];exact S
   |cell b i u t' n=>
    obtain⟨c',F,X,Q⟩:=S;by_cases E:b=a.block
    .subst E;cases hl with
     |obj e _ _=>exact absurd e.symm (by simpa[Qw.apart,Qw.blk]using λ e=>f e.symm)
     |cell e e' _=>
      have hi:i≠a.off:=by
       simp[Qw.apart]at f;rcases f with f|f
       .exact absurd e f
       .exact λ x=>f (e'.trans x.symm)
      rw[hb]at F;cases F;refine⟨c.setIfInBounds a.off v,G,by simpa using X,?_⟩;rw[Array.getElem?_setIfInBounds_ne (λ x=>hi x.symm)];exact Q
    .exact⟨c',by rw[Wu _ _ _ E];exact F,X,Q⟩
  rw[pairwise_append,pairwise_cons]at f;rcases B with B|rfl|B
  .exact L s (by rw[P];simp[B]) (Qw.apart_symm (f.2.2 s B r S1))
  .cases hl with
   |obj e _ _=>subst e;simp only[Qw.ok]at K ⊢;rw[K]at hb;cases hb;exact G
   |cell e e' _=>
    subst e;subst e';obtain⟨c',F,X,Q⟩:=K;rw[hb]at F;cases F;exact⟨_,G,by simpa using X,by rw[Array.getElem?_setIfInBounds_self_of_lt N]⟩
  .exact L s (by rw[P];simp[B]) (f.2.1.1 s B)
 .show Pairwise Qw.apart (M₁++Z::M₂);rw[pairwise_append,pairwise_cons]at f ⊢;refine⟨f.1,⟨λ s B=>(hl.apart s).2 (f.2.1.1 s B),f.2.1.2⟩,λ s B x hx=>?_⟩;rcases mem_cons.1 hx with rfl|hx
  .exact(hl.apart' s).2 (f.2.2 s B r S1)
  .exact f.2.2 s B x (by simp[hx])
 .intro s B;show U.I s.blk=none;simp only[mem_append,mem_cons]at B;rcases B with B|rfl|B
  .exact h.sep s (by rw[P];simp[B])
  .rw[hl.blk];exact h.sep r V
  .exact h.sep s (by rw[P];simp[B])
 .refine⟨.refl _,rfl,rfl,by rw[jh];exact Nat.le_refl _,?_,?_,?_,?_⟩
  .intro b c' t' fr F;by_cases E:b=a.block
   .subst E;rw[hb]at F;cases F;refine⟨_,_,G,S1,λ i hi=>?_,.inl rfl⟩;rw[Array.getElem?_setIfInBounds_ne];rintro rfl;refine hi (Q4.2 ⟨r,V,?_⟩);have:=hl.canAt;cases hl <;> simp_all[Qw.lets]
   .exact⟨c',fr,by rw[Wu _ _ _ E];exact F,rfl,λ _ _=>rfl,.inl rfl⟩
  .intro b o ho E _;by_cases e:b=a.block
   .subst e;rw[hb]at ho;cases ho;exact absurd rfl (E _ _ _)
   .rw[Wu _ _ _ e];exact ho
  .intro l hl';rw[Q4]at hl' ⊢;exact .inl ((H l).1 hl')
  .intro l hl';rw[Qx]at hl' ⊢;exact .inl (hl'.imp (H l).1 id)
def World.plus(w:World)(o:Obj):World:={ w with heap:=w.heap.push o }
def vX(h:U.ok w)(o:Obj) :
  U.free w.heap.size/\Qa.ok (U.put w.heap.size o) (World.plus w o)/\ZQ U w (World.plus w o) (U.put w.heap.size o):=by
 have B:∀b,b<w.heap.size->(World.plus w o).heap[b]?=w.heap[b]?:=λ b hb=>by
  simp only[World.plus,Array.getElem?_push];rw[if_neg O1]
 have F:∀r∈U.M,r.blk<w.heap.size:=by
  intro r f;have:=h.held r f;cases r with
  |obj b o=>exact(Array.getElem?_eq_some_iff.1 this).1
  |cell b i v t n=>obtain⟨c,hb,_⟩:=this;exact(Array.getElem?_eq_some_iff.1 hb).1
 have E:U.free w.heap.size:=by
  refine⟨?_,λ r f e=>by have:=F r f;omega⟩;cases e:U.I w.heap.size with
  |none=>rfl
  |some x=>have:=(Array.getElem?_eq_some_iff.1 (h.imm _ _ e)).1;omega
 have G:∀b o',U.I b=some o'->b<w.heap.size:=λ b o' e=>(Array.getElem?_eq_some_iff.1 (h.imm _ _ e)).1;refine⟨E,⟨λ b o' e=>by rw[B _ (G b o' e)];exact h.imm b o' e,?_,?_,?_⟩,?_⟩
 .intro r f;rcases mem_cons.1 f with rfl|f
  .simp[Qw.ok,World.plus]
  .have:=h.held r f;cases r with
   |obj b o'=>exact(B b (F _ f)).trans this
   |cell b i v t n=>obtain⟨c,hb,x⟩:=this;exact⟨c,(B b (F _ f)).trans hb,x⟩
 .refine pairwise_cons.2 ⟨λ r f=>?_,h.apart⟩;have:=F r f;cases r <;> simp_all[Qw.apart,Qw.blk] <;> omega
 .intro r f;rcases mem_cons.1 f with rfl|f
  .exact E.1
  .exact h.sep r f
 .refine⟨.refl _,rfl,rfl,by simp[World.plus],?_,?_,?_,?_⟩
  .intro b c t fr hb;exact⟨c,fr,by rw[B _ (Array.getElem?_eq_some_iff.1 hb).1];exact hb,rfl,λ _ _=>rfl,.inl rfl⟩
  .intro b o' hb _ _;rw[B _ (Array.getElem?_eq_some_iff.1 hb).1];exact hb
  .intro l hl;rw[Q4]at hl ⊢;obtain⟨r,f,hl⟩:=hl;rcases mem_cons.1 f with rfl|f
   .refine .inr ?_;cases l <;> cases o <;> simp_all[Qw.lets,Loc.new]
   .exact .inl ⟨r,f,hl⟩
  .intro l hl;rw[Qx]at hl ⊢;rcases hl with⟨r,f,hl⟩|hl
   .rcases mem_cons.1 f with rfl|f
    .refine .inr ?_;cases l <;> cases o <;> simp_all[Qw.lets,Loc.new]
    .exact .inl (.inl ⟨r,f,hl⟩)
   .exact .inl (.inr hl)
def xy(h:U.ok w)(hu:J0 len o' ε U.M M')(h1:Obj.isCells ε=false)(h2:Obj.isCells o'=false) :
  w.heap[len]?=some ε/\U.canW (.obj len)/\Qa.ok { U with M:=M' } { w with heap:=w.heap.setIfInBounds len o' }/\ZQ U w { w with heap:=w.heap.setIfInBounds len o' } { U with M:=M' }:=by
 obtain⟨M₁,M₂,N,rfl⟩:=hu.split;have V:Qw.obj len ε∈U.M:=by rw[N];simp
 have hb:w.heap[len]?=some ε:=h.held _ V;have X:=(Array.getElem?_eq_some_iff.1 hb).1;have Q:U.canW (.obj len):=⟨ε,V⟩;have f:=h.apart;rw[N]at f
 have E:∀x,x≠len->(w.heap.setIfInBounds len o')[x]?=w.heap[x]?:=λ x hx=>by
  rw[Array.getElem?_setIfInBounds_ne (λ e=>hx e.symm)]
 have H:∀l,(Qw.obj len o').lets l↔(Qw.obj len ε).lets l:=by
  intro l;cases ε <;> cases o' <;> simp_all[Obj.isCells] <;> cases l <;> simp[Qw.lets]
 have L:∀l,(∃s∈M₁++Qw.obj len o'::M₂,s.lets l)↔∃s∈U.M,s.lets l:=by
  intro l;rw[N];simp only[mem_append,mem_cons];constructor
  .rintro⟨s,B|rfl|B,hl'⟩
   .exact⟨s,.inl B,hl'⟩
   .exact⟨_,.inr (.inl rfl),(H l).1 hl'⟩
   .exact⟨s,.inr (.inr B),hl'⟩
  .rintro⟨s,B|rfl|B,hl'⟩
   .exact⟨s,.inl B,hl'⟩
   .exact⟨_,.inr (.inl rfl),(H l).2 hl'⟩
   .exact⟨s,.inr (.inr B),hl'⟩
 have P:∀x,(Qw.obj len o').apart x↔(Qw.obj len ε).apart x:=λ x=>by cases x <;> simp[Qw.apart,Qw.blk]
 refine⟨hb,Q,⟨?_,?_,?_,?_⟩,?_⟩
 .intro x Y hI;have F:x≠len:=by rintro rfl;have:=h.sep _ V;simp only[Qw.blk]at this;rw[hI]at this;cases this
  show(w.heap.setIfInBounds len o')[x]?=_;rw[E x F];exact h.imm x Y hI
 .intro s B
  have K:∀s,s∈U.M->(Qw.obj len ε).apart s->s.ok { w with heap:=w.heap.setIfInBounds len o' }:=by
   intro s B f;have S:=h.held s B;cases s with
   |obj x Y=>
    have F:x≠len:=by simp[Qw.apart,Qw.blk]at f;exact λ e=>f e.symm
    show(w.heap.setIfInBounds len o')[x]?=_;rw[E x F];exact S
   |cell x i u t n=>
    have F:x≠len:=by simp[Qw.apart,Qw.blk]at f;exact λ e=>f e.symm
    obtain⟨c',G,Z,W⟩:=S;exact⟨c',(E x F).trans G,Z,W⟩
  simp only[mem_append,mem_cons]at B;rw[pairwise_append,pairwise_cons]at f;rcases B with B|rfl|B
  .exact K s (by rw[N];simp[B]) (Qw.apart_symm (f.2.2 s B _ S1))
  .show(w.heap.setIfInBounds len o')[len]?=_;rw[Array.getElem?_setIfInBounds_self_of_lt X]
  .exact K s (by rw[N];simp[B]) (f.2.1.1 s B)
 .show Pairwise Qw.apart (M₁++Qw.obj len o'::M₂);rw[pairwise_append,pairwise_cons]at f ⊢;refine⟨f.1,⟨λ s B=>(P s).2 (f.2.1.1 s B),f.2.1.2⟩,λ s B x hx=>?_⟩;rcases mem_cons.1 hx with rfl|hx
  .exact Qw.apart_symm ((P s).2 (Qw.apart_symm (f.2.2 s B _ S1)))
  .exact f.2.2 s B x (by simp[hx])
 .intro s B;show U.I s.blk=none;simp only[mem_append,mem_cons]at B;rcases B with B|rfl|B
  .exact h.sep s (by rw[N];simp[B])
  .exact(h.sep _ V:U.I len=none)
  .exact h.sep s (by rw[N];simp[B])
 .refine⟨.refl _,rfl,rfl,S1,?_,?_,?_,?_⟩
  .intro x c' t' fr G;by_cases e:x=len
   .subst e;rw[hb]at G;cases G;simp[Obj.isCells]at h1
   .exact⟨c',fr,(E x e).trans G,rfl,λ _ _=>rfl,.inl rfl⟩
  .intro x Y ho F hw;by_cases e:x=len
   .subst e;exact absurd Q hw
   .exact(E x e).trans ho
  .intro l hl';rw[Q4]at hl' ⊢;exact .inl ((L l).1 hl')
  .intro l hl';rw[Qx]at hl' ⊢;exact .inl (hl'.imp (L l).1 id)
def Er(w:World)(a:Addr)(n:Nat)(b:n≠0)(c:Array Value)(t:TypeId)(h:w.heap[a.block]?=some (.cells c t (0,0))):(w.freeze a n).heap[a.block]?=some (.cells c t (a.off,a.off+n)):=by
 simp[World.freeze,b,Array.getElem?_modify,h]
def W3(w:World)(a:Addr)(n:Nat)(h:l≠a.block):(w.freeze a n).heap[l]?=w.heap[l]?:=by
 unfold World.freeze;split
 .rfl
 .simp only[Array.getElem?_modify];rw[if_neg (λ e=>h e.symm)]
def N6(w:World)(a:Addr)(n:Nat):(w.freeze a n).heap.size=w.heap.size:=by unfold World.freeze;split <;> simp
def OJ(w:World)(a:Addr)(n:Nat):(w.freeze a n).os=w.os/\(w.freeze a n).tape=w.tape/\(w.freeze a n).output=w.output:=by unfold World.freeze;split <;> exact⟨rfl,rfl,rfl⟩
def xx(h:U.ok w)(P:n≠0)(H:U.M=.obj W.block (.cells args t (0,0))::M') :
  Qa.ok { U with M:=.obj W.block (.cells args t (W.off,W.off+n))::M' } (w.freeze W n)/\ZQ U w (w.freeze W n) { U with M:=.obj W.block (.cells args t (W.off,W.off+n))::M' }:=by
 have K:Qw.obj W.block (.cells args t (0,0))∈U.M:=by rw[H];simp
 have hb:w.heap[W.block]?=some (.cells args t (0,0)):=h.held _ K;have F:=h.apart;rw[H,pairwise_cons]at F;have B:∀l,(Qw.obj W.block (.cells args t (W.off,W.off+n))).lets l↔(Qw.obj W.block (.cells args t (0,0))).lets l:=λ l=>by cases l <;> rfl
 have E:∀l,(∃s∈Qw.obj W.block (.cells args t (W.off,W.off+n))::M',s.lets l)↔∃s∈U.M,s.lets l:=by
  intro l;rw[H];constructor
  .rintro⟨s,f,hl⟩;rcases mem_cons.1 f with rfl|f
   .exact⟨_,mem_cons_self ..,(B l).1 hl⟩
   .exact⟨s,mem_cons_of_mem _ f,hl⟩
  .rintro⟨s,f,hl⟩;rcases mem_cons.1 f with rfl|f
   .exact⟨_,mem_cons_self ..,(B l).2 hl⟩
   .exact⟨s,mem_cons_of_mem _ f,hl⟩
 have ne:∀r∈M',r.blk≠W.block:=λ r G e=>by
  have:=F.1 r G;cases r <;> simp_all[Qw.apart,Qw.blk]
 refine⟨⟨λ b o N=>?_,λ s f=>?_,?_,λ s f=>?_⟩,?_⟩
 .have:b≠W.block:=by rintro rfl;have:=h.sep _ K;simp only[Qw.blk]at this;rw[N]at this;cases this
  rw[W3 _ _ _ this];exact h.imm b o N
 .rcases mem_cons.1 f with rfl|f
  .exact Er w W n P args t hb
  .have hne:=ne s f;have L:=h.held s (by rw[H];simp[f]);cases s with
   |obj b o=>exact(W3 w W n hne).trans L
   |cell b i v t n'=>obtain⟨c',h1,h2⟩:=L;exact⟨c',(W3 w W n hne).trans h1,h2⟩
 .show Pairwise Qw.apart (_::M');rw[pairwise_cons];refine⟨λ r G=>?_,F.2⟩;have:=ne r G;cases r <;> simp_all[Qw.apart,Qw.blk] <;> exact λ e=>this e.symm
 .rcases mem_cons.1 f with rfl|f
  .exact(h.sep _ K:U.I W.block=none)
  .exact h.sep s (by rw[H];simp[f])
 .refine⟨by rw[(OJ w W n).1];exact .refl _,(OJ w W n).2.1,(OJ w W n).2.2,by rw[N6];exact Nat.le_refl _,?_,?_,?_,?_⟩
  .intro b c' t' fr hb';by_cases e:b=W.block
   .subst e;rw[hb]at hb';cases hb';exact⟨args,_,Er w W n P args t hb,rfl,λ _ _=>rfl,.inr ⟨Q4.2 ⟨_,K,rfl⟩,λ i hi=>Q4.2 ⟨_,K,rfl,hi⟩⟩⟩
   .exact⟨c',fr,by rw[W3 _ _ _ e];exact hb',rfl,λ _ _=>rfl,.inl rfl⟩
  .intro b o ho hne _;by_cases e:b=W.block
   .subst e;rw[hb]at ho;cases ho;exact absurd rfl (hne _ _ _)
   .rw[W3 _ _ _ e];exact ho
  .intro l hl;rw[Q4]at hl ⊢;exact .inl ((E l).1 hl)
  .intro l hl;rw[Qx]at hl ⊢;exact .inl (hl.imp (E l).1 id)
def Dq(h:U.ok w)(d:Nat):U.ok { w with drawn:=d }:=⟨h.imm,h.held,h.apart,h.sep⟩
def Oi(U:Qa T)(w:World)(d:Nat):ZQ U w { w with drawn:=d } U:=
 ⟨.refl _,rfl,rfl,Nat.le_refl _,λ _ c _ fr h=>⟨c,fr,h,rfl,λ _ _=>rfl,.inl rfl⟩,λ _ _ h _ _=>h,λ _ h=>.inl h,λ _ h=>.inl h⟩
def XU(w:World)(e:Event):Prop:=
 match e.loc with
 |.cell a=>a.block<w.heap.size
 |.obj b=>b<w.heap.size
 |_=>True
def XU.mono(h:XU w χ)(b:w.heap.size<=w'.heap.size):XU w' χ:=by
 obtain⟨loc,wr,f⟩:=χ;cases loc <;> simp only[XU]at h ⊢ <;> omega
def I_(h:w.cell? W=some v):W.block<w.heap.size:=by
 apply Classical.byContradiction;intro b;have:w.heap[W.block]?=none:=Array.getElem?_eq_none (Nat.le_of_not_lt b);simp[World.cell?,this]at h
def Qq.sound(s:Sem α):∀{Q:α->Qa T->Prop}{U:Qa T}{w:World}{es₀:Array Event},Qq P s Q U->U.ok w ->
  ∃a w' es U',s.runT P w es₀=(.ok a w',es₀++es)/\(∀e∈es,JY U w e/\XU w' e)/\ZQ U w w' U'/\U'.ok w'/\Q a U'/\U'.tok=U.tok:=by
 induction s with
 |pure a=>exact λ{Q U w es₀}h ok=>⟨a,w,#[],U,by simp[Sem.runT],S1,.refl _ _,ok,h,rfl⟩
 |load m a k K=>
  intro Q U w es₀ h ok;obtain⟨rfl,v,hs,h⟩:=h;obtain⟨V,hr⟩:=Qa.sees_cell ok hs;obtain⟨x,w',es,U',b,f,F,B,H⟩:=K v (es₀:=es₀.push ⟨.cell a,false,false⟩) h ok;refine⟨x,w',#[⟨.cell a,false,false⟩]++es,U',?_,?_,F,B,H⟩
  .simp only[Sem.runT,V];rw[show(Mode.plain==Mode.atomic)=false from rfl,b];simp
  .intro e E;rcases Array.mem_append.1 E with E|E
   .simp at E;subst E;exact⟨⟨rfl,.inl hr⟩,Nat.lt_of_lt_of_le (I_ V) F.size⟩
   .exact f e E
 |store m a v k K=>
  intro Q U w es₀ h ok;obtain⟨rfl,hv,M',Y,h⟩:=h;obtain⟨⟨u,V⟩,hf,N,I,G⟩:=jv ok Y;obtain⟨x,w',es,U',b,f,F,B,H⟩:=K (es₀:=es₀.push ⟨.cell a,true,false⟩) h I;refine⟨x,w',#[⟨.cell a,true,false⟩]++es,U',?_,?_,G.trans F,B,H⟩
  .have:Sem.runT P (.store .plain a v k) w es₀=k.runT P (w.setCell a v) (es₀.push ⟨.cell a,true,false⟩):=by
    cases v <;> first|(simp[Value.single]at hv;done)|(simp only[Sem.runT,V,hf];rfl)
   rw[this,b];simp
  .intro e E;rcases Array.mem_append.1 E with E|E
   .simp at E;subst E;exact⟨⟨rfl,.inl N⟩,Nat.lt_of_lt_of_le (I_ V) (G.trans F).size⟩
   .exact⟨JY.of G (f e E).1,(f e E).2⟩
 |new o k K=>
  intro Q U w es₀ h ok;obtain⟨hf,I,G⟩:=vX ok o;obtain⟨x,w',es,U',b,f,F,B,H⟩:=K w.heap.size (es₀:=es₀) (h _ hf) I;exact⟨x,w',es,U',b,λ e E=>⟨JY.of G (f e E).1,(f e E).2⟩,G.trans F,B,H⟩
 |shape r k K=>
  intro Q U w es₀ h ok;obtain⟨o,L,h⟩:=h;have hb:=Qa.has_heap ok L
  have X:w.shape? r=Obj.shapeOf o:=by
   simp only[World.shape?,hb];cases o <;> rfl
  obtain⟨x,w',es,U',b,f,F,B,H⟩:=K _ (es₀:=es₀) h ok;exact⟨x,w',es,U',by simp only[Sem.runT];rw[X];exact b,f,F,B,H⟩
 |freeze a n k K=>
  intro Q U w es₀ h ok;obtain⟨hn,c,t,M',Z,h⟩:=h;obtain⟨I,G⟩:=xx ok hn Z;obtain⟨x,w',es,U',b,f,F,B,H⟩:=K (es₀:=es₀) h I;exact⟨x,w',es,U',by simpa only[Sem.runT]using b,λ e E=>⟨JY.of G (f e E).1,(f e E).2⟩,G.trans F,B,H⟩
 |frozen a k K=>
  intro Q U w es₀ h ok;obtain⟨c,t,hb,h⟩:=h;have hb:=Qa.has_heap ok hb;obtain⟨x,w',es,U',b,f,F,B,H⟩:=K false (es₀:=es₀) h ok;have W:w.frozen? a=false:=by simp[World.frozen?,hb]
  exact⟨x,w',es,U',by simp only[Sem.runT,W];exact b,f,F,B,H⟩
 |getObj r k K=>
  intro Q U w es₀ h ok;obtain⟨o,L,V,M,h⟩:=h;have hb:=Qa.has_heap ok L;obtain⟨x,w',es,U',b,f,F,B,H⟩:=K o (es₀:=es₀.push ⟨.obj r,false,false⟩) h ok;refine⟨x,w',#[⟨.obj r,false,false⟩]++es,U',?_,?_,F,B,H⟩
  .have:Sem.runT P (.getObj r k) w es₀=(k o).runT P w (es₀.push ⟨.obj r,false,o.isChan⟩):=by
    simp only[Sem.runT,hb];cases o <;> simp_all[Obj.isCells]
   rw[this,M,b];simp
  .intro e E;rcases Array.mem_append.1 E with E|E
   .simp at E;subst E;refine⟨⟨rfl,.inl ?_⟩,Nat.lt_of_lt_of_le (Array.getElem?_eq_some_iff.1 hb).1 F.size⟩;rcases L with L|L
    .exact .inr ⟨o,L⟩
    .exact .inl ⟨o,L⟩
   .exact f e E
 |setObj r o k K=>
  intro Q U w es₀ h ok;obtain⟨o0,M',Y,h1,h2,M,h⟩:=h;obtain⟨hb,N,I,G⟩:=xy ok Y h1 h2;obtain⟨x,w',es,U',b,f,F,B,H⟩:=K (es₀:=es₀.push ⟨.obj r,true,false⟩) h I;refine⟨x,w',#[⟨.obj r,true,false⟩]++es,U',?_,?_,G.trans F,B,H⟩
  .have:Sem.runT P (.setObj r o k) w es₀=k.runT P { w with heap:=w.heap.setIfInBounds r o } (es₀.push ⟨.obj r,true,o.isChan⟩):=by
    simp only[Sem.runT,hb];cases o0 <;> simp_all[Obj.isCells]
   rw[this,M,b];simp
  .intro e E;rcases Array.mem_append.1 E with E|E
   .simp at E;subst E;exact⟨⟨rfl,.inl N⟩,Nat.lt_of_lt_of_le (Array.getElem?_eq_some_iff.1 hb).1 (G.trans F).size⟩
   .exact⟨JY.of G (f e E).1,(f e E).2⟩
 |choose q k K=>
  intro Q U w es₀ h ok;simp only[Qq]at h;by_cases H:q.forced=true
  .rw[if_pos H]at h;obtain⟨x,w',es,U',b,f,F,B,S⟩:=K 0 (es₀:=es₀) h ok;exact⟨x,w',es,U',by simp only[Sem.runT,H,if_true];exact b,f,F,B,S⟩
  .rw[if_neg H]at h;obtain⟨x,w',es,U',b,f,F,B,S⟩:=K _ (es₀:=es₀) (h (w.tape w.drawn q)) (Dq ok (w.drawn+1));exact⟨x,w',es,U',by simp only[Sem.runT,H];exact b,λ e E=>⟨JY.of (Oi U w _) (f e E).1,(f e E).2⟩,(Oi U w _).trans F,B,S⟩
 |sys c k K=>exact λ{Q U w es₀}h ok=>h.elim
 |program k K=>
  intro Q U w es₀ h ok;obtain⟨x,w',es,U',b,f,F,B,H⟩:=K P (es₀:=es₀) h ok;exact⟨x,w',es,U',by simpa only[Sem.runT]using b,f,F,B,H⟩
 |mark m k K=>
  intro Q U w es₀ h ok;obtain⟨hm,h⟩:=h;obtain⟨x,w',es,U',b,f,F,B,H⟩:=K (es₀:=es₀.push ⟨.mark m,false,true⟩) h ok;refine⟨x,w',#[⟨.mark m,false,true⟩]++es,U',?_,?_,F,B,H⟩
  .simp only[Sem.runT];rw[b];simp
  .intro e E;rcases Array.mem_append.1 E with E|E
   .simp at E;subst E;exact⟨hm,trivial⟩
   .exact f e E
 |halt h=>exact λ{Q U w es₀}h ok=>h.elim
def Qq.mono(s:Sem α):∀{Q w:α->Qa T->Prop}{U:Qa T},Qq P s Q U->(∀a U,Q a U->w a U)->Qq P s w U:=by
 induction s with
 |pure a=>exact λ h q=>q _ _ h
 |load m a k f=>exact λ⟨e,v,G,h⟩q=>⟨e,v,G,f v h q⟩
 |store m a v k f=>exact λ⟨e,e',M',H,h⟩q=>⟨e,e',M',H,f h q⟩
 |new o k f=>exact λ h q b hb=>f b (h b hb) q
 |shape r k f=>exact λ⟨o,F,h⟩q=>⟨o,F,f _ h q⟩
 |freeze a n k f=>exact λ⟨x,c,t,M',E,h⟩q=>⟨x,c,t,M',E,f h q⟩
 |frozen a k f=>exact λ⟨c,t,hb,h⟩q=>⟨c,t,hb,f _ h q⟩
 |getObj r k f=>exact λ⟨o,a,b,c,h⟩q=>⟨o,a,b,c,f _ h q⟩
 |setObj r o k f=>exact λ⟨I,M',a,b,c,d,h⟩q=>⟨I,M',a,b,c,d,f h q⟩
 |choose q k f=>
  intro Q w U h B;simp only[Qq]at h ⊢;split <;> rename_i hf <;> simp only[hf,if_true,if_false,Bool.false_eq_true]at h
  .exact f 0 h B
  .exact λ t=>f _ (h t) B
 |sys c k f=>exact λ h _=>h
 |program k f=>exact λ h q=>f _ h q
 |mark m k f=>exact λ⟨a,h⟩q=>⟨a,f h q⟩
 |halt h=>exact λ h _=>h
def Oo(s:Sem α)(f:α->Sem β):∀{Q:β->Qa T->Prop}{U:Qa T},Qq P (s.bind f) Q U↔Qq P s (λ a U=>Qq P (f a) Q U) U:=by
 induction s with
 |pure a=>exact λ{_ _}=>Iff.rfl
 |load m a k b=>intro Q U;simp only[Sem.bind,Qq,b]
 |store m a v k b=>intro Q U;simp only[Sem.bind,Qq,b]
 |new o k b=>intro Q U;simp only[Sem.bind,Qq,b]
 |shape r k b=>intro Q U;simp only[Sem.bind,Qq,b]
 |freeze a n k b=>intro Q U;simp only[Sem.bind,Qq,b]
 |frozen a k b=>intro Q U;simp only[Sem.bind,Qq,b]
 |getObj r k b=>intro Q U;simp only[Sem.bind,Qq,b]
 |setObj r o k b=>intro Q U;simp only[Sem.bind,Qq,b]
 |choose q k b=>intro Q U;simp only[Sem.bind,Qq,b]
 |sys c k b=>intro Q U;simp only[Sem.bind,Qq]
 |program k b=>intro Q U;simp only[Sem.bind,Qq,b]
 |mark m k b=>intro Q U;simp only[Sem.bind,Qq,b]
 |halt h=>intro Q U;simp only[Sem.bind,Qq]
structure Sys(P:Program)(T:Type) where
 syn:(Bool->Gr->Qa T->Prop)->Bool->Gr->Qa T->Prop
 mono:∀{X Y:Bool->Gr->Qa T->Prop},(∀m g U,X m g U->Y m g U)->∀m g U,syn X m g U->syn Y m g U
variable{S:Sys P T}
def Qv(U U':Qa T):Prop:=U'.tok=U.tok/\∀w,U.ok w->U'.ok w/\(∀l,U'.canW l->U.canW l)/\(∀l,U'.canR l->U.canR l)
def Qv.refl(U:Qa T):Qv U U:=⟨rfl,λ _ h=>⟨h,λ _ h=>h,λ _ h=>h⟩⟩
def Qv.trans{U f B:Qa T}(h:Qv U f)(k:Qv f B):Qv U B:=
 ⟨k.1.trans h.1,λ w ok=>let ⟨a,b,c⟩:=h.2 w ok;let ⟨a',b',c'⟩:=k.2 w a;⟨a',λ l x=>b l (b' l x),λ l x=>c l (c' l x)⟩⟩
abbrev QI(T:Type):=Bool->Gr->Qa T->Prop
variable{X Y Stop:QI T}
def GH(P:Program)(X:QI T)(m:Bool)(g:Gr)(U:Qa T):Prop:=
 g.status=.running/\∀w,U.ok w->∃g' w' es U',stepG P m g w=.go g' w' es/\(∀e∈es,JY U w e/\XU w' e)/\ZQ U w w' U'/\U'.ok w'/\U'.tok=U.tok/\X m g' U'
def FJ(S:Sys P T)(Stop:QI T)(X:QI T)(m:Bool)(g:Gr)(U:Qa T):Prop:=
 ∃b,Qv U b/\(Stop m g b\/GH P X m g b\/S.syn X m g b)
def J(S:Sys P T)(Stop:QI T)(m:Bool)(g:Gr)(U:Qa T):Prop:=
 ∀X:QI T,(∀m g U,FJ S Stop X m g U->X m g U)->X m g U
def GH.mono(h:∀m g U,X m g U->Y m g U)(k:GH P X m g U):GH P Y m g U:=
 ⟨k.1,λ w ok=>let ⟨g',w',es,U',a,b,c,d,e,f⟩:=k.2 w ok;⟨g',w',es,U',a,b,c,d,e,h _ _ _ f⟩⟩
def FJ.mono{S:Sys P T}{Stop X Y:QI T}(h:∀m g U,X m g U->Y m g U){m:Bool}{g:Gr}{U:Qa T}(k:FJ S Stop X m g U):FJ S Stop Y m g U:=by
 obtain⟨b,f,k|k|k⟩:=k
 .exact⟨b,f,.inl k⟩
 .exact⟨b,f,.inr (.inl (k.mono h))⟩
 .exact⟨b,f,.inr (.inr (S.mono h _ _ _ k))⟩
def J.fold(h:FJ S Stop (J S Stop) m g U):J S Stop m g U:=
 λ X b=>b _ _ _ (h.mono λ _ _ _ k=>k X b)
def J.ind(b:∀m g U,FJ S Stop (λ m g U=>X m g U/\J S Stop m g U) m g U->X m g U)(h:J S Stop m g U):X m g U:=
 (h (λ m g U=>X m g U/\J S Stop m g U) λ m g U k=>⟨b m g U k,J.fold (k.mono λ _ _ _ x=>x.2)⟩).1
def J.unfold(h:J S Stop m g U):FJ S Stop (J S Stop) m g U:=
 J.ind (X:=FJ S Stop (J S Stop)) (λ _ _ _ k=>k.mono λ _ _ _ x=>x.2) h
def J.stop(h:Stop m g U):J S Stop m g U:=.fold ⟨U,.refl _,.inl h⟩
def J.priv(h:GH P (J S Stop) m g U):J S Stop m g U:=.fold ⟨U,.refl _,.inr (.inl h)⟩
def J.syn{g:Gr}{U:Qa T}(h:S.syn (J S Stop) m g U):J S Stop m g U:=.fold ⟨U,.refl _,.inr (.inr h)⟩
def J.still(b:g.status=.running)(h:∀w,stepG P m g w=.go g' w)(k:J S Stop m g' U):J S Stop m g U:=
 .priv ⟨b,λ w ok=>⟨g',w,#[],U,h w,S1,.refl _ _,ok,rfl,k⟩⟩
def Jm(P:Program)(fn:FuncId)(es:Array Event):∀e∈seen P fn es,e∈es:=by
 dsimp only[seen]
 rw[<- Array.foldl_toList]
 have key:∀(l:List Event)(x:Bool×Array Event),(∀e∈x.2,e∈es)->(∀e∈l,e∈es) ->
   ∀e∈(l.foldl (λ(x:Bool×Array Event)e=>match e.loc with|.mark (.extern f)=>((P.funcs[f]?).any (·.norace),x.2)|_=>(x.1,if x.1&&!e.sync then x.2 else x.2.push e)) x).2,e∈es:=by
  intro l
  induction l with
  |nil=>exact λ x hx _=>hx
  |cons a l h=>
   intro x hx hl;simp only[foldl_cons];refine h _ ?_ λ e b=>hl e (mem_cons_of_mem _ b);split
   .exact hx
   .dsimp only
    split
    .exact hx
    .intro e b;rcases Array.mem_push.1 b with b|rfl
     .exact hx e b
     .exact hl _ (mem_cons_self ..)
 exact key es.toList _ S1 S1
def J.sem(s:Sem α)(N:g.status=.running)(h:Qq P s ψ U)
  (f:∀w x w' es,s.runT P w #[]=(.ok x w',es)->(∃U',ψ x U')->∃g' b,stepG P m g w=.go g' w' b/\(∀e∈b,e∈es)/\(∀U',ψ x U'->J S Stop m g' U')):J S Stop m g U:=by
 refine .priv ⟨N,λ w ok=>?_⟩;obtain⟨x,w',es,U',M,E,K,F,H,ht⟩:=Qq.sound s (es₀:=#[]) h ok;obtain⟨g',b,G,B,L⟩:=f w x w' es (by simpa using M) ⟨U',H⟩;exact⟨g',w',b,U',G,λ e I=>E e (B e I),K,F,ht,L U' H⟩
def fr(b:Frame)(a:Act)(todo:List Item):Frame:={ b with tmps:=a.tmps,todo:=todo,defers:=a.defers,mode:=.run }
def R(b:Frame)(a:Act)(todo:List Item)(cs:List Frame):Gr:={ frame:=fr b a todo,callers:=cs,status:=.running,dying:=none }
def Rf(f:Frame)(cs:List Frame):Gr:={ frame:=f,callers:=cs,status:=.running,dying:=none }
def Y8(b:Frame)(a:Act)(todo:List Item):(fr b a todo).eval=a.eval:=by funext x;cases x <;> rfl
def vr:stepG P m (R b a (.code .skip::k) cs) w=.go (R b a k cs) w:=by simp[R,stepG,stepG.exec,fr]
def pk:stepG P m (R b a (.code (.label l)::k) cs) w=.go (R b a k cs) w:=by simp[R,stepG,stepG.exec,fr]
def jB:stepG P m (R b a (.inBlock l::k) cs) w=.go (R b a k cs) w:=by simp[R,stepG,stepG.exec,fr]
def jC:stepG P m (R b a (.inScope c::k) cs) w=.go (R b a k cs) w:=by simp[R,stepG,stepG.exec,fr]
def vN:stepG P m (R b a (.code (.seq c assign)::k) cs) w=.go (R b a (.code c::.code assign::k) cs) w:=by simp[R,stepG,stepG.exec,fr]
def vg{c:Operand}(h:a.eval c=.bool p) :
  stepG P m (R b a (.code (.cond c assign as)::k) cs) w=.go (R b a (.code (if p then assign else as)::k) cs) w:=by
 have f:(fr b a (.code (.cond c assign as)::k)).eval c=.bool p:=by rw[Y8];exact h
 simp only[fr]at f;simp[R,stepG,stepG.exec,fr,f]
def pj:stepG P m (R b a (.code (.block l c)::k) cs) w=.go (R b a (.code c::.inBlock l::k) cs) w:=by simp[R,stepG,stepG.exec,fr]
def vk:stepG P m (R b a (.code (.loop c)::k) cs) w=.go (R b a (.code c::.inLoop c::k) cs) w:=by simp[R,stepG,stepG.exec,fr]
def xE:stepG P m (R b a (.inLoop c::k) cs) w=.go (R b a (.code c::.inLoop c::k) cs) w:=by simp[R,stepG,stepG.exec,fr]
def pn:stepG P m (R b a (.code (.scope c)::k) cs) w=.go (R b a (.code c::.inScope c::k) cs) w:=by simp[R,stepG,stepG.exec,fr]
def vj(h:exitTo l k=some u):stepG P m (R b a (.code (.exit l)::k) cs) w=.go (R b a u cs) w:=by simp[R,stepG,stepG.exec,fr,h]
def xF:stepG P m (R b a (.code (.region l ops false)::k) cs) w=.go (R b a (.inRegion ops (range ops.size)::k) cs) w:=by simp[R,stepG,stepG.exec,fr]
def zx:stepG P m (R b a (.inRegion ops []::k) cs) w=.go (R b a k cs) w:=by simp[R,stepG,stepG.exec,fr]
def Nv(h:ops[l]?=some o)(B:Region.wanted o (yielded ops a.tmps)=false) :
  stepG P m (R b a (.inRegion ops (l::rest)::k) cs) w=.go (R b (a.put o.dst undef) (.inRegion ops rest::k) cs) w:=by
 cases f:o.dst <;> simp[R,stepG,stepG.exec,fr,h,B,Frame.finish,Act.put,f]
def vq(E:ops[n]?=some o)(F:Region.wanted o (yielded ops a.tmps)=true)
  (f:b.roundOf=none\/∀c,o.op≠.defer c) :
  stepG P m (R b a (.inRegion ops (n::rest)::k) cs) w=stepG.apply P true (fr b a (.inRegion ops (n::rest)::k)) cs none (execOp a.eval o) w:=by
 have h:=Y8 b a (.inRegion ops (n::rest)::k);simp only[fr]at h;rcases f with f|f
 .rw[f]at h;simp[R,stepG,stepG.exec,stepG.oper,Frame.oper?,fr,E,F,f];rw[h]
 .simp only[R,stepG,stepG.exec,stepG.oper,Frame.oper?,fr,E,Option.map_some,F,Option.getD_some,if_true,h];cases G:b.roundOf with
  |none=>simp
  |some l=>cases B:o.op <;> first|rfl|exact absurd B (f _)
def G7(f:ops[l]?=some o)(v:Value) :
  (fr b a (.inRegion ops (l::rest)::k)).finish v=fr b (a.put o.dst v) (.inRegion ops rest::k):=by
 cases h:o.dst <;> simp[Frame.finish,fr,Act.put,f,h]
inductive Ex where
 |normal
 |exit (id:Nat)
 |ret
variable{Q:Ex->Act->Qa T->Prop}
def Xt(S:Sys P T)(Stop:QI T)(m:Bool)(b:Frame)(cs:List Frame)(f:Option Code)(a:Act)(U:Qa T):Prop:=
 match b.roundOf with
 |none=>(f=none\/f=some .ret)/\∀todo,J S Stop m (Rf { fr b a todo with mode:=.returning } cs) U
 |some l=>∃c rest,cs=c::rest/\Qq P (Instr.endRound l f) (λ v U'=>J S Stop m (Rf (c.finish v) rest) U') U
def Xr(S:Sys P T)(Stop:QI T)(m:Bool)(b:Frame)(k:List Item)(cs:List Frame):Ex->Act->Qa T->Prop
 |.normal,a,U=>J S Stop m (R b a k cs) U
 |.exit id,a,U=>(∃k',exitTo id k=some k'/\J S Stop m (R b a k' cs) U)\/(exitTo id k=none/\Xt S Stop m b cs (some (.exit id)) a U)
 |.ret,a,U=>Xt S Stop m b cs (some .ret) a U
def Fr(fn:FuncId)(ro:Option Nat)(b:Frame):Prop:=b.fn=fn/\b.roundOf=ro/\b.kind≠.early/\(ro.isSome->b.kind=.normal)
def Zq(S:Sys P T)(fn:FuncId)(ro:Option Nat)(c:Code)(Q:Ex->Act->Qa T->Prop)(a:Act)(U:Qa T):Prop:=
 ∀(Stop:QI T)(m:Bool)(b:Frame)(k:List Item)(cs:List Frame),Fr fn ro b->(∀e a' U',Q e a' U'->Xr S Stop m b k cs e a' U')->J S Stop m (R b a (.code c::k) cs) U
def QU(S:Sys P T)(fn:FuncId)(ro:Option Nat)(ops:Array Oper)(todo:List Nat)(Q:Ex->Act->Qa T->Prop)(a:Act)(U:Qa T):Prop:=
 ∀(Stop:QI T)(m:Bool)(b:Frame)(k:List Item)(cs:List Frame),Fr fn ro b->(∀e a' U',Q e a' U'->Xr S Stop m b k cs e a' U')->J S Stop m (R b a (.inRegion ops todo::k) cs) U
def Qb(S:Sys P T)(f:FuncId)(args:Array Value)(Q:Value->Qa T->Prop)(U:Qa T):Prop:=
 ∀(Stop:QI T)(m:Bool)(c:Frame)(cs:List Frame),(∀v U',Q v U'->J S Stop m (Rf (c.finish v) cs) U')->J S Stop m (Rf (Frame.enter P f args .normal) (c::cs)) U
def WC(S:Sys P T)(l:Nat)(f:FuncId)(tmps:Array Value)(assign body:Code)(Q:Value->Qa T->Prop)(U:Qa T):Prop:=
 ∀(Stop:QI T)(m:Bool)(c:Frame)(cs:List Frame),(∀v U',Q v U'->J S Stop m (Rf (c.finish v) cs) U')->J S Stop m (Rf (Frame.round l f tmps assign body .normal) (c::cs)) U
def Xr.push{x:Item}{e:Ex}(hx:∀id k,exitTo id (x::k)=exitTo id k)(f:e≠.normal)
  (h:Xr S Stop m b k cs e a U):Xr S Stop m b (x::k) cs e a U:=by
 cases e with
 |normal=>exact absurd rfl f
 |exit id=>simpa only[Xr,hx]using h
 |ret=>exact h
def Zq.mono{f:Ex->Act->Qa T->Prop}(h:Zq S fn ro c Q a U)(B:∀e a U,Q e a U->f e a U):Zq S fn ro c f a U:=
 λ Stop m b k cs hb w=>h Stop m b k cs hb λ e a' U' q=>w e a' U' (B e a' U' q)
def Qb.mono(h:Qb S fn args K U)(b:∀v U,K v U->R' v U):Qb S fn args R' U:=
 λ Stop m c cs k=>h Stop m c cs λ v U' r=>k v U' (b v U' r)
def WC.mono(h:WC S l fn tmps as assign K U)(w:∀v U,K v U->R' v U):WC S l fn tmps as assign R' U:=
 λ Stop m c cs k=>h Stop m c cs λ v U' r=>k v U' (w v U' r)
def J.shift(f:Qv U U')(h:J S Stop m g U'):J S Stop m g U:=by
 obtain⟨b,h1,h⟩:=h.unfold;exact .fold ⟨b,f.trans h1,h⟩
def gJ(w:Qv U U')(h:Zq S fn ro c Q a U'):Zq S fn ro c Q a U:=λ Stop m b k cs hb f=>.shift w (h Stop m b k cs hb f)
def Gj(w:Qv U U')(h:QU S fn ro ops todo Q a U'):QU S fn ro ops todo Q a U:=λ Stop m b k cs hb f=>.shift w (h Stop m b k cs hb f)
def Qb.shift{f:FuncId}{args:Array Value}{R:Value->Qa T->Prop}{U':Qa T}(b:Qv U U')(h:Qb S f args R U'):Qb S f args R U:=λ Stop m c cs k=>.shift b (h Stop m c cs k)
def WC.shift{l:Nat}{f:FuncId}{tmps:Array Value}{as b:Code}{R:Value->Qa T->Prop}{U':Qa T}(w:Qv U U')(h:WC S l f tmps as b R U'):WC S l f tmps as b R U:=λ Stop m c cs k=>.shift w (h Stop m c cs k)
def Qb.post{R:Value->Qa T->Prop}(h:Qb S fn args R U)(b:∀v U,R v U->∃U',Qv U U'/\R' v U'):Qb S fn args R' U:=
 λ Stop m c cs k=>h Stop m c cs λ v U' r=>let ⟨_,hs,r'⟩:=b v U' r;.shift hs (k v _ r')
def pO(h:Q .normal a U):Zq S fn ro .skip Q a U:=λ _ _ _ _ _ _ b=>.still rfl (λ _=>vr) (b _ _ _ h)
def gG(h:Q .normal a U):Zq S fn ro (.label l) Q a U:=λ _ _ _ _ _ _ b=>.still rfl (λ _=>pk) (b _ _ _ h)
def vU(h:Zq S fn ro c (λ e a' U'=>match e with|.normal=>Zq S fn ro assign Q a' U'|e=>Q e a' U') a U):Zq S fn ro (.seq c assign) Q a U:=by
 intro Stop m b k cs hb f;refine .still rfl (λ _=>vN) (h Stop m b (.code assign::k) cs hb λ e a' U' q=>?_);cases e with
 |normal=>exact q Stop m b k cs hb f
 |exit id=>exact(f _ _ _ q).push (λ _ _=>rfl) S1
 |ret=>exact(f _ _ _ q).push (x:=.code assign) (λ _ _=>rfl) S1
def pN{c:Operand}(t:Bool)(f:a.eval c=.bool t)(h:Zq S fn ro (if t then assign else as) Q a U):Zq S fn ro (.cond c assign as) Q a U:=
 λ Stop m b k cs hb w=>.still rfl (λ _=>vg f) (h Stop m b k cs hb w)
def gF(h:Zq S fn ro c (λ e a' U'=>match e with|.normal=>Q .normal a' U'|.exit f=>if f=l then Q .normal a' U' else Q (.exit f) a' U'|.ret=>Q .ret a' U') a U) :
  Zq S fn ro (.block l c) Q a U:=by
 intro Stop m b k cs hb B;refine .still rfl (λ _=>pj) (h Stop m b (.inBlock l::k) cs hb λ e a' U' q=>?_);cases e with
 |normal=>exact .still rfl (λ _=>jB) (B _ _ _ q)
 |exit f=>
  by_cases w:f=l
  .simp only[w,if_true]at q;exact .inl ⟨k,by simp[exitTo,w],B _ _ _ q⟩
  .simp only[w,if_false]at q;have E:(l==f)=false:=by simp;exact λ h=>w h.symm
   simpa only[Xr,exitTo,E,Bool.false_eq_true,if_false]using B _ _ _ q
 |ret=>exact B _ _ _ q
def gI(h:Zq S fn ro c Q a U):Zq S fn ro (.scope c) Q a U:=by
 intro Stop m b k cs hb f;refine .still rfl (λ _=>pn) (h Stop m b (.inScope c::k) cs hb λ e a' U' q=>?_);cases e with
 |normal=>exact .still rfl (λ _=>jC) (f _ _ _ q)
 |exit id=>exact(f _ _ _ q).push (λ _ _=>rfl) S1
 |ret=>exact(f _ _ _ q).push (x:=.inScope c) (λ _ _=>rfl) S1
def L6(h:Q (.exit n) a U):Zq S fn ro (.exit n) Q a U:=by
 intro Stop m b k cs hb F;rcases F _ _ _ h with⟨k',B,H⟩|⟨B,hl⟩
 .exact .still rfl (λ _=>vj B) H
 .cases hro:b.roundOf with
  |none=>simp only[Xt,hro]at hl;simp at hl
  |some l=>
   simp only[Xt,hro]at hl;obtain⟨c,rest,rfl,K⟩:=hl;have E:b.kind=.normal:=hb.2.2.2 (by rw[<- hb.2.1,hro];rfl);refine .sem _ rfl K λ w x w' es f _=>⟨Rf (c.finish x) rest,seen P b.fn es,?_,Jm P _ es,λ _ h=>h⟩;obtain⟨I,G⟩:Sem.run P (Instr.endRound l (some (.exit n))) w=.ok x w'/\Sem.events P (Instr.endRound l (some (.exit n))) w #[]=es:=by simpa using f
   simp[R,stepG,stepG.exec,fr,hro,B,I,G,doReturn,E,GStep.after,Rf]
def LD(h:Q .ret a U):Zq S fn ro .ret Q a U:=by
 intro Stop m b k cs hb F;have hl:=F _ _ _ h;cases f:b.roundOf with
 |none=>
  simp only[Xr,Xt,f]at hl;refine .still rfl (λ w=>?_) (hl.2 (.code .ret::k));simp[R,Rf,stepG,stepG.exec,fr,f]
 |some l=>
  simp only[Xr,Xt,f]at hl;obtain⟨c,rest,rfl,I⟩:=hl;have E:b.kind=.normal:=hb.2.2.2 (by rw[<- hb.2.1,f];rfl);refine .sem _ rfl I λ w x w' es B _=>⟨Rf (c.finish x) rest,seen P b.fn es,?_,Jm P _ es,λ _ h=>h⟩;obtain⟨H,G⟩:Sem.run P (Instr.endRound l (some .ret)) w=.ok x w'/\Sem.events P (Instr.endRound l (some .ret)) w #[]=es:=by simpa using B
  simp[R,stepG,stepG.exec,fr,f,H,G,doReturn,E,GStep.after,Rf]
def Ip(h:QU S fn ro ops (range ops.size) Q a U):Zq S fn ro (.region l ops false) Q a U:=
 λ Stop m b k cs hb f=>.still rfl (λ _=>xF) (h Stop m b k cs hb f)
def Ly(h:Q .normal a U):QU S fn ro ops [] Q a U:=λ _ _ _ _ _ _ b=>.still rfl (λ _=>zx) (b _ _ _ h)
def Ys(S:Sys P T)(ro:Option Nat)(o:Oper)(a:Act)(K:Act->Qa T->Prop):Next->Qa T->Prop
 |.value v,U=>K (a.put o.dst v) U
 |.skip,U=>K (a.put o.dst undef) U
 |.defer d,U=>ro=none/\K ({ a with defers:=d::a.defers }.put o.dst undef) U
 |.enter f args,U=>Qb S f args (λ v U'=>K (a.put o.dst v) U') U
 |.round l f tmps assign body,U=>WC S l f tmps assign body (λ v U'=>K (a.put o.dst v) U') U
 |_,_=>False
def G0(S:Sys P T)(ro:Option Nat)(o:Oper)(a:Act)(K:Act->Qa T->Prop)(U:Qa T):Prop:=Qq P (execOp a.eval o) (Ys S ro o a K) U
def XS(F:ops[n]?=some o)(M:Region.wanted o (yielded ops a.tmps)=true)(K:ro=none\/∀c,o.op≠.defer c)
  (h:G0 S ro o a (QU S fn ro ops rest Q) U):QU S fn ro ops (n::rest) Q a U:=by
 intro Stop m b k cs hb G;have E:(b.kind==CallKind.early)=false:=by simpa using hb.2.2.1
 have H:b.roundOf=none\/∀c,o.op≠.defer c:=by rw[hb.2.1];exact K
 refine .sem _ rfl h λ w x w' es B I=>?_;rw[vq F M H];have N:(execOp a.eval o).run P w=.ok x w':=by have:=Sem.runT_fst P (execOp a.eval o) w #[];rw[B]at this;exact this.symm
 cases x with
 |value v=>
  refine⟨R b (a.put o.dst v) (.inRegion ops rest::k) cs,seen P b.fn es,?_,Jm P _ es,λ U' q=>q Stop m b k cs hb G⟩;have:=G7 (b:=b) (a:=a) (k:=k) (rest:=rest) F v;simp only[stepG.apply,if_true,B];simp[fr,E,GStep.after,R]at this ⊢;exact this
 |skip=>
  refine⟨R b (a.put o.dst undef) (.inRegion ops rest::k) cs,seen P b.fn es,?_,Jm P _ es,λ U' q=>q Stop m b k cs hb G⟩;have:=G7 (b:=b) (a:=a) (k:=k) (rest:=rest) F undef;simp only[stepG.apply,if_true,B];simp[fr,E,GStep.after,R]at this ⊢;exact this
 |defer d=>
  refine⟨R b ({ a with defers:=d::a.defers }.put o.dst undef) (.inRegion ops rest::k) cs,seen P b.fn es,?_,Jm P _ es,λ U' q=>q.2 Stop m b k cs hb G⟩;have:=G7 (b:=b) (a:={ a with defers:=d::a.defers }) (k:=k) (rest:=rest) F undef;simp only[stepG.apply,if_true,B];simp[fr,E,GStep.after,R]at this ⊢;exact this
 |enter f args=>
  refine⟨Rf (Frame.enter P f args .normal) (fr b a (.inRegion ops (n::rest)::k)::cs),seen P b.fn es,?_,Jm P _ es,λ U' q=>?_⟩
  .simp only[stepG.apply,if_true,B];simp[fr,E,GStep.after,Rf]
  .refine q Stop m _ cs λ v U'' q'=>?_;have:=q' Stop m b k cs hb G;rw[G7 F];exact this
 |round l f tmps assign body=>
  refine⟨Rf (Frame.round l f tmps assign body .normal) (fr b a (.inRegion ops (n::rest)::k)::cs),seen P b.fn es,?_,Jm P _ es,λ U' q=>?_⟩
  .simp only[stepG.apply,if_true,B];simp[fr,E,GStep.after,Rf]
  .refine q Stop m _ cs λ v U'' q'=>?_;have:=q' Stop m b k cs hb G;rw[G7 F];exact this
 |_=>obtain⟨_,L⟩:=I;exact L.elim
def P2(w:ops[l]?=some o)(B:Region.wanted o (yielded ops a.tmps)=false)
  (h:QU S fn ro ops rest Q (a.put o.dst undef) U):QU S fn ro ops (l::rest) Q a U:=
 λ Stop m b k cs hb f=>.still rfl (λ _=>Nv w B) (h Stop m b k cs hb f)
def QU.mono{f:Ex->Act->Qa T->Prop}(h:QU S fn ro ops todo Q a U)(B:∀e a U,Q e a U->f e a U):QU S fn ro ops todo f a U:=
 λ Stop m b k cs hb w=>h Stop m b k cs hb λ e a' U' q=>w e a' U' (B e a' U' q)
def JD(I:Nat->Option Obj)(b:Nat)(o:Obj):Nat->Option Obj:=λ x=>if x=b then some o else I x
def VW(h:∀r,r∈M'->r∈M):(∃r∈M',r.lets π)->∃r∈M,r.lets π:=λ⟨r,b,hl⟩=>⟨r,h r b,hl⟩
def IC(h:∃M₀,Perm U.M (M'++M₀)):Qv U { U with M:=M' }:=by
 obtain⟨M₀,hp⟩:=h;have b:∀r,r∈M'->r∈U.M:=λ r f=>hp.mem_iff.2 (mem_append_left _ f);refine⟨rfl,λ w ok=>⟨⟨ok.imm,λ r f=>ok.held r (b r f),?_,λ r f=>ok.sep r (b r f)⟩,λ l hl=>?_,λ l hl=>?_⟩⟩
 .have:=(hp.pairwise_iff (λ{x y}h=>Qw.apart_symm h)).1 ok.apart;exact(pairwise_append.1 this).1
 .rw[Q4]at hl ⊢;exact VW b hl
 .rw[Qx]at hl ⊢;exact hl.imp (VW b) id
def Wa{b:Nat}{o:Obj}(h:Perm U.M (.obj b o::M')):Qv U { U with I:=JD U.I b o,M:=M' }:=by
 have B:∀r,r∈M'->r∈U.M:=λ r F=>h.mem_iff.2 (mem_cons_of_mem _ F);have hb:Qw.obj b o∈U.M:=h.mem_iff.2 (mem_cons_self ..);refine⟨rfl,λ w ok=>?_⟩;have E:=(h.pairwise_iff (λ{x y}h=>Qw.apart_symm h)).1 ok.apart;rw[pairwise_cons]at E;refine⟨⟨?_,λ r F=>ok.held r (B r F),E.2,?_⟩,λ l hl=>?_,λ l hl=>?_⟩
 .intro x L hx;simp only[JD]at hx;split at hx
  .rename_i e;cases hx;subst e;exact ok.held _ hb
  .exact ok.imm x L hx
 .intro r F
  have K:r.blk≠b:=by
   have:=E.1 r F;cases r <;> simp_all[Qw.apart,Qw.blk] <;> exact λ e=>this e.symm
  simp only[JD,if_neg K];exact ok.sep r (B r F)
 .rw[Q4]at hl ⊢;exact VW B hl
 .rw[Qx]at hl ⊢;rcases hl with hl|hl
  .exact .inl (VW B hl)
  .cases l with
   |cell a=>
    obtain⟨c,t,f,H,G⟩:=hl;simp only[JD]at H;split at H
    .rename_i e;cases H;exact .inl ⟨_,hb,e,G⟩
    .exact .inr ⟨c,t,f,H,G⟩
   |obj x=>
    obtain⟨L,hx⟩:=hl;simp only[JD]at hx;split at hx
    .rename_i e;cases hx;exact .inl ⟨_,hb,by cases o <;> simp[Qw.lets,e]⟩
    .exact .inr ⟨L,hx⟩
   |output=>exact hl.elim
   |goroutines=>exact hl.elim
   |mark _=>exact hl.elim
structure Qa.le(U U':Qa T):Prop where
 imm:∀b o,U.I b=some o->U'.I b=some o
 own:U'.M=U.M
 tok:U'.tok=U.tok
def Qa.le.refl(U:Qa T):U.le U:=⟨λ _ _ h=>h,rfl,rfl⟩
def Qa.le.trans{a b c:Qa T}(h:a.le b)(k:b.le c):a.le c:=⟨λ x o e=>k.imm x o (h.imm x o e),k.own.trans h.own,k.tok.trans h.tok⟩
def vh:
  stepG P m (R b a (.code (.region l ops true)::k) cs) w =
   .go (R b a (.inRegion ops (Region.schedule (P.follows .mixedOrders) ops (w.tape w.drawn (.order b.fn l)))::k) cs) { w with drawn:=w.drawn+1 }:=by
 simp[R,stepG,stepG.exec,fr,choose,Sem.run,Question.forced,Question.cut]
def L5(h:∀t,QU S fn ro ops (Region.schedule (P.follows .mixedOrders) ops t) Q a U) :
  Zq S fn ro (.region l ops true) Q a U:=by
 intro Stop m b k cs hb f;refine .priv ⟨rfl,λ w ok=>⟨_,_,#[],U,vh,S1,Oi U w _,Dq ok _,rfl,h _ Stop m b k cs hb f⟩⟩
def ZG(S:Sys P T)(K:Value->Qa T->Prop):Next->Qa T->Prop
 |.value v,U=>K v U
 |.skip,U=>K undef U
 |.enter f args,U=>Qb S f args K U
 |.round l f tmps assign body,U=>WC S l f tmps assign body K U
 |_,_=>False
def QK(S:Sys P T)(o:Oper)(a:Act)(K:Value->Qa T->Prop)(U:Qa T):Prop:=Qq P (execOp a.eval o) (ZG S K) U
def QK.mono{o:Oper}{a:Act}{K w:Value->Qa T->Prop}{U:Qa T}(h:QK S o a K U)(f:∀v U,K v U->w v U):QK S o a w U:=
 Qq.mono _ h λ n U b=>by
  cases n <;> first|exact f _ _ b|exact Qb.mono b f|exact WC.mono b f|exact b
def QK.opV(h:QK S o a (λ v U=>V (a.put o.dst v) U) U):G0 S ro o a V U:=
 Qq.mono _ h λ n U b=>by cases n <;> first|exact b|exact b.elim
def XC(F:Qa T->Prop):Prop:=∀U U',F U->U.le U'->F U'
inductive ZV(S:Sys P T)(ops:Array Oper)(rl:List Nat)(B:Nat->Nat->Prop)(late:Nat->Bool)(G:Qa T->Prop)(U:Qa T)(Fin:Act->Qa T->Prop):List Nat->(Qa T->Prop)->Act->Prop
 |nil {C a0}:(∀U',U.le U'->C U'->Fin a0 U')->ZV S ops rl B late G U Fin [] C a0
 |un {i a2 C a0 a1}:i∉rl->ops[i]?=some a1->Region.wanted a1 (yielded ops a0.tmps)=false->ZV S ops rl B late G U Fin a2 C (a0.put a1.dst undef)->ZV S ops rl B late G U Fin (i::a2) C a0
 |det {i a2 C a0 a1} (v:Value):i∉rl->ops[i]?=some a1->Region.wanted a1 (yielded ops a0.tmps)=true ->
   (∀U',U.le U'->C U'->QK S a1 a0 (λ v' U2=>v'=v/\∃U1,Qv U2 U1/\U'.le U1) U') ->
   (late i=true->∀U',G U'->QK S a1 a0 (λ v' U2=>v'=v/\∃U1,Qv U2 U1/\U'.le U1) U') ->
   ZV S ops rl B late G U Fin a2 C (a0.put a1.dst v)->ZV S ops rl B late G U Fin (i::a2) C a0
 |rel {i a2 C a0 a1} (F:Value->Qa T->Prop):i∈rl->(∀v,XC (F v))->ops[i]?=some a1->Region.wanted a1 (yielded ops a0.tmps)=true ->
   (∀U',U.le U'->C U'->QK S a1 a0 (λ v' U2=>∃U1,Qv U2 U1/\F v' U1/\U'.le U1) U') ->
   (∀v,(∃U',U.le U'/\C U'/\F v U')->ZV S ops rl B late G U Fin a2 (λ U'=>C U'/\F v U') (a0.put a1.dst v))->ZV S ops rl B late G U Fin (i::a2) C a0
 |last {i C a0 a1}:i∈rl->XC G->(∀j,late j=false->B j i)->ops[i]?=some a1->Region.wanted a1 (yielded ops a0.tmps)=true ->
   (∀U',U.le U'->C U'->QK S a1 a0 (λ v' U2=>v'=undef/\∃U1,Qv U2 U1/\G U1) U')->((∃U',U.le U'/\C U')->∀U',G U'->Fin (a0.put a1.dst undef) U')->ZV S ops rl B late G U Fin [i] C a0
def Wt(ops:Array Oper)(i:Nat):List Nat:=((ops[i]?).map λ o=>(o.after.toList.filter (Region.binds .any)).map (·.on)).getD []
inductive JA(ops:Array Oper):Nat->Nat->Prop
 |edge {i a0}:a0∈Wt ops i->JA ops a0 i
 |trans {i a0 a1}:JA ops a1 a0->a0∈Wt ops i->JA ops a1 i
def X2(ops:Array Oper):Nat->List Nat
 |0=>[]
 |n+1=>let acc:=X2 ops n;acc++[(Wt ops n).foldl (λ s j=>s||| 2^j||| acc.getD j 0) 0]
def Vh(ops:Array Oper):∀n,(X2 ops n).length=n
 |0=>rfl
 |n+1=>by simp[X2,Vh ops n]
def Fb(acc:List Nat)(j:Nat):∀(l:List Nat)(s:Nat),(l.foldl (λ s j=>s||| 2^j||| acc.getD j 0) s).testBit j=true->s.testBit j=true\/∃k∈l,k=j\/(acc.getD k 0).testBit j=true
 |[],s,h=>.inl h
 |k::l,s,h=>by
  simp only[foldl_cons]at h;rcases Fb acc j l _ h with h|⟨x,hx,h⟩
  .simp only[Nat.testBit_or,Bool.or_eq_true]at h;rcases h with(h|h)|h
   .exact .inl h
   .refine .inr ⟨k,mem_cons_self ..,.inl ?_⟩;rw[Nat.testBit_two_pow]at h;exact of_decide_eq_true h
   .exact .inr ⟨k,mem_cons_self ..,.inr h⟩
  .exact .inr ⟨x,mem_cons_of_mem _ hx,h⟩
def Wm(ops:Array Oper):∀n i j,((X2 ops n).getD i 0).testBit j=true->JA ops j i:=by
 intro n
 induction n with
 |zero=>intro i j h;simp[X2]at h
 |succ n f=>
  intro i j h;simp only[X2]at h;by_cases hi:i<n
  .rw[getD_eq_getElem?_getD,getElem?_append_left (by rw[Vh];exact hi),<- getD_eq_getElem?_getD]at h;exact f i j h
  .rw[getD_eq_getElem?_getD,getElem?_append_right (by rw[Vh];omega),Vh,<- getD_eq_getElem?_getD]at h;by_cases e:i=n
   .subst e;simp only[Nat.sub_self,getD_cons_zero]at h;rcases Fb _ j _ 0 h with h|⟨k,b,rfl|h⟩
    .simp at h
    .exact .edge b
    .exact .trans (f k j h) b
   .have:i-n=(i-n-1)+1:=O1
    rw[this]at h;simp at h
def WH(ops:Array Oper)(i:Nat):Option Tmp:=(ops[i]?).bind (·.dst)
def looks(ops:Array Oper)(i:Nat):List Tmp:=((ops[i]?).map (Oper.looksAt ops)).getD []
def PY(ops:Array Oper)(rl qs ts:List Nat):Bool:=
 let n:=ops.size
 let b:=X2 ops n
 let bf (j i:Nat):Bool:=(b.getD i 0).testBit j
 let all:=qs++ts
 (range n).all (λ i=>all.contains i)&&(decide all.Nodup&&all.all (λ i=>decide (i<n))) &&
 (ops.toList.all λ o=>!(o.op matches .select ..)) &&
 (range n).all (λ i=>(range n).all λ j=>i==j|| (match WH ops i with|some d=>WH ops j != some d|none=>true)) &&
 qs.all (λ i=>(range n).all λ j=>i==j|| (match WH ops j with|some d=>!(looks ops i).contains d|| bf j i|| bf i j|none=>true)) &&
 (range all.length).all (λ p=>(Wt ops (all.getD p 0)).all λ j=>(all.take p).contains j) &&
 (range qs.length).all (λ p=>!rl.contains (qs.getD p 0)|| ((all.drop (p+1)).all λ j=>bf (qs.getD p 0) j)) &&
 (range ts.length).all (λ p=>(qs++ts.take p).all λ j=>bf j (ts.getD p 0))
structure Ju(ops:Array Oper)(rl qs ts:List Nat):Prop where
 mem:∀i,i<ops.size↔i∈qs++ts
 nodup:(qs++ts).Nodup
 nosel:∀(i:Nat)o,ops[i]?=some o->∀cs b,o.op≠.select cs b
 once:∀i j d,WH ops i=some d->WH ops j=some d->i=j
 look:∀i,i∈qs->∀j d,i≠j->WH ops j=some d->d∈looks ops i->JA ops j i\/JA ops i j
 order:∀p i,(qs++ts)[p]?=some i->∀j∈Wt ops i,j∈(qs++ts).take p
 behind:∀p i,qs[p]?=some i->i∈rl->∀j∈(qs++ts).drop (p+1),JA ops i j
 tail:∀p i,ts[p]?=some i->∀j∈qs++ts.take p,JA ops j i
def Sy{d:Tmp}(h:WH ops l=some d):l<ops.size:=by
 simp only[WH]at h;cases hi:ops[l]? with
 |none=>simp[hi]at h
 |some o=>exact(Array.getElem?_eq_some_iff.1 hi).1
def Fj(h:PY ops rl qs ts=true):Ju ops rl qs ts:=by
 simp only[PY,Bool.and_eq_true]at h;obtain⟨⟨⟨⟨⟨⟨⟨h1,h2⟩,F⟩,G⟩,h5⟩,H⟩,I⟩,K⟩:=h
 have w:∀i,i<ops.size->i∈qs++ts:=λ i hi=>by
  have:=all_eq_true.1 h1 i (mem_range.2 hi);simpa using this
 obtain⟨E,B⟩:(qs++ts).Nodup/\∀i∈qs++ts,i<ops.size:=by
  exact⟨of_decide_eq_true h2.1,λ i hi=>of_decide_eq_true (all_eq_true.1 h2.2 i hi)⟩
 refine⟨λ i=>⟨w i,B i⟩,E,?_,?_,?_,?_,?_,?_⟩
 .intro i o ho cs b e;have:=all_eq_true.1 F o (Array.mem_toList_iff.2 (Array.mem_of_getElem? ho));simp[e]at this
 .intro i j d hi hj;have:=all_eq_true.1 (all_eq_true.1 G i (mem_range.2 (Sy hi))) j (mem_range.2 (Sy hj));simp only[hi,hj,Bool.or_eq_true,beq_iff_eq]at this;rcases this with h|h
  .exact h
  .simp at h
 .intro i hi j d hne hj hd;have:=all_eq_true.1 (all_eq_true.1 h5 i hi) j (mem_range.2 (Sy hj));simp only[hj,Bool.or_eq_true,beq_iff_eq]at this;rcases this with h|(h|h)|h
  .exact absurd h hne
  .simp[hd]at h
  .exact .inl (Wm _ _ _ _ h)
  .exact .inr (Wm _ _ _ _ h)
 .intro p i hp j hj;have f:=(List.getElem?_eq_some_iff.1 hp).1;have:=all_eq_true.1 H p (mem_range.2 f);rw[getD_eq_getElem?_getD,hp,Option.getD_some]at this;simpa using all_eq_true.1 this j hj
 .intro p i hp hr j hj;have f:=(List.getElem?_eq_some_iff.1 hp).1;have:=all_eq_true.1 I p (mem_range.2 f);rw[getD_eq_getElem?_getD,hp,Option.getD_some]at this;simp only[Bool.or_eq_true]at this;rcases this with h|h
  .simp[hr]at h
  .exact Wm _ _ _ _ (all_eq_true.1 h j hj)
 .intro p i hp j hj;have f:=(List.getElem?_eq_some_iff.1 hp).1;have:=all_eq_true.1 K p (mem_range.2 f);have e:ts.getD p 0=i:=by rw[getD_eq_getElem?_getD,hp];rfl
  rw[e]at this;exact Wm _ _ _ _ (all_eq_true.1 this j hj)
def J2:l∈Region.ready .any ops listed↔l<ops.size/\listed.getD l true=false/\∀j∈Wt ops l,listed.getD j false=true:=by
 simp only[Region.ready,mem_filter,mem_range,Bool.and_eq_true,Bool.not_eq_true'];constructor
 .rintro⟨hi,h1,h2⟩;refine⟨hi,h1,λ j h=>?_⟩;obtain⟨o,b⟩:∃o,ops[l]?=some o:=⟨ops[l],by simp[hi]⟩;simp only[b,Option.map_some,Option.getD_some]at h2;simp only[Wt,b,Option.map_some,Option.getD_some,mem_map,mem_filter,Array.mem_toList_iff]at h;obtain⟨e,⟨f,hb⟩,rfl⟩:=h;have:=(Array.all_eq_true'.1 h2) e f;simpa[hb]using this
 .rintro⟨hi,h1,h2⟩;refine⟨hi,h1,?_⟩;obtain⟨o,b⟩:∃o,ops[l]?=some o:=⟨ops[l],by simp[hi]⟩;simp only[b,Option.map_some,Option.getD_some];rw[Array.all_eq_true'];intro e f;by_cases hb:Region.binds .any e=true
  .have:=h2 e.on (by simp only[Wt,b,Option.map_some,Option.getD_some,mem_map,mem_filter,Array.mem_toList_iff];exact⟨e,⟨f,hb⟩,rfl⟩);rw[this];simp
  .simp[hb]
structure Jj(ops:Array Oper)(val:Nat->Value)(D:Nat->Prop)(a_0 a:Act):Prop where
 defers:a.defers=a_0.defers
 size:a.tmps.size=a_0.tmps.size
 wr:∀(s:Nat)(j:Nat),WH ops j=some s->D j->s<a_0.tmps.size->a.tmps[s]?=some (val j)
 not:∀s:Nat,(∀j,WH ops j=some s->¬D j)->a.tmps[s]?=a_0.tmps[s]?
def Jj.put{ops:Array Oper}{rl qs ts:List Nat}(hf:Ju ops rl qs ts){val:Nat->Value}{D:Nat->Prop}{a_0 a:Act}(h:Jj ops val D a_0 a){i:Nat}{o:Oper}(F:ops[i]?=some o) :
  Jj ops val (λ j=>D j\/j=i) a_0 (a.put o.dst (val i)):=by
 have E:WH ops i=o.dst:=by simp[WH,F]
 cases B:o.dst with
 |none=>
  rw[B]at E;refine⟨h.defers,h.size,λ s j b f w=>?_,λ s w=>h.not s λ j b f=>w j b (.inl f)⟩;rcases f with f|rfl
  .exact h.wr s j b f w
  .rw[E]at b;cases b
 |some d=>
  rw[B]at E;refine⟨h.defers,by simp[Act.put,h.size],λ s j b f w=>?_,λ s w=>?_⟩
  .by_cases e:d=s
   .subst e;obtain rfl:=hf.once _ _ _ b E;simp only[Act.put];rw[Array.getElem?_setIfInBounds_self_of_lt (by rw[h.size];exact w)]
   .rcases f with f|rfl
    .simp only[Act.put];rw[Array.getElem?_setIfInBounds_ne e];exact h.wr s j b f w
    .rw[E]at b;cases b;exact absurd rfl e
  .have e:d≠s:=λ e=>w i (e▸E) (.inr rfl);simp only[Act.put];rw[Array.getElem?_setIfInBounds_ne e];exact h.not s λ j b f=>w j b (.inl f)
def Jj.val{ops:Array Oper}{val b:Nat->Value}{D:Nat->Prop}{a_0 a:Act}(h:Jj ops val D a_0 a)(E:∀j,D j->b j=val j):Jj ops b D a_0 a:=
 ⟨h.defers,h.size,λ s j w f B=>by rw[E j f];exact h.wr s j w f B,h.not⟩
def Jj.slot(h:Jj ops N D a_0 a)(B:Jj ops N F a_0 av){s:Nat}(G:∀j,WH ops j=some s->(D j↔F j)):a.tmps[s]?=av.tmps[s]?:=by
 by_cases E:∃j,WH ops j=some s/\D j
 .obtain⟨j,b,f⟩:=E;by_cases w:s<a_0.tmps.size
  .rw[h.wr s j b f w,B.wr s j b ((G j b).1 f) w]
  .rw[Array.getElem?_eq_none (by rw[h.size];omega),Array.getElem?_eq_none (by rw[B.size];omega)]
 .rw[h.not s λ j b f=>E ⟨j,b,f⟩,B.not s λ j b f=>E ⟨j,b,(G j b).2 f⟩]
def PT{a':Act}(F:ops[l]?=some o)(f:∀cs b,o.op≠.select cs b)(h:∀s∈looks ops l,a.tmps[s]?=a'.tmps[s]?) :
  execOp a.eval o=execOp a'.eval o/\Region.wanted o (yielded ops a.tmps)=Region.wanted o (yielded ops a'.tmps):=by
 have hl:looks ops l=Oper.looksAt ops o:=by simp[looks,F]
 rw[hl]at h;constructor
 .refine execOp_congr o f λ x hx=>?_;cases x with
  |tmp t=>
   have:=h t (by simp only[Oper.looksAt,mem_append,mem_filterMap,Array.mem_toList_iff];exact .inl ⟨.tmp t,hx,rfl⟩);simp only[Act.eval,Array.getD_eq_getD_getElem?,this]
  |_=>rfl
 .unfold Region.wanted;cases B:o.guard with
  |none=>rfl
  |some p=>
   obtain⟨j,w⟩:=p;simp only[]
   have:yielded ops a.tmps j=yielded ops a'.tmps j:=by
    unfold yielded;cases E:(ops[j]?).bind (·.dst)with
    |none=>rfl
    |some t=>
     have:=h t (by simp only[Oper.looksAt,B,mem_append];exact .inr (by simp[E]));simp only[Option.bind_some,this]
   rw[this]
def Li(listed:Array Bool)(i:Nat):Prop:=listed.getD i false=true
def Yg(h:l<listed.size):Li (listed.setIfInBounds l true) j↔Li listed j\/j=l:=by
 simp only[Li,Array.getD_eq_getD_getElem?,Array.getElem?_setIfInBounds];by_cases e:l=j
 .subst e;simp[h]
 .have:¬j=l:=λ x=>e x.symm;simp[e,this]
def El(hf:Ju ops rl qs ts)(h:JA ops j l):∀p,(qs++ts)[p]?=some l->j∈(qs++ts).take p:=by
 induction h with
 |edge f=>exact λ p hp=>hf.order p _ hp _ f
 |trans _ f w=>
  intro p hp;have:=hf.order p _ hp _ f;obtain⟨p',b⟩:=mem_iff_getElem?.1 this;rw[getElem?_take]at b;split at b
  .have h2:=w p' b;have:(qs++ts).take p' ⊆ (qs++ts).take p:=take_subset_take_left _ O1;exact this h2
  .cases b
def E7(down:∀l,Li listed l->∀j∈Wt ops l,Li listed j)(h:JA ops j l):Li listed l->Li listed j:=by
 induction h with
 |edge b=>exact λ hi=>down _ hi _ b
 |trans _ b f=>exact λ hi=>f (down _ hi _ b)
def J9(down:∀l,Li listed l->∀j∈Wt ops l,Li listed j)(h:JA ops j l)(f:∀j∈Wt ops l,Li listed j):Li listed j:=by
 cases h with
 |edge b=>exact f _ b
 |trans h b=>exact E7 down h (f _ b)
def HI(hf:Ju ops rl qs ts)(h:(qs++ts)[l]?=some len)(b:(qs++ts)[n]?=some len):l=n:=by
 have hp:=(List.getElem?_eq_some_iff.1 h).1;have f:=(List.getElem?_eq_some_iff.1 b).1;exact(getElem?_inj hp hf.nodup).1 (h.trans b.symm)
structure Inv(S:Sys P T)(ops:Array Oper)(rl qs:List Nat)(late:Nat->Bool)(G:Qa T->Prop)(U₀:Qa T)(a_0:Act)(Fin:Act->Qa T->Prop)(listed:Array Bool)(ac:Act)(U:Qa T)
  (pre L:List Nat) (C:Qa T->Prop) (av:Act) (val:Nat->Value):Prop where
 split:qs=pre++L
 der:ZV S ops rl (JA ops) late G U₀ Fin L C av
 mono:XC C
 base:U₀.le U
 c:C U
 av:Jj ops val (·∈pre) a_0 av
 ac:Jj ops val (Li listed) a_0 ac
 sub:∀i,Li listed i->i∈pre
 size:listed.size=ops.size
 down:∀i,Li listed i->∀j∈Wt ops i,Li listed j
 rels:∀i∈pre,i∈rl->Li listed i
 pend:∀i∈pre,¬Li listed i->∃o ai p,qs[p]?=some i/\ops[i]?=some o/\Jj ops val (·∈qs.take p) a_0 ai /\
  ((Region.wanted o (yielded ops ai.tmps)=false/\val i=undef) \/
   (Region.wanted o (yielded ops ai.tmps)=true/\(∀U',U.le U'->QK S o ai (λ v' U2=>v'=val i/\∃U1,Qv U2 U1/\U'.le U1) U')/\(late i=true->∀U',G U'->QK S o ai (λ v' U2=>v'=val i/\∃U1,Qv U2 U1/\U'.le U1) U')))
def ZS(val:Nat->Value)(i:Nat)(v:Value):Nat->Value:=λ j=>if j=i then v else val j
def Hn(h:j≠l):ZS N l v j=N j:=by simp[ZS,h]
def HH(val:Nat->Value)(i:Nat)(v:Value):ZS val i v i=v:=by simp[ZS]
def PQ(hf:Ju ops rl qs ts)(h:qs=pre++l::rest):l∉pre:=by
 intro hx;have:=(nodup_append.1 hf.nodup).1;rw[h]at this;exact(nodup_append.1 this).2.2 l hx l (mem_cons_self ..) rfl
def W7(h:qs=pre++l::rest):qs.take pre.length=pre/\qs[pre.length]?=some l:=by
 subst h;exact⟨S1,S1⟩
def W8{p i:Nat}(hp:qs[p]?=some i):(qs++ts)[p]?=some i:=by
 rw[getElem?_append_left (List.getElem?_eq_some_iff.1 hp).1];exact hp
section
variable{C:Qa T->Prop}{val:Nat->Value}
def Inv.note(hf:Ju ops rl qs ts)(h:Inv S ops rl qs late G U₀ a_0 V listed ac U pre (l::rest) C av val)(v:Value) :
  Jj ops (ZS val l v) (·∈pre) a_0 av/\Jj ops (ZS val l v) (Li listed) a_0 ac /\
  (∀i∈pre,¬Li listed i->∃o f p,qs[p]?=some i/\ops[i]?=some o/\Jj ops (ZS val l v) (·∈qs.take p) a_0 f /\
   ((Region.wanted o (yielded ops f.tmps)=false/\ZS val l v i=undef) \/
    (Region.wanted o (yielded ops f.tmps)=true/\(∀U',U.le U'->QK S o f (λ L F=>L=ZS val l v i/\∃w,Qv F w/\U'.le w) U')/\(late i=true->∀U',G U'->QK S o f (λ L F=>L=ZS val l v i/\∃w,Qv F w/\U'.le w) U')))):=by
 have hx:=PQ hf h.split;refine⟨h.av.val λ j B=>Hn (λ e=>hx (e▸B)),h.ac.val λ j B=>Hn (λ e=>hx (e▸h.sub j B)),λ i hi hl=>?_⟩;obtain⟨o,f,p,hp,P,H,N⟩:=h.pend i hi hl;have I:i≠l:=λ e=>hx (e▸hi);refine⟨o,f,p,hp,P,H.val λ j B=>Hn λ e=>?_,by rw[Hn I];exact N⟩;subst e;obtain⟨p',b⟩:=mem_iff_getElem?.1 B;rw[getElem?_take]at b;split at b
 .rename_i hlt;have Q:=HI hf (W8 (ts:=ts) b) (W8 (W7 h.split).2);obtain⟨M,E⟩:=mem_iff_getElem?.1 hi;have K:M<pre.length:=(List.getElem?_eq_some_iff.1 E).1;have T:=HI hf (W8 (ts:=ts) hp) (W8 (ts:=ts) (p:=M) (i:=i) (by rw[h.split,getElem?_append_left K];exact E));omega
 .cases b
end
section
variable{C:Qa T->Prop}{val:Nat->Value}
def Inv.adv(hf:Ju ops rl qs ts)(h:Inv S ops rl qs late G U₀ a_0 V listed ac U pre (l::rest) C av val)(I:ops[l]?=some o)(F:l∉rl)
  (L:ZV S ops rl (JA ops) late G U₀ V rest C (av.put o.dst v))
  (w:(Region.wanted o (yielded ops av.tmps)=false/\v=undef)\/(Region.wanted o (yielded ops av.tmps)=true/\(∀U',U₀.le U'->C U'->QK S o av (λ H E=>H=v/\∃f,Qv E f/\U'.le f) U')/\(late l=true->∀U',G U'->QK S o av (λ H E=>H=v/\∃f,Qv E f/\U'.le f) U'))) :
  Inv S ops rl qs late G U₀ a_0 V listed ac U (pre++[l]) rest C (av.put o.dst v) (ZS val l v):=by
 obtain⟨K,P,Q⟩:=h.note hf v;have b:=Jj.put hf K I;rw[HH]at b;refine⟨by rw[h.split];simp,L,h.mono,h.base,h.c,?_,P,λ i hi=>mem_append_left _ (h.sub i hi),h.size,h.down,?_,?_⟩
 .have e:(λ j=>j∈pre\/j=l)=(·∈pre++[l]):=by funext j;simp
  rw[<- e];exact b
 .intro i hi hr;rcases mem_append.1 hi with hi|hi
  .exact h.rels i hi hr
  .simp at hi;subst hi;exact absurd hr F
 .intro i hi hl;rcases mem_append.1 hi with hi|hi
  .exact Q i hi hl
  .simp at hi;subst hi;refine⟨o,av,pre.length,(W7 h.split).2,I,by rw[(W7 h.split).1];exact K,?_⟩;rw[HH];rcases w with w|⟨N,w,M⟩
   .exact .inl w
   .exact .inr ⟨N,λ U' B=>w U' (h.base.trans B) (h.mono _ _ h.c B),M⟩
end
def P1(hf:Ju ops rl qs ts)(down:∀n,Li listed n->∀j∈Wt ops n,Li listed j)(hp:qs[l]?=some n)(hl:¬Li listed n)(F:∀j∈Wt ops n,Li listed j)
   (G:len∈looks ops n) (B:WH ops j=some len):Li listed j↔j∈qs.take l:=by
 have w:=W8 (ts:=ts) hp;have E:=(List.getElem?_eq_some_iff.1 hp).1;by_cases e:n=j
 .subst e;refine⟨λ h=>absurd h hl,λ h=>?_⟩;obtain⟨p',b⟩:=mem_iff_getElem?.1 h;rw[getElem?_take]at b;split at b
  .have:=HI hf (W8 (ts:=ts) b) w;omega
  .cases b
 .rcases hf.look n (mem_of_getElem? hp) j len e B G with hb|hb
  .have h1:=J9 down hb F;have h2:=El hf hb l w;rw[take_append_of_le_length O1]at h2;exact⟨λ _=>h2,λ _=>h1⟩
  .refine⟨λ h=>absurd (E7 down hb h) hl,λ h=>?_⟩;obtain⟨p',b⟩:=mem_iff_getElem?.1 h;rw[getElem?_take]at b;split at b
   .have h2:=El hf hb p' (W8 (ts:=ts) b);obtain⟨H,f⟩:=mem_iff_getElem?.1 h2;rw[getElem?_take]at f;split at f
    .have:=HI hf f w;omega
    .cases f
   .cases b
section
variable{C:Qa T->Prop}{val:Nat->Value}
def Inv.reach(hf:Ju ops rl qs ts)(hi:l∈qs)(Q:∀j∈Wt ops l,Li listed j) :
  ∀(L pre:List Nat)(C:Qa T->Prop)(av:Act)(val:Nat->Value),Inv S ops rl qs late G U₀ a_0 V listed ac U pre L C av val ->
   ∃b K N w f,Inv S ops rl qs late G U₀ a_0 V listed ac U b K N w f/\(l∈b\/∃rest,K=l::rest/\l∈rl):=by
 intro L
 induction L with
 |nil=>
  intro pre C av val h;exact⟨pre,[],C,av,val,h,.inl (by have:=h.split;simp at this;exact this▸hi)⟩
 |cons x rest M=>
  intro pre C av val h;by_cases hx:x∈rl
  .by_cases e:x=l
   .subst e;exact⟨pre,_,C,av,val,h,.inr ⟨rest,rfl,hx⟩⟩
   .by_cases hpre:l∈pre
    .exact⟨pre,_,C,av,val,h,.inl hpre⟩
    .exfalso
     have hm:l∈rest:=by
      rw[h.split]at hi;simp at hi;rcases hi with hi|hi|hi
      .exact absurd hi hpre
      .exact absurd hi.symm e
      .exact hi
     have hb:JA ops x l:=by
      refine hf.behind pre.length x (W7 h.split).2 hx l ?_;rw[h.split];simp[hm]
     exact PQ hf h.split (h.sub x (J9 h.down hb Q))
  .have hder:=h.der;cases hder with
   |un _ E I B=>exact M _ _ _ _ (h.adv hf E hx B (.inl ⟨I,rfl⟩))
   |det v _ E I H P B=>exact M _ _ _ _ (h.adv hf E hx B (.inr ⟨I,H,P⟩))
   |rel F hm=>exact absurd hm hx
   |last hm=>exact absurd hm hx
end
def Pr(h:QK S o a K U)(f:∀v U,K v U->V (a.put o.dst v) U):G0 S ro o a V U:=
 QK.opV (h.mono f)
def Pq(h:QK S o a K U):∀c,o.op≠.defer c:=by
 intro c e;unfold QK at h;simp only[execOp,e]at h;have B:=(Oo (P:=P) (resolve a.eval c o.type) (λ d=>(pure (.defer d):Sem Next))).1 h;have b:Qq P (resolve a.eval c o.type) (λ _ _=>False) U:=Qq.mono _ B λ d U E=>E;obtain⟨callee,args,w⟩:=c;cases callee with
 |value f=>cases F:a.eval f <;> simp[resolve,Deferred.ofValue,F,Qq,pure,stuck]at b
 |invoke r G=>simp[resolve,Qq,pure]at b
 |builtin bb=>simp[resolve,Qq,pure]at b
def KW{k t:Nat}(h:Region.ready .any ops listed≠[]):∃i∈Region.ready .any ops listed,∃w,Region.linearise.go .any ops (k+1) t listed []=i::Region.linearise.go .any ops k w (listed.setIfInBounds i true) []:=by
 have b:t % (Region.ready .any ops listed).length<(Region.ready .any ops listed).length:=Nat.mod_lt _ (length_pos_iff.2 h);refine⟨(Region.ready .any ops listed)[t % (Region.ready .any ops listed).length],getElem_mem _,t / (Region.ready .any ops listed).length,?_⟩;have f:(Region.ready .any ops listed)[t % (Region.ready .any ops listed).length]?=some (Region.ready .any ops listed)[t % (Region.ready .any ops listed).length]:=getElem?_eq_getElem b;simp only[Region.linearise.go]
 change(match(Region.ready .any ops listed)[t % (Region.ready .any ops listed).length]? with
   |some i=>Region.linearise.go .any ops k (t / (Region.ready .any ops listed).length) (listed.setIfInBounds i true) [i]
   |none=>[].reverse)=_
 rw[f];simp only[];rw[linearise_go_acc,reverse_singleton,singleton_append]
def VL(hf:Ju ops rl qs ts)(E:listed.size=ops.size):∀(p i:Nat),(qs++ts)[p]?=some i->¬Li listed i->∃x,x∈Region.ready .any ops listed:=by
 intro p
 induction p using Nat.strongRecOn with
 |ind p F=>
  intro i hp hi;by_cases w:∀j∈Wt ops i,Li listed j
  .refine⟨i,J2.2 ⟨(hf.mem i).2 (mem_of_getElem? hp),?_,w⟩⟩;have h:i<listed.size:=by rw[E];exact(hf.mem i).2 (mem_of_getElem? hp)
   simp only[Li,Array.getD_eq_getD_getElem?,Array.getElem?_eq_getElem h,Option.getD_some,Bool.not_eq_true]at hi ⊢;exact hi
  .obtain⟨j,f,hl⟩:∃j∈Wt ops i,¬Li listed j:=by
    apply Classical.byContradiction;intro B;exact w λ j f=>Classical.byContradiction λ hl=>B ⟨j,f,hl⟩
   obtain⟨p',b⟩:=mem_iff_getElem?.1 (hf.order p i hp j f);rw[getElem?_take]at b;split at b
   .exact F p' (by assumption) j b hl
   .cases b
def KZ(h:l∈Region.ready .any ops listed):¬Li listed l:=by
 have:=(J2.1 h).2.1;simp only[Li,Array.getD_eq_getD_getElem?]at this ⊢;cases hx:listed[l]? <;> simp_all
def wx(hf:Ju ops rl qs ts)(hl:∀i,Li listed i↔i∈(qs++ts).take l):∀i,Li listed i->∀j∈Wt ops i,Li listed j:=by
 intro i hi j f;rw[hl]at hi ⊢;obtain⟨h,b⟩:=mem_iff_getElem?.1 hi;rw[getElem?_take]at b;split at b
 .have:=hf.order h i b j f;exact take_subset_take_left _ O1 this
 .cases b
def IV(hf:Ju ops rl qs ts):∀(q:Nat)(p t:Nat)(listed:Array Bool),p+q=ts.length->listed.size=ops.size->(∀i,Li listed i↔i∈(qs++ts).take (qs.length+p)) ->
  Region.linearise.go .any ops q t listed []=ts.drop p:=by
 intro q
 induction q with
 |zero=>intro p t listed hp _ _;simp[Region.linearise.go,drop_of_length_le (show ts.length<=p by omega)]
 |succ q N=>
  intro p t listed hp L hl;have B:p<ts.length:=O1
  have hx:ts[p]?=some ts[p]:=getElem?_eq_getElem B;have f:(qs++ts)[qs.length+p]?=some ts[p]:=by rw[getElem?_append_right O1];simp
  have E:¬Li listed ts[p]:=by
   rw[hl];intro h;obtain⟨F,b⟩:=mem_iff_getElem?.1 h;rw[getElem?_take]at b;split at b
   .have:=HI hf b f;omega
   .cases b
  obtain⟨y,hy⟩:=VL hf L _ _ f E;obtain⟨i,hi,P,G⟩:=KW (k:=q) (t:=t) (ne_nil_of_mem hy);have w:=wx hf hl
  have H:i=ts[p]:=by
   have I:=KZ hi;have M:=(J2.1 hi).2.2;have hm:=(hf.mem i).1 (J2.1 hi).1;obtain⟨F,b⟩:=mem_iff_getElem?.1 hm;by_cases h1:F<qs.length+p
   .exfalso;apply I;rw[hl];exact mem_iff_getElem?.2 ⟨F,by rw[getElem?_take,if_pos h1];exact b⟩
   .by_cases h2:F=qs.length+p
    .subst h2;rw[f]at b;cases b;rfl
    .exfalso;have K:ts[F-qs.length]?=some i:=by rw[getElem?_append_right O1]at b;exact b
     refine E (J9 w (hf.tail _ i K ts[p] ?_) M);refine mem_append_right _ (mem_iff_getElem?.2 ⟨p,?_⟩);rw[getElem?_take,if_pos O1];exact hx
  subst H;rw[G,N (p+1) P _ O1 (by simpa using L),drop_eq_getElem_cons B];intro j;rw[Yg (by rw[L];exact(J2.1 hi).1),hl]
  have:(qs++ts).take (qs.length+(p+1))=(qs++ts).take (qs.length+p)++[ts[p]]:=by
   rw[<- Nat.add_assoc,take_add_one,f];rfl
  rw[this];simp
def Jj.eq{b:Nat->Prop}(h:Jj ops N D a_0 a)(f:Jj ops N b a_0 av)(E:∀j,D j↔b j):a=av:=by
 obtain⟨F,w⟩:=a;obtain⟨G,B⟩:=av;have h1:w=B:=h.defers.trans f.defers.symm
 have h2:F=G:=by
  apply Array.ext_getElem?;intro s;exact h.slot f (s:=s) λ j _=>E j
 rw[h1,h2]
section
variable{C:Qa T->Prop}{val:Nat->Value}
def pP(hf:Ju ops rl qs ts):∀(r t:Nat)(listed:Array Bool)(ac:Act)(U:Qa T)(pre L:List Nat)(C:Qa T->Prop)(av:Act)(val:Nat->Value),
  Inv S ops rl qs late G U₀ a_0 (λ a U=>QU S fn ro ops ts Q a U) listed ac U pre L C av val->(qs.filter λ i=>!listed.getD i false).length=r ->
  QU S fn ro ops (Region.linearise.go .any ops (r+ts.length) t listed []) Q ac U:=by
 intro r
 induction r generalizing U₀ with
 |zero=>
  intro t listed ac U pre L C av val h hr
  have ad:∀i∈qs,Li listed i:=by
   intro i hi;have:=filter_eq_nil_iff.1 (length_eq_zero_iff.1 hr) i hi;simpa[Li]using this
  have hL:L=[]:=by
   cases L with
   |nil=>rfl
   |cons x rest=>exact absurd (h.sub x (ad x (by rw[h.split];simp))) (PQ hf h.split)
  subst hL;have X:pre=qs:=by have:=h.split;simp at this;exact this.symm
  subst X;have af:=h.der;cases af with
  |nil ag=>
   have e:av=ac:=h.av.eq h.ac λ j=>⟨ad j,h.sub j⟩;have:=ag U h.base h.c;rw[e]at this;rw[Nat.zero_add,IV hf ts.length 0 t listed O1 h.size λ i=>?_]
   .simpa using this
   .rw[Nat.add_zero,take_left']
    .exact⟨h.sub i,ad i⟩
    .rfl
 |succ r ih=>
  intro t listed ac U pre L C av val h hr;obtain⟨q,hq⟩:∃q,q∈qs.filter λ i=>!listed.getD i false:=exists_mem_of_length_pos O1;have ax:=(mem_filter.1 hq).1;have aw:¬Li listed q:=by have:=(mem_filter.1 hq).2;simpa[Li]using this
  obtain⟨pq,a2⟩:=mem_iff_getElem?.1 ax;obtain⟨y,hy⟩:=VL hf h.size _ _ (W8 (ts:=ts) a2) aw;obtain⟨i,hi,t',az⟩:=KW (k:=r+ts.length) (t:=t) (ne_nil_of_mem hy);have aj:=KZ hi;have M:=(J2.1 hi).2.2;have au:=(J2.1 hi).1
  have aq:i∈qs:=by
   rcases mem_append.1 ((hf.mem i).1 au)with hm|hm
   .exact hm
   .obtain⟨p1,hp1⟩:=mem_iff_getElem?.1 hm;exact absurd (J9 h.down (hf.tail p1 i hp1 q (mem_append_left _ ax)) M) aw
  rw[show r+1+ts.length=(r+ts.length)+1 by omega,az];have E:∀j,Li (listed.setIfInBounds i true) j↔Li listed j\/j=i:=λ j=>Yg (by rw[h.size];exact au)
  have I:(qs.filter λ x=>!(listed.setIfInBounds i true).getD x false).length=r:=by
   have a1:=(nodup_append.1 hf.nodup).1
   have e:(qs.filter λ x=>!(listed.setIfInBounds i true).getD x false)=(qs.filter λ x=>!listed.getD x false).filter (λ x=>x != i):=by
    rw[filter_filter];refine filter_congr λ x _=>?_;have:=E x;simp only[Li]at this;cases hx:(listed.setIfInBounds i true).getD x false <;> cases a3:listed.getD x false <;> by_cases e:x=i <;> simp_all
   rw[e,<- Nodup.erase_eq_filter (a1.filter _),length_erase_of_mem (mem_filter.2 ⟨aq,by simpa[Li]using aj⟩),hr];rfl
  obtain⟨H,L',C',aa,Z,w,al⟩:=h.reach hf aq M
  have P:∀j,Li (listed.setIfInBounds i true) j->∀k∈Wt ops j,Li (listed.setIfInBounds i true) k:=by
   intro j f k hk;rw[E]at f ⊢;rcases f with f|rfl
   .exact .inl (h.down j f k hk)
   .exact .inl (M k hk)
  have W:∀{val:Nat->Value}{o:Oper},ops[i]?=some o->Jj ops val (Li listed) a_0 ac->Jj ops val (Li (listed.setIfInBounds i true)) a_0 (ac.put o.dst (val i)):=by
   intro val o V ha;have:=Jj.put hf ha V;have e:Li (listed.setIfInBounds i true)=λ j=>Li listed j\/j=i:=by funext j;exact propext (E j)
   rw[e];exact this
  by_cases X:i∈H
  ·
   obtain⟨o,ai,p,hp,V,ay,hh⟩:=w.pend i X aj;have B:=PT V (hf.nosel i o V) (a:=ac) (a':=ai) λ s hs=>w.ac.slot ay λ j f=>P1 hf w.down hp aj M hs f
   have next:∀N,U.le N->Inv S ops rl qs late G U₀ a_0 (λ a U=>QU S fn ro ops ts Q a U) (listed.setIfInBounds i true) (ac.put o.dst (Z i)) N H L' C' aa Z:=λ N K=>
    ⟨w.split,w.der,w.mono,w.base.trans K,w.mono _ _ w.c K,w.av,W V w.ac,λ j f=>((E j).1 f).elim (w.sub j) (λ e=>e▸X),by simpa using w.size,P,λ j f hr=>(E j).2 (.inl (w.rels j f hr)),
     λ j f hl=>by
      obtain⟨o,ai,p,a,b,c,d⟩:=w.pend j f λ hx=>hl ((E j).2 (.inl hx));exact⟨o,ai,p,a,b,c,d.imp id λ⟨x,y,z⟩=>⟨x,λ U' hU=>y U' (K.trans hU),z⟩⟩⟩
   rcases hh with⟨hw,hv⟩|⟨hw,ak,hg⟩
   .refine P2 V (by rw[B.2];exact hw) ?_;have:=ih t' _ _ _ _ _ _ _ _ (next U (.refl U)) I;rw[hv]at this;exact this
   .have Y:QK S o ac (λ v' U2=>v'=Z i/\∃N,Qv U2 N/\U.le N) U:=by have:=ak U (.refl U);unfold QK at this ⊢;rw[B.1];exact this
    refine XS V (by rw[B.2];exact hw) (.inr (Pq Y)) (Pr Y λ v U2 hv=>?_);obtain⟨rfl,N,hs,K⟩:=hv;exact Gj hs (ih t' _ _ _ _ _ _ _ _ (next N K) I)
  .obtain⟨rest,rfl,hrl⟩:=al.resolve_left X;have af:=w.der;cases af with
   |un hx _ _ _=>exact absurd hrl hx
   |det _ hx _ _ _ _ _=>exact absurd hrl hx
   |@rel _ _ _ _ o F _ hF V hw ak hd=>
    obtain⟨an,ah⟩:=W7 w.split
    have B:=PT V (hf.nosel i o V) (a:=ac) (a':=aa) λ s hs=>w.ac.slot w.av λ j f=>by
     have:=P1 hf w.down ah aj M hs f;rw[an]at this;exact this
    have Y:QK S o ac (λ v' U2=>∃N,Qv U2 N/\F v' N/\U.le N) U:=by have:=ak U w.base w.c;unfold QK at this ⊢;rw[B.1];exact this
    refine XS V (by rw[B.2];exact hw) (.inr (Pq Y)) (Pr Y λ v U2 hv=>?_);obtain⟨N,hs,ao,K⟩:=hv;refine Gj hs ?_;obtain⟨n1,n2,n3⟩:=w.note hf v;have ae:=Jj.put hf n1 V;have ab:=W V n2;rw[HH]at ae ab;refine ih t' _ _ N (H++[i]) rest (λ U'=>C' U'/\F v U') (aa.put o.dst v) (ZS Z i v) ⟨by rw[w.split];simp,hd v ⟨N,w.base.trans K,w.mono _ _ w.c K,ao⟩,λ a b⟨x,y⟩hl=>⟨w.mono a b x hl,hF v a b y hl⟩,w.base.trans K,⟨w.mono _ _ w.c K,ao⟩,?_,ab,?_,by simpa using w.size,P,?_,?_⟩ I
    .have e:(λ j=>j∈H\/j=i)=(·∈H++[i]):=by funext j;simp
     rw[<- e];exact ae
    .intro j f;rcases(E j).1 f with f|rfl
     .exact mem_append_left _ (w.sub j f)
     .simp
    .intro j f hr;rw[E];rcases mem_append.1 f with f|f
     .exact .inl (w.rels j f hr)
     .exact .inr (by simpa using f)
    .intro j f hl;rcases mem_append.1 f with f|f
     .obtain⟨o,ai,p,a,b,c,d⟩:=n3 j f λ hx=>hl ((E j).2 (.inl hx));exact⟨o,ai,p,a,b,c,d.imp id λ⟨x,y,z⟩=>⟨x,λ U' hU=>y U' (K.trans hU),z⟩⟩
     .exact absurd ((E j).2 (.inr (by simpa using f))) hl
   |@last _ _ _ o _ hG am V hw ak ag=>
    obtain⟨an,ah⟩:=W7 w.split
    have B:=PT V (hf.nosel i o V) (a:=ac) (a':=aa) λ s hs=>w.ac.slot w.av λ j f=>by
     have:=P1 hf w.down ah aj M hs f;rw[an]at this;exact this
    have Y:QK S o ac (λ v' U2=>v'=undef/\∃N,Qv U2 N/\G N) U:=by have:=ak U w.base w.c;unfold QK at this ⊢;rw[B.1];exact this
    refine XS V (by rw[B.2];exact hw) (.inr (Pq Y)) (Pr Y λ v U2 hv=>?_);obtain⟨rfl,N,hs,ap⟩:=hv;refine Gj hs ?_;obtain⟨n1,n2,n3⟩:=w.note hf undef;have ae:=Jj.put hf n1 V;have ab:=W V n2;rw[HH]at ae ab;refine ih (U₀:=N) t' _ _ N (H++[i]) [] G (aa.put o.dst undef) (ZS Z i undef) ⟨by rw[w.split];simp,.nil λ U' _ hg=>ag ⟨U,w.base,w.c⟩ U' hg,hG,.refl N,ap,?_,ab,?_,by simpa using w.size,P,?_,?_⟩ I
    .have e:(λ j=>j∈H\/j=i)=(·∈H++[i]):=by funext j;simp
     rw[<- e];exact ae
    .intro j f;rcases(E j).1 f with f|rfl
     .exact mem_append_left _ (w.sub j f)
     .simp
    .intro j f hr;rw[E];rcases mem_append.1 f with f|f
     .exact .inl (w.rels j f hr)
     .exact .inr (by simpa using f)
    .intro j f hl;rcases mem_append.1 f with f|f
     .have hnj:¬Li listed j:=λ hx=>hl ((E j).2 (.inl hx));obtain⟨o,ai,p,a,b,c,d⟩:=n3 j f hnj;refine⟨o,ai,p,a,b,c,d.imp id λ⟨x,y,z⟩=>?_⟩
      have a0:late j=true:=by
       cases hb:late j with
       |true=>rfl
       |false=>exact absurd (J9 h.down (am j hb) M) hnj
      exact⟨x,λ U' hU=>z a0 U' (hG _ _ ap hU),z⟩
     .exact absurd ((E j).2 (.inr (by simpa using f))) hl
end
def Dj(rl qs ts:List Nat)(hm:P.follows .mixedOrders=true)(w:PY ops rl qs ts=true)
  (h:ZV S ops rl (JA ops) late G U (λ a U=>QU S fn ro ops ts Q a U) qs (λ _=>True) a):Zq S fn ro (.region l ops true) Q a U:=by
 have hf:=Fj w;refine L5 λ t=>?_;simp only[Region.schedule,hm,Bool.true_or,if_true,Region.linearise]
 have B:(qs.filter λ i=>!(Array.replicate ops.size false).getD i false).length=qs.length:=by
  congr 1;rw[filter_eq_self];intro x _;simp[Array.getElem?_replicate];split <;> rfl
 have f:ops.size=qs.length+ts.length:=by
  have h1:(qs++ts).Perm (range ops.size):=by
   refine(perm_ext_iff_of_nodup hf.nodup nodup_range).2 λ x=>?_;rw[mem_range];exact(hf.mem x).symm
  have:=h1.length_eq;simp at this;omega
 have b:∀i,¬Li (Array.replicate ops.size false) i:=by
  intro i h;simp only[Li,Array.getD_eq_getD_getElem?,Array.getElem?_replicate]at h;split at h <;> simp at h
 have:=pP (S:=S) (fn:=fn) (ro:=ro) (Q:=Q) hf qs.length t (Array.replicate ops.size false) a U [] qs (λ _=>True) a (λ _=>undef)
  ⟨rfl,h,λ _ _ _ _=>trivial,.refl U,trivial,⟨rfl,rfl,λ _ _ _ h=>by simp at h,λ _ _=>rfl⟩,⟨rfl,rfl,λ _ j _ h=>absurd h (b j),λ _ _=>rfl⟩,λ i h=>absurd h (b i),S1,λ i h=>absurd h (b i),S1,S1⟩ B
 rw[<- f]at this;exact this
def J.body(hb:Fr fn none b)(h:Zq S fn none c Q a U)
  (F:∀e a' U',Q e a' U'->(e=.normal\/e=.ret)/\∀todo,J S Stop m (Rf { fr b a' todo with mode:=.returning } cs) U'):J S Stop m (R b a [.code c] cs) U:=by
 refine h Stop m b [] cs hb λ e a' U' q=>?_;obtain⟨E,B⟩:=F e a' U' q;have f:=hb.2.1;rcases E with rfl|rfl
 .refine .still (g':=Rf { fr b a' []with mode:=.returning } cs) rfl (λ w=>?_) (B []);simp[R,Rf,stepG,stepG.exec,fr,f]
 .simp only[Xr,Xt,f];exact⟨.inr trivial,B⟩
def X4(P:Program)(f:Func)(Q:Value->Qa T->Prop)(tmps:Array Value):List Deferred->Qa T->Prop
 |[],U=>Qq P (results f tmps) Q U
 |{ target:=.collected blk,.. }::ds,U=>Qq P (Instr.takeDeferred blk) (λ b U'=>b=[]/\X4 P f Q tmps ds U') U
 |_,_=>False
def X4.step(hf:P.funcs[b.fn]?=some fd)(E:b.kind=.normal\/b.kind=.wrapped)(I:∀v U',R' v U'->J S Stop m (Rf (A.finish v) cs) U') :
  ∀(ds:List Deferred)(todo:List Item)(U:Qa T),X4 P fd R' tmps ds U->J S Stop m (Rf { fr b ⟨tmps,ds⟩ todo with mode:=.returning } (A::cs)) U:=by
 intro ds
 induction ds with
 |nil=>
  intro todo U h;refine .sem _ rfl h λ w x w' es B _=>⟨Rf (A.finish x) cs,seen P b.fn es,?_,Jm P _ es,λ U' q=>I _ _ q⟩;obtain⟨G,F⟩:Sem.run P (results fd tmps) w=.ok x w'/\Sem.events P (results fd tmps) w #[]=es:=by simpa using B
  rcases E with E|E <;> simp[Rf,stepG,unwind,fr,hf,G,F,doReturn,E,GStep.after]
 |cons d ds K=>
  intro todo U h;obtain⟨L,args⟩:=d;cases L with
  |collected blk=>
   simp only[X4]at h;refine .sem _ rfl h λ w x w' es B H=>⟨Rf { fr b ⟨tmps,x++ds⟩ todo with mode:=.returning } (A::cs),seen P b.fn es,?_,Jm P _ es,λ U' q=>?_⟩
   .obtain⟨G,F⟩:Sem.run P (Instr.takeDeferred blk) w=.ok x w'/\Sem.events P (Instr.takeDeferred blk) w #[]=es:=by simpa using B
    simp[Rf,stepG,unwind,fr,G,F,GStep.after]
   .obtain⟨rfl,q⟩:=q;exact K todo U' q
  |_=>exact h.elim
def Un(P:Program)(f:Func)(Q:Value->Qa T->Prop):Ex->Act->Qa T->Prop
 |.normal,a,U=>X4 P f Q a.tmps a.defers U
 |.ret,a,U=>X4 P f Q a.tmps a.defers U
 |.exit _,_,_=>False
def Qb.of_body{f:FuncId}(hf:P.funcs[f]?=some fd)(hb:fd.body=some c)
  (h:Zq S f none c (Un P fd K) { tmps:=args++Array.replicate (fd.ntmps-args.size) undef,defers:=[] } U):Qb S f args K U:=by
 intro Stop m w cs E
 let b:Frame:={ (default:Frame)with fn:=f,kind:=.normal }
 have B:Rf (Frame.enter P f args .normal) (w::cs)=R b { tmps:=args++Array.replicate (fd.ntmps-args.size) undef,defers:=[] } [.code c] (w::cs):=by
  simp[Rf,R,Frame.enter,fr,hf,hb,b];rfl
 rw[B];refine J.body (fn:=f) ⟨rfl,rfl,by simp[b],S1⟩ h λ e a' U' q=>?_;cases e with
 |normal=>exact⟨.inl rfl,λ todo=>X4.step hf (.inl rfl) E a'.defers todo U' q⟩
 |ret=>exact⟨.inr rfl,λ todo=>X4.step hf (.inl rfl) E a'.defers todo U' q⟩
 |exit id=>exact q.elim
def Ug:Ex->Option Code
 |.normal=>none
 |.ret=>some .ret
 |.exit id=>some (.exit id)
def LH(P:Program)(l:Nat)(Q:Value->Qa T->Prop)(e:Ex)(_:Act)(U:Qa T):Prop:=Qq P (Instr.endRound l (Ug e)) Q U
def WC.of_body{f:FuncId}
  (h:Zq S f (some l) assign (λ e a' U'=>e=.normal/\Qq P (Instr.beginRound l) (λ _ G=>Zq S f (some l) as (LH P l R') a' G) U') ⟨tmps,[]⟩ U):WC S l f tmps assign as R' U:=by
 intro Stop m c cs V
 let b:Frame:={ (default:Frame)with fn:=f,kind:=.normal,roundOf:=some l }
 have hb:Fr f (some l) b:=⟨rfl,rfl,by simp[b],by simp[b]⟩;have F:b.roundOf=some l:=rfl
 have E:Rf (Frame.round l f tmps assign as .normal) (c::cs)=R b ⟨tmps,[]⟩ [.code assign,.beginRound,.code as] (c::cs):=by
  simp[Rf,R,Frame.round,fr,b]
 rw[E];refine h Stop m b [.beginRound,.code as] (c::cs) hb λ e a' U' q=>?_;obtain⟨rfl,q⟩:=q;show J S Stop m (R b a' [.beginRound,.code as] (c::cs)) U'
 have q':Qq P (do Instr.beginRound l;pure Next.skip:Sem Next) (λ n G=>n=.skip/\Zq S f (some l) as (LH P l R') a' G) U':=
  (Oo _ _).2 (Qq.mono _ q λ _ _ h=>⟨rfl,h⟩)
 refine .sem _ rfl q' λ w x w' es B I=>⟨R b a' [.code as] (c::cs),seen P f es,?_,Jm P _ es,λ G q=>?_⟩
 .obtain⟨_,rfl,_⟩:=I;have K:(b.kind==CallKind.early)=false:=rfl;show stepG.apply P true (fr b a' [.beginRound,.code as]) (c::cs) none (do (Instr.beginRound l);pure .skip) w=_;simp only[stepG.apply,if_true,B];simp[fr,K,GStep.after,R,Frame.finish,b]
 .obtain⟨_,q⟩:=q;refine q Stop m b [] (c::cs) hb λ e H L q=>?_
  have leave:Xt S Stop m b (c::cs) (Ug e) H L:=by
   simp only[Xt,F];exact⟨c,cs,rfl,Qq.mono _ q λ v M Y=>V v M Y⟩
  cases e with
  |normal=>
   simp only[Xt,F,Ug]at leave;obtain⟨c',rest,e,X⟩:=leave;cases e;refine .sem _ rfl X λ w x w' es B _=>⟨Rf (c.finish x) cs,seen P f es,?_,Jm P _ es,λ _ h=>h⟩;obtain⟨W,N⟩:Sem.run P (Instr.endRound l none) w=.ok x w'/\Sem.events P (Instr.endRound l none) w #[]=es:=by simpa using B
   simp[R,stepG,stepG.exec,fr,b,W,N,doReturn,GStep.after,Rf]
  |exit id=>exact .inr ⟨rfl,leave⟩
  |ret=>exact leave
def K7(f:Operand)(l:Nat):Call:={ callee:=.value f,args:=#[.const (.func (.yield l) #[] #[])],argTypes:=#[] }
def zT(h:Qq P (Instr.enterLoop fn a.tmps params assign as ro) (λ lm U1=>
   Qq P (do let d <- resolve a.eval (K7 x lm.1) 0;invoke d.target d.args:Sem Next) (λ nx U2=>match nx with
    |.enter f' args=>Qb S f' args (λ _ U3=>Qq P (Instr.endLoop lm.1) (λ j U4=>match j with
      |none=>Q .normal { a with defers:=lm.2++a.defers } U4
      |some c=>Zq S fn ro c Q { a with defers:=lm.2++a.defers } U4) U3) U2
    |_=>False) U1) U):Zq S fn ro (.rangeFunc x params assign as) Q a U:=by
 intro Stop m b k cs hb hc;have ad:(b.kind==CallKind.early)=false:=by simpa using hb.2.2.1
 refine .priv ⟨rfl,λ w ok=>?_⟩;obtain⟨⟨l,mark⟩,ab,I,U1,V,E,G,aa,h,Y⟩:=Qq.sound _ (es₀:=#[]) h ok;obtain⟨nx,ac,K,U2,W,F,H,ae,h,Z⟩:=Qq.sound _ (es₀:=#[]) h aa;have M:(Instr.enterLoop b.fn a.tmps params assign as b.roundOf).runT P w #[]=(.ok (l,mark) ab,I):=by rw[hb.1,hb.2.1];simpa using V
 have N:(do let d <- resolve a.eval (K7 x l) 0;invoke d.target d.args:Sem Next).runT P ab #[]=(.ok nx ac,K):=by simpa using W
 cases nx with
 |enter f' args=>
  refine⟨Rf (Frame.enter P f' args .normal) (fr b { a with defers:=mark++a.defers } (.inRangeFunc l::k)::cs),ac,seen P b.fn I++seen P b.fn K,U2,?_,?_,G.trans H,ae,Z.trans Y,?_⟩
  .have B:(fr b { a with defers:=mark++a.defers } (.inRangeFunc l::k)).eval=a.eval:=by rw[Y8];rfl
   show GStep.after (seen P b.fn ((Instr.enterLoop b.fn a.tmps params assign as b.roundOf).runT P w #[]).2) (match((Instr.enterLoop b.fn a.tmps params assign as b.roundOf).runT P w #[]).1 with
    |.ok (l,mark) w=>stepG.apply P true (fr b { a with defers:=mark++a.defers } (.inRangeFunc l::k)) cs none (do let d <- resolve (fr b { a with defers:=mark++a.defers } (.inRangeFunc l::k)).eval (K7 x l) 0;invoke d.target d.args) w
    |.halt _ w=>_)=_
   rw[M];simp only[B];simp only[stepG.apply,if_true,N];simp[fr,ad,GStep.after,Rf]
  .intro e B;rcases Array.mem_append.1 B with B|B
   .exact⟨(E e (Jm P _ _ e B)).1,(E e (Jm P _ _ e B)).2.mono H.size⟩
   .exact⟨JY.of G (F e (Jm P _ _ e B)).1,(F e (Jm P _ _ e B)).2⟩
  .refine h Stop m _ cs λ v U3 h=>?_;have L:(fr b { a with defers:=mark++a.defers } (.inRangeFunc l::k)).finish v=fr b { a with defers:=mark++a.defers } (.endRangeFunc l::k):=by simp[Frame.finish,fr]
   rw[L];refine .sem (g:=R b { a with defers:=mark++a.defers } (.endRangeFunc l::k) cs) _ rfl h λ w j w' es X _=>⟨R b { a with defers:=mark++a.defers } ((j.map Item.code).toList++k) cs,seen P b.fn es,?_,Jm P _ es,λ U4 q=>?_⟩
   .obtain⟨hr,B⟩:Sem.run P (Instr.endLoop l) w=.ok j w'/\Sem.events P (Instr.endLoop l) w #[]=es:=by simpa using X
    simp[R,stepG,stepG.exec,fr,hr,B,GStep.after]
   .cases j with
    |none=>exact hc _ _ _ q
    |some c=>exact q Stop m b k cs hb hc
 |_=>exact h.elim
def JS(U:Qa T):Prop:=∀r∈U.M,U.I r.blk=none
def Qb.sep{f:FuncId}{args:Array Value}{R R':Value->Qa T->Prop}{U:Qa T}(h:Qb S f args R U)(B:∀v U',JS U'->R v U'->∃U'',Qv U' U''/\R' v U''):Qb S f args R' U:=by
 intro Stop m c cs k;refine h Stop m c cs λ v U' r=>?_;by_cases b:JS U'
 .obtain⟨U'',h1,h2⟩:=B v U' b r;exact .shift h1 (k v _ h2)
 .exact .priv ⟨rfl,λ w ok=>absurd ok.sep b⟩
def Qb.sep0(h:JS U->Qb S fn args K U):Qb S fn args K U:=by
 intro Stop m c cs k;by_cases b:JS U
 .exact h b Stop m c cs k
 .exact .priv ⟨rfl,λ w ok=>absurd ok.sep b⟩
def Zm(S:Sys P T)(l:Nat)(vs:List Value)(K:Value->Qa T->Prop)(U:Qa T):Prop:=Qq P (Instr.yield l vs.toArray) (ZG S K) U
abbrev Fm:=Nat->Value
variable{f:Fm}
def JH(f:Fm)(d:Nat)(v:Value):Fm:=λ t=>bif Nat.beq t d then v else f t
def ZC(f:Fm):Option Nat->Value->Fm
 |some d,v=>JH f d v
 |none,_=>f
def Zf(f:Fm):Operand->Value
 |.tmp t=>f t
 |.const v=>v
 |.global g=>.pb g
 |.func g=>.func (.func g) #[] #[]
inductive O where
 |mv (x:Operand)
 |pick (c a b:Operand)
 |add (x y:Operand)|sub (x y:Operand)|mul (x y:Operand)
 |cmp (op:BinOp) (x y:Operand)
 |beq (op:BinOp) (x y:Operand)
 |ar (op:BinOp) (x y:Operand)
 |teq (op:BinOp) (x y:Operand)
 |not (x:Operand)
 |len (x:Operand)
 |lenT (x:Operand)
 |lenM (x:Operand)
 |conv (k:IntKind) (x:Operand)
 |off (n:Nat) (x:Operand)
 |idx (sz:Nat) (x i:Operand)
 |aidx (n sz:Nat) (x i:Operand)
 |sidx (x i:Operand)
 |ld (x:Operand)
 |ldn (n:Nat) (x:Operand)
 |st (n:Nat) (x v:Operand)
 |box (t:TypeId) (x:Operand)
 |boxM (t:TypeId) (x:Operand)
 |alloc (t:TypeId) (zero:Array Value)
 |ext (x:Operand) (i:Nat)
 |part (off n:Nat) (x:Operand)
 |part1 (off:Nat) (x:Operand)
 |mkf (fn:Fn) (first capt:Array Operand)
 |call (f:Operand) (args:Array Operand)
 |nilc (x:Operand)
 |sub3 (sz:Nat) (x:Operand) (lo hi:Option Operand)
 |build (zero:Array Value) (parts:List (Nat×Nat×Operand))
 |bsl (t:TypeId) (len:Nat) (zero:Array Value) (parts:List (Nat×Nat×Operand))
 |raw (o:Oper)
def WO(v:Value)(K:Value->Prop):Prop:=
 match v with
 |.bool b=>K (.bool b)|.int k n=>K (.int k n)|.float k n=>K (.float k n)|.complex k a b=>K (.complex k a b)|.string s=>K (.string s)
 |.pointer a=>K (.pointer a)|.slice a l c=>K (.slice a l c)|.map r=>K (.map r)|.chan r=>K (.chan r)|.func f a b=>K (.func f a b)
 |.nilFunc=>K .nilFunc|.iface t x=>K (.iface t x)|.nilIface=>K .nilIface|.agg c=>K (.agg c)|.tuple c=>K (.tuple c)
def Qy(v:Value)(K:Value->Prop):WO v K=K v:=by cases v <;> rfl
def W_(l:List Value):(List Value->Prop)->Prop:=List.rec (motive:=λ _=>(List Value->Prop)->Prop) (λ K=>K []) (λ v _ b K=>WO v λ v=>b λ r=>K (v::r)) l
def J4:∀(l:List Value)(K:List Value->Prop),W_ l K=K l
 |[],_=>rfl
 |v::r,K=>by
  show(WO v λ v=>W_ r λ r=>K (v::r))=_;rw[Qy];exact J4 r _
def PX(v:Value)(K:Array Value->Prop):Prop:=WO v λ v=>match v with|.agg cs=>K cs|v=>K #[v]
def OI(v:Value)(K:Array Value->Prop):PX v K=K v.cells:=by unfold PX;rw[Qy];cases v <;> rfl
def Zi(U:Qa T)(b:Nat)(c:Array Value):Prop:=∃t fr,U.I b=some (.cells c t fr)
def Zi.new:Zi { U with I:=JD U.I l (.cells args t) } l args:=⟨t,(0,0),by simp[JD]⟩
def Gv{o:Obj}(h:U.free l):U.le { U with I:=JD U.I l o }:=by
 refine⟨λ x o' hx=>?_,rfl,rfl⟩;show JD U.I l o x=_;unfold JD;rw[if_neg]
 .exact hx
 .intro e;rw[e,h.1]at hx;cases hx
def Z9(n:Int):Prop:=-9223372036854775808<=n/\n<9223372036854775808
theorem I1(h:-9223372036854775808<=ζ/\ζ<9223372036854775808:=by omega):Z9 ζ:=h
def Gl(h:Z9 ζ):IntKind.wrap .i64 ζ=ζ:=by
 unfold Z9 at h;have b:(2:Int)^64=18446744073709551616:=D1
 have f:(2:Int)^(64-1)=9223372036854775808:=D1
 simp only[IntKind.wrap,IntKind.bits,IntKind.signed,Bool.true_and,b,f];split <;> rename_i w <;> simp only[decide_eq_true_eq]at w <;> omega
def Je(U:Qa T)(a:Addr)(vs:List Value):Prop:=∀i v,vs[i]?=some v->U.sees (a.add i) v
def QX(a:Addr)(l:List Value):Nat->(Qa T->Prop)->Qa T->Prop:=
 List.rec (motive:=λ _=>Nat->(Qa T->Prop)->Qa T->Prop) (λ _ K U=>K U) (λ v _ b i K U=>v.single=true/\∃M',XH (a.add i) v U.M M'/\b (i+1) K { U with M:=M' }) l
def QX.mono{a:Addr}{K b:Qa T->Prop}(f:∀U,K U->b U):∀(vs:List Value)(i:Nat)(U:Qa T),QX a vs i K U->QX a vs i b U
 |[],_,_,h=>f _ h
 |_::vs,i,_,⟨h1,M',w,h⟩=>⟨h1,M',w,QX.mono f vs (i+1) _ h⟩
def Oy(len:Nat)(lo hi:Option Value):Option (Int×Int):=
 match lo,hi with
 |none,none=>some (0,len)
 |some (.int _ l),none=>some (l,len)
 |none,some (.int _ h)=>some (0,h)
 |some (.int _ l),some (.int _ h)=>some (l,h)
 |_,_=>none
def ZU(cells:Array Value)(off:Nat):List Value->Nat->Array Value
 |[],_=>cells
 |v::r,j=>ZU (cells.setIfInBounds (off+j) v) off r (j+1)
def GY(f:Fm)(cells:Array Value):List (Nat×Nat×Operand)->Option (Array Value)
 |[]=>some cells
 |(off,size,x)::r=>
  if(Zf f x).cells.size≠size|| off+(Zf f x).cells.size > cells.size then none
  else GY f (ZU cells off (Zf f x).cells.toList 0) r
def VK:∀(vs:List Value)(c:Array Value)(off j:Nat),(ZU c off vs j).size=c.size
 |[],_,_,_=>rfl
 |v::vs,c,off,j=>by simp[ZU,VK vs]
def Po:∀(vs:List Value)(c:Array Value)(off j k:Nat),off+j+vs.length<=c.size->(ZU c off vs j)[k]?=if off+j<=k/\k<off+j+vs.length then vs[k-(off+j)]? else c[k]?
 |[],c,off,j,k,_=>by simp[ZU];omega
 |v::vs,c,off,j,k,h=>by
  simp only[length_cons]at h;simp only[ZU];rw[Po vs _ off (j+1) k S3];by_cases e:k=off+j
  .subst e;rw[if_neg O1,if_pos S1];rw[Array.getElem?_setIfInBounds_self_of_lt O1];simp
  .by_cases h1:off+(j+1)<=k/\k<off+(j+1)+vs.length
   .rw[if_pos h1,if_pos S3];have:k-(off+j)=(k-(off+(j+1)))+1:=O1
    rw[this,getElem?_cons_succ]
   .rw[if_neg h1,if_neg S3,Array.getElem?_setIfInBounds_ne O1]
def js(vs:List Value)(c:Array Value)(off:Nat)(h:off+vs.length<=c.size):(ZU c off vs 0).toList=c.toList.take off++vs++c.toList.drop (off+vs.length):=by
 apply ext_getElem?;intro k;have b:=Po vs c off 0 k O1;rw[Array.getElem?_toList,b];have hl:(c.toList.take off).length=off:=S3
 by_cases h1:k<off
 .rw[if_neg O1,append_assoc,getElem?_append_left O1,getElem?_take,if_pos h1,Array.getElem?_toList]
 .by_cases h2:k<off+vs.length
  .rw[if_pos O1,append_assoc,getElem?_append_right O1,getElem?_append_left O1,hl];rfl
  .rw[if_neg O1,append_assoc,getElem?_append_right O1,getElem?_append_right O1,hl,getElem?_drop,Array.getElem?_toList];congr 1;omega
def Uj(off:Nat)(vs cs:List Value):List Value:=cs.take off++vs++cs.drop (off+vs.length)
def Yu(f:Fm)(ps:List (Nat×Nat×Operand)):List Value->(List Value->Prop)->Prop:=
 List.rec (motive:=λ _=>List Value->(List Value->Prop)->Prop) (λ cs K=>W_ cs K)
  (λ p _ h cs K=>PX (Zf f p.2.2) λ vs=>W_ vs.toList λ vl=>
   bif (Nat.beq vl.length p.2.1&&Nat.ble (p.1+vl.length) cs.length)then W_ (Uj p.1 vl cs) (λ b=>h b K)else False) ps
def HJ(f:Fm):∀(ps:List (Nat×Nat×Operand))(cs:List Value)(K:List Value->Prop),Yu f ps cs K=(match GY f cs.toArray ps with|some c=>K c.toList|none=>False)
 |[],cs,K=>by
  show W_ cs K=_;rw[J4];rfl
 |(off,size,x)::r,cs,K=>by
  show(PX (Zf f x) λ vs=>W_ vs.toList λ vl=>bif (Nat.beq vl.length size&&Nat.ble (off+vl.length) cs.length)then W_ (Uj off vl cs) (λ b=>Yu f r b K)else False)=_;rw[OI,J4,GY];simp only[Array.length_toList,size_toArray];by_cases h:(Zf f x).cells.size=size/\off+(Zf f x).cells.size<=cs.length
  .have e1:(Nat.beq (Zf f x).cells.size size&&Nat.ble (off+(Zf f x).cells.size) cs.length)=true:=by
    rw[Bool.and_eq_true];exact⟨Nat.beq_eq.symm▸h.1,Nat.ble_eq.symm▸h.2⟩
   rw[e1,cond_true,J4,HJ f r];rw[if_neg S3];have w:=js (Zf f x).cells.toList cs.toArray off (by simpa using h.2)
   have B:(Uj off (Zf f x).cells.toList cs).toArray=ZU cs.toArray off (Zf f x).cells.toList 0:=by
    apply Array.ext';rw[w];rfl
   rw[B]
  .have e1:(Nat.beq (Zf f x).cells.size size&&Nat.ble (off+(Zf f x).cells.size) cs.length)=false:=by
    rw[Bool.and_eq_false_iff];by_cases h1:(Zf f x).cells.size=size
    .right;rw[Bool.eq_false_iff];intro h2;exact h ⟨h1,Nat.le_of_ble_eq_true h2⟩
    .left;rw[Bool.eq_false_iff];intro h2;exact h1 (Nat.eq_of_beq_eq_true h2)
   rw[e1,cond_false,if_pos];simp;omega
def OX(S:Sys P T):O->Fm->(Value->Qa T->Prop)->Qa T->Prop
 |.mv x,f,K,U=>WO (Zf f x) λ v=>K v U
 |.pick c a b,f,K,U=>match Zf f c with
  |.bool true=>WO (Zf f a) λ v=>K v U
  |.bool false=>WO (Zf f b) λ v=>K v U
  |_=>False
 |.add x y,f,K,U=>match Zf f x,Zf f y with|.int .i64 a,.int .i64 b=>Z9 (a+b)/\K (.int .i64 (a+b)) U|_,_=>False
 |.sub x y,f,K,U=>match Zf f x,Zf f y with|.int .i64 a,.int .i64 b=>Z9 (a-b)/\K (.int .i64 (a-b)) U|_,_=>False
 |.mul x y,f,K,U=>match Zf f x,Zf f y with|.int .i64 a,.int .i64 b=>Z9 (a*b)/\K (.int .i64 (a*b)) U|_,_=>False
 |.cmp op x y,f,K,U=>match Zf f x,Zf f y with
  |.int k a,.int k' b=>k=k'/\(match op with
   |.eql=>K (.bool (a==b)) U|.neq=>K (.bool (a != b)) U|.lss=>K (.bool (decide (a<b))) U
   |.leq=>K (.bool (decide (a<=b))) U|.gtr=>K (.bool (decide (a > b))) U|.geq=>K (.bool (decide (a ≥ b))) U|_=>False)
  |_,_=>False
 |.beq op x y,f,K,U=>match Zf f x,Zf f y with
  |.bool a,.bool b=>(match op with|.eql=>K (.bool (a==b)) U|.neq=>K (.bool (!(a==b))) U|_=>False)
  |_,_=>False
 |.ar op x y,f,K,U=>match Zf f x,Zf f y with
  |.int k a,.int k' b=>(match op with
   |.add=>k=k'/\K (.int k (k.wrap (a+b))) U|.sub=>k=k'/\K (.int k (k.wrap (a-b))) U|.mul=>k=k'/\K (.int k (k.wrap (a*b))) U
   |.quo=>k=k'/\b≠0/\K (.int k (k.wrap (a.tdiv b))) U|.rem=>k=k'/\b≠0/\K (.int k (a.tmod b)) U
   |.and=>k=k'/\K (.int k (k.wrap (BitVec.ofInt k.bits a&&&BitVec.ofInt k.bits b).toNat)) U
   |.or=>k=k'/\K (.int k (k.wrap (BitVec.ofInt k.bits a||| BitVec.ofInt k.bits b).toNat)) U
   |.xor=>k=k'/\K (.int k (k.wrap (BitVec.ofInt k.bits a ^^^ BitVec.ofInt k.bits b).toNat)) U
   |.andNot=>k=k'/\K (.int k (k.wrap (BitVec.ofInt k.bits a&&&~~~ BitVec.ofInt k.bits b).toNat)) U
   |.shl=>0<=b/\K (.int k (k.wrap (a*2^(min b.toNat k.bits)))) U
   |.shr=>0<=b/\K (.int k (a.fdiv (2^(min b.toNat k.bits)))) U
   |_=>False)
  |_,_=>False
 |.teq op x y,f,K,U=>match Zf f x,Zf f y with
  |.string a,.string b=>(match op with|.eql=>K (.bool (a.toList==b.toList)) U|.neq=>K (.bool (!(a.toList==b.toList))) U|_=>False)
  |_,_=>False
 |.not x,f,K,U=>match Zf f x with|.bool b=>K (.bool (!b)) U|_=>False
 |.len x,f,K,U=>match Zf f x with|.slice _ n _=>K (.int .i64 n) U|_=>False
 |.lenT x,f,K,U=>match Zf f x with|.string s=>K (.int .i64 s.size) U|_=>False
 |.lenM x,f,K,U=>match Zf f x with
  |.map none=>K (.int .i64 0) U
  |.map (some r)=>∃es E,U.has r (.map es E)/\K (.int .i64 es.size) U
  |_=>False
 |.conv k x,f,K,U=>match Zf f x with|.int _ n=>K (.int k (k.wrap n)) U|_=>False
 |.off n x,f,K,U=>match Zf f x with|.pointer (some a)=>K (.pointer (some (a.add n))) U|_=>False
 |.idx sz x i,f,K,U=>match Zf f x,Zf f i with
  |.slice a len _,.int _ n=>∃(F:Addr)(j:Nat),(a=some F/\n=j/\j<len)/\K (.pointer (some (F.add (j*sz)))) U
  |_,_=>False
 |.aidx len sz x i,f,K,U=>match Zf f x,Zf f i with
  |.pointer (some a),.int _ n=>∃j:Nat,(n=j/\j<len)/\K (.pointer (some (a.add (j*sz)))) U
  |_,_=>False
 |.sidx x i,f,K,U=>match Zf f x,Zf f i with
  |.string s,.int _ n=>∃(j:Nat)(b:UInt8),(n=j/\s[j]?=some b)/\K (.int .u8 b.toNat) U
  |_,_=>False
 |.ld x,f,K,U=>match Zf f x with|.pointer (some a)=>∃v,U.sees a v/\WO v λ v=>K v U|_=>False
 |.ldn n x,f,K,U=>match Zf f x with|.pointer (some a)=>∃vs:List Value,(vs.length=n/\Je U a vs)/\K (.agg vs.toArray) U|_=>False
 |.st n x v,f,K,U=>match Zf f x with|.pointer (some a)=>(Zf f v).cells.size=n/\QX a (Zf f v).cells.toList 0 (λ U'=>∃w,Qv U' w/\K undef w) U|_=>False
 |.box _ x,f,K,U=>PX (Zf f x) λ cs=>∀b w,U.le w->Zi w b cs->K (.pb b) w
 |.boxM t x,f,K,U=>∀b,U.free b->K (.pb b) (U.put b (.cells (Zf f x).cells t))
 |.alloc t zero,_,K,U=>∀b,U.free b->∃w,Qv (U.put b (.cells zero t)) w/\K (.pb b) w
 |.ext x i,f,K,U=>match Zf f x with|.tuple vs=>(match vs[i]? with|some v=>WO v λ v=>K v U|none=>False)|_=>False
 |.part off n x,f,K,U=>match Zf f x with|.agg cs=>K (.agg ((cs.toList.drop off).take n).toArray) U|_=>False
 |.part1 off x,f,K,U=>match Zf f x with|.agg cs=>(match cs[off]? with|some v=>WO v λ v=>K v U|none=>False)|_=>False
 |.mkf fn first B,f,K,U=>W_ (first.toList.map (Zf f)) λ a=>W_ (B.toList.map (Zf f)) λ c=>K (.func fn a.toArray c.toArray) U
 |.call c args,f,K,U=>match Zf f c with
  |.func (.func g) first B=>(P.funcs[g]?.any λ fd=>fd.body.isSome&&fd.name != "runtime.NumGoroutine")=true/\W_ (args.toList.map (Zf f)) λ vs=>Qb S g (first.toList++vs++B.toList).toArray (λ v U'=>JS U'->K v U') U
  |.func (.yield l) first _=>W_ (args.toList.map (Zf f)) λ vs=>Zm S l (first.toList++vs) K U
  |_=>False
 |.nilc x,f,K,U=>match Zf f x with|.pointer (some a)=>K (.pointer (some a)) U|_=>False
 |.sub3 sz x lo hi,f,K,U=>match Zf f x with
  |.slice a len cap=>(match Oy len (lo.map (Zf f)) (hi.map (Zf f))with
   |some (G,hi)=>∃l h:Nat,(G=l/\hi=h/\l<=h/\h<=cap)/\K (.slice (if cap=l then a else a.map (·.add (l*sz))) (h-l) (cap-l)) U
   |none=>False)
  |_=>False
 |.build zero parts,f,K,U=>Yu f parts zero.toList λ l=>K (.agg l.toArray) U
 |.bsl t len zero parts,f,K,U=>Yu f parts zero.toList λ l=>∀b,U.free b->∃w,Qv (U.put b (.cells l.toArray t)) w/\K (.slice (some ⟨b,0,none⟩) len len) w
 |.raw o,f,K,U=>∀a:Act,(∀x,a.eval x=Zf f x)->Qq P (execOp a.eval o) (ZG S λ v U'=>∃w,Qv U' w/\K v w) U
def zw(s:Sem α):s.bind Sem.pure=s:=by
 induction s with
 |pure a=>rfl
 |load m a k b=>simp only[Sem.bind];congr 1;funext v;exact b v
 |store m a v k b=>simp only[Sem.bind,b]
 |new o k b=>simp only[Sem.bind];congr 1;funext v;exact b v
 |shape r k b=>simp only[Sem.bind];congr 1;funext v;exact b v
 |freeze a n k b=>simp only[Sem.bind,b]
 |frozen a k b=>simp only[Sem.bind];congr 1;funext v;exact b v
 |getObj r k b=>simp only[Sem.bind];congr 1;funext v;exact b v
 |setObj r o k b=>simp only[Sem.bind,b]
 |choose q k b=>simp only[Sem.bind];congr 1;funext v;exact b v
 |sys c k b=>simp only[Sem.bind];congr 1;funext v;exact b v
 |program k b=>simp only[Sem.bind];congr 1;funext v;exact b v
 |mark m k b=>simp only[Sem.bind,b]
 |halt h=>rfl
def zd(s:Sem α)(g:α->Sem β)(h:β->Sem γ):(s.bind g).bind h=s.bind λ a=>(g a).bind h:=by
 induction s with
 |pure a=>rfl
 |load m a k b=>simp only[Sem.bind];congr 1;funext v;exact b v
 |store m a v k b=>simp only[Sem.bind,b]
 |new o k b=>simp only[Sem.bind];congr 1;funext v;exact b v
 |shape r k b=>simp only[Sem.bind];congr 1;funext v;exact b v
 |freeze a n k b=>simp only[Sem.bind,b]
 |frozen a k b=>simp only[Sem.bind];congr 1;funext v;exact b v
 |getObj r k b=>simp only[Sem.bind];congr 1;funext v;exact b v
 |setObj r o k b=>simp only[Sem.bind,b]
 |choose q k b=>simp only[Sem.bind];congr 1;funext v;exact b v
 |sys c k b=>simp only[Sem.bind];congr 1;funext v;exact b v
 |program k b=>simp only[Sem.bind];congr 1;funext v;exact b v
 |mark m k b=>simp only[Sem.bind,b]
 |halt h=>rfl
theorem Fq:LawfulMonad Sem:=LawfulMonad.mk' Sem (id_map:=λ s=>zw s) (pure_bind:=λ _ _=>rfl) (bind_assoc:=λ s g h=>zd s g h)
def X1{α β:Type}(g:α->Sem β):List α->Array β->Sem (Array β)
 |[],acc=>pure acc
 |x::r,acc=>do let y <- g x;X1 g r (acc.push y)
def gy(g:α->Sem β):∀(l:List α)(acc:Array β),X1 g l acc=(do let r <- l.mapM g;pure (acc++r.toArray)):=by
 have:=Fq;intro l
 induction l with
 |nil=>intro acc;simp[X1]
 |cons x l b=>intro acc;simp[X1,b,mapM_cons]
def SJ(g:α->Sem β)(l:List α):Array.mapM g l.toArray=X1 g l #[]:=by
 have:=Fq;rw[gy];simp
def Qd(s:Sem α)(g:α->Sem β)(Q:β->Qa T->Prop)(U:Qa T):Qq P (s >>= g) Q U=Qq P s (λ a U=>Qq P (g a) Q U) U:=propext (Oo s g)
def Qi(a:α)(Q:α->Qa T->Prop)(U:Qa T):Qq P (pure a:Sem α) Q U=Q a U:=rfl
def Ze(h:P.underlying t=some d)(Q:TypeDesc->Qa T->Prop)(U:Qa T):Qq P (underlying t) Q U=Q d U:=by
 simp only[underlying,program,Qd,Qq,h,Qi]
def We(h:P.info? t=some θ)(Q:TypeInfo->Qa T->Prop)(U:Qa T):Qq P (typeInfo t) Q U=Q θ U:=by
 simp only[typeInfo,program,Qd,Qq,h,Qi]
def Jd(h:P.info? t=some θ)(Q:Nat->Qa T->Prop)(U:Qa T):Qq P (sizeOf t) Q U=Q θ.size U:=by
 simp only[sizeOf,Qd,We h,Qi]
def TypeDesc.agg:TypeDesc->Bool
 |.struct _|.array _ _=>true
 |_=>false
def Ht(h:P.underlying t=some d)(Q:Bool->Qa T->Prop)(U:Qa T):Qq P (isAgg t) Q U=Q (TypeDesc.agg d) U:=by
 simp only[isAgg,Qd,Ze h];cases d <;> rfl
def X8(h:P.info? t=some θ)(b:θ.zero=some v)(Q:Value->Qa T->Prop)(U:Qa T):Qq P (zeroValue t) Q U=Q v U:=by
 simp only[zeroValue,Qd,We h,b,Qi]
def SX(h:U.sees W v)(b:K v U):Qq P (load W) K U:=⟨rfl,v,h,b⟩
def Eh{a:Addr}{Q:Array Value->Qa T->Prop}{U:Qa T}:∀(vs:List Value)(i:Nat)(acc:Array Value),(∀j v,vs[j]?=some v->U.sees (a.add (i+j)) v)->Q (acc++vs.toArray) U ->
  Qq P (loadCellsFrom a i vs.length acc) Q U
 |[],i,acc,_,b=>by simpa[loadCellsFrom,Qi]using b
 |v::vs,i,acc,h,b=>by
  simp only[length_cons,loadCellsFrom,Qd];refine SX (h 0 v rfl) (Eh vs (i+1) (acc.push v) (λ j u f=>?_) ?_)
  .have:=h (j+1) u f
   rwa [show i+(j+1)=i+1+j by omega]at this
  .have e:acc.push v++vs.toArray=acc++(v::vs).toArray:=by apply Array.ext';simp
   rw[e];exact b
def Ww{a:Addr}{Q:Unit->Qa T->Prop}:∀(vs:List Value)(i:Nat)(U:Qa T),QX a vs i (λ U'=>Q () U') U->Qq P (storeCells a vs i) Q U
 |[],_,_,h=>h
 |v::vs,i,U,h=>by
  obtain⟨f,M',b,h⟩:=h;simp only[storeCells,Qd,store];exact⟨rfl,f,M',b,Ww vs (i+1) _ h⟩
def Jh(h:∀b,U.free b->υ ⟨b,0,none⟩ (U.put b (.cells args t))):Qq P (newRow t args) υ U:=by
 simp only[newRow,newObj,Qd,Qq,Qi];exact h
def J1(o:Oper):Oper:={ dst:=none,op:=o.op,type:=o.type,pos := "", after:=#[],guard:=none }
def kj:BinOp->Bool
 |.eql|.neq|.lss|.leq|.gtr|.geq=>true
 |_=>false
def Di(P:Program)(o:Oper)(op:BinOp)(t:TypeId)(x y:Operand):O:=
 match P.underlying t with
 |some (.int k)=>
  if kj op then .cmp op x y
  else match k,op with
   |.i64,.add=>.add x y
   |.i64,.sub=>.sub x y
   |.i64,.mul=>.mul x y
   |_,_=>.ar op x y
 |some .bool=>.beq op x y
 |some .string=>(match op with|.eql=>.teq op x y|.neq=>.teq op x y|_=>.raw (J1 o))
 |_=>.raw (J1 o)
def Js(P:Program)(t:TypeId):Option Nat:=(P.info? t).map (·.size)
def Xb(P:Program)(t:TypeId):Option Value:=(P.info? t).bind (·.zero)
def Q5(P:Program)(mu:List Nat)(o:Oper):O:=
 match o.op with
 |.move x|.assign x=>.mv x
 |.pick c a b=>.pick c a b
 |.binOp op t x y _=>Di P o op t x y
 |.unOp .not _ x=>.not x
 |.call { callee:=.value c,args,.. }=>.call c args
 |.call { callee:=.builtin .len,args,argTypes }=>
  (match args,argTypes with
  |⟨[x]⟩,⟨[t]⟩=>(match P.underlying t with|some (.slice _)=>.len x|some .string=>.lenT x|some (.map _ _)=>.lenM x|_=>.raw (J1 o))
  |_,_=>.raw (J1 o))
 |.convert src dst x=>(match P.underlying src,P.underlying dst with|some (.int _),some (.int k)=>.conv k x|_,_=>.raw (J1 o))
 |.fieldAddr s x i=>(match P.underlying s with
  |some (.struct f)=>(match f[i]? with
   |some fd=>(match Js P fd.type with|some (_+1)=>.off fd.offset x|_=>.raw (J1 o))
   |none=>.raw (J1 o))
  |_=>.raw (J1 o))
 |.indexAddr t x i=>(match P.underlying t with
  |some (.slice e)=>(match Js P e with|some n=>.idx n x i|none=>.raw (J1 o))
  |some (.array len e)=>(match Js P e with|some n=>if len<=1 then .raw (J1 o)else .aidx len n x i|none=>.raw (J1 o))
  |_=>.raw (J1 o))
 |.index t x i=>(match P.underlying t with|some .string=>.sidx x i|_=>.raw (J1 o))
 |.load t x=>(match P.underlying t with
  |some d=>if TypeDesc.agg d then(match Js P t with|some n=>.ldn n x|none=>.raw (J1 o))else .ld x
  |none=>.raw (J1 o))
 |.store t x v=>(match Js P t with|some n=>.st n x v|none=>.raw (J1 o))
 |.box t x=>(match o.dst with|some d=>if mu.contains d then .boxM t x else .box t x|none=>.boxM t x)
 |.alloc t=>(match Xb P t with|some z=>.alloc t z.cells|none=>.raw (J1 o))
 |.extract x i=>.ext x i
 |.field t x i=>(match P.underlying t with
  |some (.struct f)=>(match f[i]? with
   |some fd=>(match P.underlying fd.type with
    |some d=>if TypeDesc.agg d then(match Js P fd.type with|some n=>.part fd.offset n x|none=>.raw (J1 o))else .part1 fd.offset x
    |none=>.raw (J1 o))
   |none=>.raw (J1 o))
  |_=>.raw (J1 o))
 |.makeFunc fn first h=>.mkf fn first h
 |.nilCheck x=>.nilc x
 |.build t parts=>(match P.underlying t,Xb P t with
  |some (.struct f),some z=>if f.toList.all (λ fd=>(Js P fd.type).isSome)then
    (match parts.toList.mapM (λ p=>(f[p.1]?).map λ fd=>(fd.offset,(Js P fd.type).getD 0,p.2))with
    |some ps=>.build z.cells ps
    |none=>.raw (J1 o))else .raw (J1 o)
  |_,_=>.raw (J1 o))
 |.buildSlice t len parts=>(match P.underlying t with
  |some (.slice e)=>(match Js P e,Xb P e with
   |some n,some z=>if len*n<=2^24 then .bsl e len (if len*n=0 then #[]else(Array.range (len*n)).map (z.cells[· % z.cells.size]!)) (parts.toList.map λ p=>(p.1*n,n,p.2))else .raw (J1 o)
   |_,_=>.raw (J1 o))
  |_=>.raw (J1 o))
 |.slice t x lo hi none=>(match P.underlying t with|some (.slice e)=>(match Js P e with|some n=>.sub3 n x lo hi|none=>.raw (J1 o))|_=>.raw (J1 o))
 |_=>.raw (J1 o)
def G2(h:Js P t=some n):∃i,P.info? t=some i/\i.size=n:=by
 simpa[Js]using h
def P4(h:Xb P t=some z):∃i,P.info? t=some i/\i.zero=some z:=by
 simpa[Xb,Option.bind_eq_some_iff]using h
def Pl(h:δ () U):Qq P (eqGuard op t x y (.int Z ζ) (.int k' η)) δ U:=by
 cases op <;> exact h
def jr(h:δ () U):Qq P (eqGuard op t x y (.bool m) (.bool p)) δ U:=by
 cases op <;> exact h
def xm(h:δ () U):Qq P (eqGuard op t x y (.string σ) (.string τ)) δ U:=by
 cases op <;> exact h
def vJ(h:OX S (.cmp op x y) f K U):Qq P (do eqGuard op t x y (Zf f x) (Zf f y);binOp op t (Zf f x) (Zf f y)) K U:=by
 simp only[OX]at h;cases hx:Zf f x <;> simp only[hx]at h <;> try exact h.elim
 cases hy:Zf f y <;> simp only[hy]at h <;> try exact h.elim
 obtain⟨rfl,h⟩:=h;rw[Qd];refine Pl ?_;cases op <;> first|exact h.elim|simpa[binOp,Op.intCmp,Qi]using h
def vH(h:OX S (.add x y) f K U):Qq P (do eqGuard .add t x y (Zf f x) (Zf f y);binOp .add t (Zf f x) (Zf f y)) K U:=by
 simp only[OX]at h;split at h
 .rename_i a b e1 e2;rw[e1,e2,Qd];refine Pl ?_;simpa[binOp,Op.intArith,Qi,Gl h.1]using h.2
 .exact h.elim
def vM(h:OX S (.sub x y) f K U):Qq P (do eqGuard .sub t x y (Zf f x) (Zf f y);binOp .sub t (Zf f x) (Zf f y)) K U:=by
 simp only[OX]at h;split at h
 .rename_i a b e1 e2;rw[e1,e2,Qd];refine Pl ?_;simpa[binOp,Op.intArith,Qi,Gl h.1]using h.2
 .exact h.elim
def vL(h:OX S (.mul x y) f K U):Qq P (do eqGuard .mul t x y (Zf f x) (Zf f y);binOp .mul t (Zf f x) (Zf f y)) K U:=by
 simp only[OX]at h;split at h
 .rename_i a b e1 e2;rw[e1,e2,Qd];refine Pl ?_;simpa[binOp,Op.intArith,Qi,Gl h.1]using h.2
 .exact h.elim
def xJ(ht:P.underlying t=some .bool)(a b:Bool)(Q:Bool->Qa T->Prop)(U:Qa T):Qq P (Op.equal t (.bool a) (.bool b)) Q U=Q (a==b) U:=by
 have e:Op.equal t (.bool a) (.bool b)=Op.equalIn (9999+1) t (.bool a) (.bool b):=rfl;rw[e,Op.equalIn,Qd,Ze ht];rfl
def vI(ht:P.underlying t=some .bool)(h:OX S (.beq op x y) f K U):Qq P (do eqGuard op t x y (Zf f x) (Zf f y);binOp op t (Zf f x) (Zf f y)) K U:=by
 simp only[OX]at h;split at h
 .rename_i a b e1 e2;rw[e1,e2,Qd];refine jr ?_;cases op <;> first|exact h.elim|(simp only[binOp,Qd,xJ ht,Qi];exact h)
 .exact h.elim
def Lz(h:OX S (.teq op x y) f K U):Qq P (do eqGuard op t x y (Zf f x) (Zf f y);binOp op t (Zf f x) (Zf f y)) K U:=by
 simp only[OX]at h;split at h
 .rename_i a b e1 e2;rw[e1,e2,Qd];refine xm ?_;cases op <;> first|exact h.elim|simpa[binOp,Op.stringOp,Qi]using h
 .exact h.elim
def kG(h:OX S (.ar op x y) f K U):Qq P (do eqGuard op t x y (Zf f x) (Zf f y);binOp op t (Zf f x) (Zf f y)) K U:=by
 simp only[OX]at h;split at h
 .rename_i k a k' b e1 e2;rw[e1,e2,Qd];refine Pl ?_
  cases op <;> simp only[]at h <;> first
   |exact h.elim
   |(obtain⟨rfl,hb,h⟩:=h;simpa[binOp,Op.intDiv,hb,Qi]using h)
   |(obtain⟨rfl,h⟩:=h;simpa[binOp,Op.intArith,Op.intBits,Qi]using h)
   |(obtain⟨hb,h⟩:=h;simpa[binOp,Op.shift,Int.not_lt.2 hb,Qi]using h)
 .exact h.elim
def QY{s:Sem Value}(h:Qq P s K U):Qq P (s >>= λ v=>pure (Next.value v)) (ZG S K) U:=by rw[Qd];exact h
def pz(E:∀x,ρ x=Zf f x)(h:OX S (.call y ω) f K U) :
  Qq P (do let d <- resolve ρ { callee:=.value y,args:=ω,argTypes:=B } t;invoke d.target d.args:Sem Next) (ZG S K) U:=by
 simp only[OX]at h;have hm:ω.map ρ=ω.map (Zf f):=by rw[show ρ=Zf f from funext E]
 split at h
 .rename_i g first capt e
  obtain⟨hb,h⟩:=h;simp only[Qd,resolve,E,hm,e,Deferred.ofValue,Qi,invoke,callFunc,program,Qq];cases F:P.funcs[g]? with
  |none=>simp[F]at hb
  |some fd=>
   simp only[F,Option.any_some,Bool.and_eq_true,bne_iff_ne,ne_eq]at hb;obtain⟨h1,h2⟩:=hb;have w:fd.body.isNone=false:=by cases G:fd.body <;> simp_all
   have b:(fd.name== "runtime.NumGoroutine")=false:=by simpa using h2
   simp only[b,w,Bool.false_eq_true,if_false,Qi,ZG];rw[J4]at h;have e:(first++Array.map (Zf f) ω)++capt=(first.toList++ω.toList.map (Zf f)++capt.toList).toArray:=by apply Array.ext';simp
   rw[e];exact h.sep λ v U' I H=>⟨U',.refl _,H I⟩
 .rename_i l first capt e
  rw[J4]at h;simp only[Qd,resolve,E,hm,e,Deferred.ofValue,Qi,invoke];have e:first++Array.map (Zf f) ω=(first.toList++ω.toList.map (Zf f)).toArray:=by apply Array.ext';simp
  rw[e];exact h
 .exact h.elim
def HN(hi:ζ=n)(h:n<=l)(b:φ n U):Qq P (Instr.sliceBound (.int k' ζ) l code) φ U:=by
 subst hi;unfold Instr.sliceBound;rw[Qd];show Qq P (if 0<=(n:Int)/\(n:Int)<=l then pure (n:Int).toNat else boundsPanic k' n l code) φ U;rw[if_pos O1];exact b
def kT(b:I (0,len,cap) U):Qq P (Instr.sliceBounds true len cap none none none) I U:=by
 unfold Instr.sliceBounds;simp only[Qd,Qi];exact b
def kU(hi:ζ=l)(h:l<=len)(b:I (l,len,cap) U):Qq P (Instr.sliceBounds true len cap (some (.int k' ζ)) none none) I U:=by
 unfold Instr.sliceBounds;simp only[Qd,Qi];exact HN hi h b
def kV(hi:ζ=l)(b:l<=cap)(f:I (0,l,cap) U):Qq P (Instr.sliceBounds true len cap none (some (.int k' ζ)) none) I U:=by
 unfold Instr.sliceBounds;simp only[Qd,Qi];exact HN hi b f
def kW(hi:ζ=l)(b:η=n)(h1:l<=n)(w:n<=cap)(B:I (l,n,cap) U):Qq P (Instr.sliceBounds true len cap (some (.int Z ζ)) (some (.int k' η)) none) I U:=by
 unfold Instr.sliceBounds;simp only[Qd,Qi];exact HN b w (HN hi h1 B)
def ji(b:Oy len κ μ=some ((l:Int),(n:Int)))(h2:l<=n)(G:n<=cap)(B:I (l,n,cap) U) :
  Qq P (Instr.sliceBounds true len cap κ μ none) I U:=by
 unfold Oy at b;split at b
 .simp only[Option.some.injEq,Prod.mk.injEq]at b;obtain⟨E,F⟩:=b;have f:l=0:=O1
  have h:n=len:=O1
  subst f;subst h;exact kT B
 .simp only[Option.some.injEq,Prod.mk.injEq]at b;obtain⟨E,F⟩:=b;have h:n=len:=O1
  subst h;exact kU E h2 B
 .simp only[Option.some.injEq,Prod.mk.injEq]at b;obtain⟨E,F⟩:=b;have f:l=0:=O1
  subst f;exact kV F G B
 .simp only[Option.some.injEq,Prod.mk.injEq]at b;exact kW b.1 b.2 h2 G B
 .cases b
def pB(F:P.underlying t=some (.slice e))(E:Js P e=some n)(h:OX S (.sub3 n x lo hi) f K U) :
  Qq P (Instr.sliceAt t (Zf f x) (lo.map (Zf f)) (hi.map (Zf f)) none) K U:=by
 obtain⟨G,b,w⟩:∃i,P.info? e=some i/\i.size=n:=by simpa[Js]using E
 simp only[OX]at h;split at h
 .rename_i sa len cap e1;split at h
  .rename_i li hh hsb;obtain⟨l,H,⟨rfl,rfl,h2,B⟩,h⟩:=h;simp only[e1,Instr.sliceAt,Instr.slice,Qd,Ze F];refine ji hsb h2 B ?_;simp only[Jd b,w,Qi];exact h
  .exact h.elim
 .exact h.elim
def vK(F:P.underlying t=some (.slice e))(E:Js P e=some n)(h:OX S (.idx n x y) f K U):Qq P (Instr.indexAt t (Zf f x) (Zf f y)) K U:=by
 obtain⟨G,w,B⟩:∃y,P.info? e=some y/\y.size=n:=by simpa[Js]using E
 simp only[OX]at h;split at h
 .rename_i aa len cap k m e1 e2;obtain⟨H,j,⟨rfl,rfl,hb⟩,h⟩:=h;have b:(0:Int)<=(j:Int)/\(j:Int)<(len:Int):=O1
  simp only[e1,e2,Instr.indexAt,asIntOf,Qd,Qi,Ze F];rw[if_pos b];simp only[Qd,Jd w,B,Qi,Int.toNat_natCast];exact h
 .exact h.elim
def py(F:P.underlying t=some (.array len e))(E:Js P e=some n)(h:OX S (.aidx len n x y) f K U):Qq P (Instr.indexAt t (Zf f x) (Zf f y)) K U:=by
 obtain⟨G,w,B⟩:∃y,P.info? e=some y/\y.size=n:=by simpa[Js]using E
 simp only[OX]at h;split at h
 .rename_i ad k m e1 e2;obtain⟨j,⟨rfl,hb⟩,h⟩:=h;have b:(0:Int)<=(j:Int)/\(j:Int)<(len:Int):=O1
  simp only[e1,e2,Instr.indexAt,asIntOf,Qd,Qi,Ze F,Instr.sureAddr];rw[if_pos b];simp only[Qd,Jd w,B,Qi,Int.toNat_natCast];exact h
 .exact h.elim
def pA(B:P.underlying t=some .string)(h:OX S (.sidx x y) f K U):Qq P (Instr.index t (Zf f x) (Zf f y)) K U:=by
 simp only[OX]at h;split at h
 .rename_i s k n e1 e2;obtain⟨j,b,⟨rfl,w⟩,h⟩:=h;simp only[e1,e2,Instr.index,asIntOf,Qd,Qi,Ze B];rw[if_pos O1,Int.toNat_natCast,w];exact h
 .exact h.elim
def IG{α β:Type}(g:α->Sem β)(v:α->β):∀(l:List α)(acc:Array β)(Q:Array β->Qa T->Prop)(U:Qa T),(∀a∈l,∀(Q:β->Qa T->Prop)U,Qq P (g a) Q U=Q (v a) U)->Q (acc++(l.map v).toArray) U->Qq P (X1 g l acc) Q U
 |[],acc,Q,U,_,h=>by simpa[X1,Qi]using h
 |x::l,acc,Q,U,b,h=>by
  simp only[X1,Qd,b x (mem_cons_self ..)];refine IG g v l _ Q U (λ a ha=>b a (mem_cons_of_mem _ ha)) ?_;have e:acc.push (v x)++(l.map v).toArray=acc++((x::l).map v).toArray:=by apply Array.ext';simp
  rw[e];exact h
def xK{f:Array Field}(b:f.toList.all (λ fd=>(Js P fd.type).isSome)=true)(h:ν (f.map λ fd=>(fd.offset,(Js P fd.type).getD 0)) U) :
  Qq P (f.mapM λ fd=>do pure (fd.offset,<- sizeOf fd.type)) ν U:=by
 obtain⟨l⟩:=f;rw[SJ];refine IG _ (λ fd=>(fd.offset,(Js P fd.type).getD 0)) l #[] ν U (λ fd w ν U=>?_) (by simpa using h);have:=all_eq_true.1 b fd w;obtain⟨n,E⟩:=Option.isSome_iff_exists.1 this;obtain⟨F,hi,B⟩:∃i,P.info? fd.type=some i/\i.size=n:=by simpa[Js]using E
 simp only[Qd,Jd hi,Qi,E,B,Option.getD_some]
def Dc:∀(vs:List Value)(cells:Array Value)(off j:Nat),(vs.zipIdx j).foldl (λ cs(p:Value×Nat)=>cs.setIfInBounds (off+p.2) p.1) cells=ZU cells off vs j
 |[],_,_,_=>rfl
 |v::r,cells,off,j=>by simp only[zipIdx_cons,foldl_cons,ZU];exact Dc r _ off (j+1)
def SU(place:Nat->Option (Nat×Nat))(f:Fm):∀(parts:List (Nat×Operand))(ps:List (Nat×Nat×Operand))(cells:Array Value),
  parts.mapM (λ p=>(place p.1).map λ q=>(q.1,q.2,p.2))=some ps->Instr.fill place cells (parts.map λ p=>(p.1,Zf f p.2))=GY f cells ps
 |[],ps,cells,h=>by simp at h;subst h;rfl
 |(i,x)::r,ps,cells,h=>by
  simp only[mapM_cons,Option.pure_def,Option.bind_eq_bind,Option.bind_eq_some_iff,Option.map_eq_some_iff]at h;obtain⟨_,⟨⟨off,size⟩,hp,rfl⟩,w,b,e⟩:=h;cases e;simp only[map_cons,Instr.fill,hp,GY];split
  .rfl
  .rw[<- SU place f r w _ b];congr 1;rw[<- Dc,<- Array.foldl_toList,Array.toList_zipIdx]
def Je.cells(h:Je U W vs)(f:ξ vs.toArray U):Qq P (loadCells W vs.length) ξ U:=
 Eh vs 0 #[] (λ j v b=>by simpa using h j v b) (by simpa using f)
def zU(cs:Array Value)(off n:Nat):cs.extract off (off+n)=((cs.toList.drop off).take n).toArray:=by
 apply Array.ext';simp[Array.toList_extract,extract_eq_take_drop]
def W1(hf:∀x,a.eval x=Zf f x)
  (H:∀v U U',Qv U U'->K v U'->K v U) (h:OX S (Q5 P qs o) f K U):QK S o a K U:=by
 obtain⟨dst,op,ty,pos,after,guard⟩:=o
 have raw:∀o:Oper,OX S (.raw (J1 o)) f K U->Qq P (execOp a.eval o) (ZG S K) U:=λ o h=>Qq.mono _ (h a hf) λ n U V=>by
  have W:∀v(U:Qa T),(∃G,Qv U G/\K v G)->K v U:=λ v U⟨G,w,W⟩=>H v U G w W;cases n <;> first|exact W _ _ V|exact Qb.mono V W|exact WC.mono V W|exact V
 unfold QK;cases op with
 |move x=>simp only[Q5,OX,Qy]at h;simp only[execOp,hf,Qi,ZG];exact h
 |assign x=>simp only[Q5,OX,Qy]at h;simp only[execOp,hf,Qi,ZG];exact h
 |pick c x y=>
  simp only[Q5,OX]at h;simp only[execOp,hf];split at h
  .rename_i e;rw[Qy]at h;simp only[e,Qd,asBool,Qi,ZG,if_true];exact h
  .rename_i e;rw[Qy]at h;simp only[e,Qd,asBool,Qi,ZG,Bool.false_eq_true,if_false];exact h
  .exact h.elim
 |binOp ah t x y yt=>
  simp only[Q5,Di]at h;simp only[execOp,hf];split at h
  .split at h
   .exact QY (vJ h)
   .split at h
    .exact QY (vH h)
    .exact QY (vM h)
    .exact QY (vL h)
    .exact QY (kG h)
  .rename_i e;exact QY (vI e h)
  .split at h
   .exact QY (Lz h)
   .exact QY (Lz h)
   .have:=raw _ h;simpa only[execOp,hf]using this
  .have:=raw _ h;simpa only[execOp,hf]using this
 |unOp ac t x=>
  cases ac with
  |not=>
   simp only[Q5,OX]at h;simp only[execOp,hf];split at h
   .rename_i e;simp only[e];exact QY h
   .exact h.elim
  |_=>exact raw _ h
 |call c=>
  obtain⟨callee,args,ag⟩:=c;cases callee with
  |value g=>exact pz hf h
  |invoke r ai=>exact raw _ h
  |builtin b=>
   cases b with
   |len=>
    simp only[Q5]at h;split at h
    .rename_i x t;split at h
     .rename_i e hu;simp only[OX]at h;split at h
      .rename_i L;simp only[execOp,Qd,resolve,Qi,invoke,builtin,Builtin.len_];simp only[map_toArray,map_cons,map_nil,hf,L,getElem?_toArray,getElem?_cons_zero,Qd,Ze hu,Qi,ZG,goInt];exact h
      .exact h.elim
     .rename_i hu;simp only[OX]at h;split at h
      .rename_i L;simp only[execOp,Qd,resolve,Qi,invoke,builtin,Builtin.len_];simp only[map_toArray,map_cons,map_nil,hf,L,getElem?_toArray,getElem?_cons_zero,Qd,Ze hu,Qi,ZG,goInt];exact h
      .exact h.elim
     .rename_i kk ee hu;simp only[OX]at h;split at h
      .rename_i L;simp only[execOp,Qd,resolve,Qi,invoke,builtin,Builtin.len_];simp only[map_toArray,map_cons,map_nil,hf,L,getElem?_toArray,getElem?_cons_zero,Qd,Ze hu,Qi,ZG,goInt];exact h
      .rename_i r L;obtain⟨es,X,hh,h⟩:=h;simp only[execOp,Qd,resolve,Qi,invoke,builtin,Builtin.len_];simp only[map_toArray,map_cons,map_nil,hf,L,getElem?_toArray,getElem?_cons_zero,Qd,Ze hu,getObj];exact⟨_,hh,rfl,rfl,h⟩
      .exact h.elim
     .exact raw _ h
    .exact raw _ h
   |_=>exact raw _ h
 |convert src dt x=>
  simp only[Q5]at h;split at h
  .rename_i k1 k hu hu';simp only[OX]at h;split at h
   .rename_i k2 n e;simp only[execOp,hf,e];refine QY ?_;simp only[convert,Qd,Ze hu,Ze hu',Conv.intToInt,Qi];exact h
   .exact h.elim
  .exact raw _ h
 |fieldAddr s x i=>
  simp only[Q5]at h;split at h
  .rename_i fs hu;split at h
   .rename_i fd hfd;split at h
    .rename_i n w;obtain⟨F,hi,B⟩:=G2 w;simp only[OX]at h;split at h
     .rename_i ad e;simp only[execOp,hf,e];refine QY ?_;simp only[Instr.fieldAt,Qd,Ze hu,hfd,Instr.sureAddr,Qi,fieldPlace,Jd hi,B];simpa[Qi]using h
     .exact h.elim
    .exact raw _ h
   .exact raw _ h
  .exact raw _ h
 |indexAddr t x i=>
  simp only[Q5]at h;split at h
  .rename_i e hu;split at h
   .rename_i n w;simp only[execOp,hf];exact QY (vK hu w h)
   .exact raw _ h
  .rename_i len e hu;split at h
   .rename_i n w;split at h
    .exact raw _ h
    .simp only[execOp,hf];exact QY (py hu w h)
   .exact raw _ h
  .exact raw _ h
 |index t x i=>
  simp only[Q5]at h;split at h
  .rename_i hu;simp only[execOp,hf];exact QY (pA hu h)
  .exact raw _ h
 |load t x=>
  simp only[Q5]at h;split at h
  .rename_i d hu;split at h
   .rename_i hag;split at h
    .rename_i n w;obtain⟨F,hi,B⟩:=G2 w;simp only[OX]at h;split at h
     .rename_i ad e;obtain⟨vs,⟨hl,hr⟩,h⟩:=h;simp only[execOp,hf,e];refine QY ?_;simp only[Instr.loadAt,Instr.sureAddr,Qd,Qi,loadVar,Ht hu,hag,if_true,Jd hi,B,<- hl];exact hr.cells h
     .exact h.elim
    .exact raw _ h
   .rename_i hag;simp only[OX]at h;split at h
    .rename_i ad e;obtain⟨v,w,h⟩:=h;rw[Qy]at h;simp only[execOp,hf,e];refine QY ?_;simp only[Instr.loadAt,Instr.sureAddr,Qd,Qi,loadVar,Ht hu,hag,Bool.false_eq_true,if_false];exact SX w h
    .exact h.elim
  .exact raw _ h
 |store t x v=>
  simp only[Q5]at h;split at h
  .rename_i n w;obtain⟨F,hi,B⟩:=G2 w;simp only[OX]at h;split at h
   .rename_i ad e;obtain⟨V,h⟩:=h;simp only[execOp,hf,e];rw[Qd];simp only[Instr.storeAt,Instr.sureAddr,Qd,Qi,storeVar,Jd hi,B,V,ne_eq,not_true_eq_false,if_false];exact Ww _ 0 U (QX.mono (λ U'⟨G,h1,h2⟩=>H _ _ _ h1 h2) _ _ _ h)
   .exact h.elim
  .exact raw _ h
 |box t x=>
  have key:(∀b,U.free b->K (.pb b) (U.put b (.cells (Zf f x).cells t)))->Qq P (execOp a.eval ⟨dst,.box t x,ty,pos,after,guard⟩) (ZG S K) U:=by
   intro h;simp only[execOp,hf];refine QY ?_;simp only[Instr.box,newVar,Qd];refine Jh λ b hb=>?_;simp only[Qi];exact h b hb
  simp only[Q5]at h;split at h
  .split at h
   .exact key h
   .exact key λ b hb=>H _ _ _ (Wa (U:=U.put b (.cells (Zf f x).cells t)) (b:=b) (o:=.cells (Zf f x).cells t) (M':=U.M) (Perm.refl _)) ((by simpa only[OX,OI]using h:∀b G,U.le G->Zi G b (Zf f x).cells->K (.pb b) G) b _ (Gv hb) Zi.new)
  .exact key h
 |alloc t=>
  simp only[Q5]at h;split at h
  .rename_i z hz;obtain⟨F,hi,I⟩:=P4 hz;simp only[execOp];refine QY ?_;simp only[Instr.alloc,newVar,Qd,X8 hi I];refine Jh λ b hb=>?_;simp only[Qi];obtain⟨G,w,h⟩:=h b hb;exact H _ _ _ w h
  .exact raw _ h
 |extract x i=>
  simp only[Q5,OX]at h;simp only[execOp,hf];refine QY ?_;split at h
  .rename_i vs e;split at h
   .rename_i v hv;rw[Qy]at h;simp only[e,Instr.extract,hv,Qi];exact h
   .exact h.elim
  .exact h.elim
 |field t x i=>
  simp only[Q5]at h;split at h
  .rename_i fs hu;split at h
   .rename_i fd hfd;split at h
    .rename_i d hd;split at h
     .rename_i hag;split at h
      .rename_i n w;obtain⟨F,hi,B⟩:=G2 w;simp only[OX]at h;split at h
       .rename_i cs e;simp only[execOp,hf,e];refine QY ?_;simp only[Instr.field,Qd,Ze hu,hfd,asAgg,Qi,part,Ht hd,hag,if_true,Jd hi,B];rw[zU];exact h
       .exact h.elim
      .exact raw _ h
     .rename_i hag;simp only[OX]at h;split at h
      .rename_i cs e;split at h
       .rename_i v hv;rw[Qy]at h;simp only[execOp,hf,e];refine QY ?_;simp only[Instr.field,Qd,Ze hu,hfd,asAgg,Qi,part,Ht hd,hag,Bool.false_eq_true,if_false,hv];exact h
       .exact h.elim
      .exact h.elim
    .exact raw _ h
   .exact raw _ h
  .exact raw _ h
 |makeFunc fn first ae=>
  simp only[Q5,OX,J4]at h;have e:a.eval=Zf f:=funext hf;simp only[execOp,e];have e1:∀l:Array Operand,l.map (Zf f)=(l.toList.map (Zf f)).toArray:=λ l=>by apply Array.ext';simp
  rw[e1,e1];exact QY h
 |nilCheck x=>
  simp only[Q5,OX]at h;simp only[execOp,hf];split at h
  .rename_i ad e;simp only[e];exact QY (s:=pure (.pointer (some ad))) h
  .exact h.elim
 |build t parts=>
  simp only[Q5]at h;split at h
  .rename_i fs z hu hz;split at h
   .rename_i hall;split at h
    .rename_i ps hps;obtain⟨F,hi,I⟩:=P4 hz;simp only[OX,HJ,Array.toArray_toList]at h;split at h
     .rename_i cells hc;simp only[execOp,hf];refine QY ?_;simp only[Instr.build,Qd,X8 hi I,Ze hu];refine xK hall ?_
      have Y:Instr.fill ((fs.map λ fd=>(fd.offset,(Js P fd.type).getD 0))[·]?) z.cells ((parts.map λ p=>(p.1,Zf f p.2)).toList)=some cells:=by
       rw[<- hc,Array.toList_map];refine SU _ f parts.toList ps z.cells ?_;rw[<- hps];congr 1;funext p;simp only[Array.getElem?_map];cases fs[p.1]? <;> rfl
      simp only[Y,Qi];exact h
     .exact h.elim
    .exact raw _ h
   .exact raw _ h
  .exact raw _ h
 |buildSlice t len parts=>
  simp only[Q5]at h;split at h
  .rename_i e hu;split at h
   .rename_i n z w hz;split at h
    .rename_i hle;obtain⟨F,hi,I⟩:=P4 hz;obtain⟨af,aa,B⟩:=G2 w;simp only[OX,HJ,Array.toArray_toList]at h;split at h
     .rename_i cells hc
      have Z:Instr.fill (λ i=>some (i*n,n)) (if len*n=0 then #[]else(Array.range (len*n)).map (z.cells[· % z.cells.size]!)) ((parts.map λ p=>(p.1,Zf f p.2)).toList)=some cells:=by
       rw[<- hc,Array.toList_map];refine SU _ f parts.toList _ _ ?_;generalize parts.toList=l
       induction l with
       |nil=>rfl
       |cons p l ih=>rw[mapM_cons,ih];rfl
      simp only[execOp,hf];refine QY ?_;simp only[Instr.buildSlice,Qd,Ze hu,Jd aa,B];rw[if_neg O1]
      have last:∀(N:String)(E:Array Value),E=(if len*n=0 then #[]else(Array.range (len*n)).map (z.cells[· % z.cells.size]!)) ->
        Qq P (do
         let some cells:=Instr.fill (λ i=>some (i*n,n)) ((Array.range (len*n)).map (λ k=>(if len*n=0 then #[]else z.cells)[k % (if len*n=0 then #[]else z.cells).size]!)) ((parts.map λ p=>(p.1,Zf f p.2)).toList)|stuck N
         pure (.slice (some (<- newRow e cells)) len len):Sem Value) K U:=by
       intro N E _
       have L:(Array.range (len*n)).map (λ k=>(if len*n=0 then #[]else z.cells)[k % (if len*n=0 then #[]else z.cells).size]!)=(if len*n=0 then #[]else(Array.range (len*n)).map (z.cells[· % z.cells.size]!)):=by
        split
        .rename_i Q;simp[Q]
        .rfl
       rw[L,Z];simp only[Qd];refine Jh λ b hb=>?_;simp only[Qi];obtain⟨G,ab,h⟩:=h b hb;exact H _ _ _ ab h
      have:=λ N=>last N _ rfl;by_cases Q:len*n=0
      .rw[if_pos Q];simp only[Q,if_true]at this;simp only[Q,Qi];exact this _
      .rw[if_neg Q];simp only[Q,if_false]at this;simp only[Qd,X8 hi I,Qi];exact this _
     .exact h.elim
    .exact raw _ h
   .exact raw _ h
  .exact raw _ h
 |slice t x lo hi mx=>
  cases mx with
  |some _=>exact raw _ h
  |none=>
   simp only[Q5]at h;split at h
   .rename_i e hu;split at h
    .rename_i n w;simp only[execOp,show a.eval=Zf f from funext hf];exact QY (pB hu w h)
    .exact raw _ h
   .exact raw _ h
 |_=>exact raw _ h
