/- Lemmas. No conditions. -/
import Derived.Conc.Own
import Derived.Orders
import Derived.KernelRfl
set_option linter.all false
theorem K1{α:Sort _}{a b:α}(h:a=b:=by kernel_rfl):a=b:=h
theorem O1{p:Prop}(h:p:=by omega):p:=h
theorem S1{p:Prop}(h:p:=by simp):p:=h
theorem T1{p:Prop}(h:p:=by trivial):p:=h
theorem D1{p:Prop}(h:p:=by decide):p:=h
theorem Zz_{p:Prop}(h:p:=by first|exact rfl|exact D1):p:=h
theorem L1{p:Prop}(h:p:=by show _-_<_-_;omega):p:=h
theorem S2{p:Prop}(h:p:=by simp_all):p:=h
theorem S3{p:Prop}(h:p:=by simp;omega):p:=h
open List
theorem Zz3{α}{l:List α}:∃x,l=x++[]:=⟨_,(append_nil _).symm⟩
namespace Go
abbrev Value.pb(b:Nat):Value:=.pointer (some ⟨b,0,none⟩)
abbrev Value.nl:Value:=.slice none 0 0
abbrev Gr:=Goroutine
def Value.single:Value->Bool
 |.agg _|.tuple _=>false
 |_=>true
end Go
namespace Go.TM
variable{T α β γ:Type}{w w':World}{π:Loc}{l len n j cap:Nat}{ε ζ:Obj}{χ:Event}{W:Addr}{v z:Value}{args tmps:Array Value}{t e:TypeId}{P:Program}{m p:Bool}{g g':Gr}{b:Frame}{a a_0 av ac:Act}{k u:List Item}{cs:List Frame}{c assign as:Code}{ops:Array Oper}{rest todo rl qs ts pre L:List Nat}{o:Oper}{fn:FuncId}{ro:Option Nat}{listed:Array Bool}{N:Nat->Value}{D E:Nat->Prop}{late:Nat->Bool}{fd:Func}{x y:Operand}{params:Array Tmp}{η θ:Int}{d:TypeDesc}{κ:TypeInfo}{op:BinOp}{Z k':IntKind}{σ τ:ByteArray}{ω:Array Operand}{ρ:Operand->Value}{code:BoundsCode}{μ I:Option Value}{lo B:Option Operand}{vs:List Value}
inductive Q2 where
 |obj (b:Nat) (o:Obj)
 |cell (b i:Nat) (v:Value) (T:TypeId) (n:Nat)
variable{M M':List Q2}{r s:Q2}
abbrev Q2.cl(b:Nat)(l:List Value)(t:TypeId):Q2:=.obj b (.cells l.toArray t (0,0))
def Q2.blk:Q2->Nat
 |.obj b _=>b
 |.cell b _ _ _ _=>b
def Q2.ok(w:World):Q2->Prop
 |.obj b o=>w.heap[b]?=some o
 |.cell b i v T n=>∃c,w.heap[b]?=some (.cells c T (0,0))/\c.size=n/\c[i]?=some v
def Q2.apart:Q2->Q2->Prop
 |.cell b i _ _ _,.cell c j _ _ _=>b≠c\/i≠j
 |r,s=>r.blk≠s.blk
structure Qa(T:Type) where
 I:Nat->Option Obj
 M:List Q2
 tok:T
variable{U U' U₀:Qa T}{ψ:α->Qa T->Prop}{K R':Value->Qa T->Prop}{V:Act->Qa T->Prop}{G A:Qa T->Prop}{υ:Addr->Qa T->Prop}{δ:Unit->Qa T->Prop}{φ:Nat->Qa T->Prop}{H:Nat×Nat×Nat->Qa T->Prop}{ν:Array (Nat×Nat)->Qa T->Prop}{ξ:Array Value->Qa T->Prop}
structure Qa.ok(U:Qa T)(w:World):Prop where
 imm:∀b o,U.I b=some o->w.heap[b]?=some o
 held:∀r∈U.M,r.ok w
 apart:U.M.Pairwise Q2.apart
 sep:∀r∈U.M,U.I r.blk=none
def Qa.canW(U:Qa T):Loc->Prop
 |.cell a=>(∃c t fr,Q2.obj a.block (.cells c t fr)∈U.M/\a.off<c.size)\/(∃v t n,Q2.cell a.block a.off v t n∈U.M)
 |.obj b=>∃o,Q2.obj b o∈U.M
 |_=>False
def Qa.canR(U:Qa T):Loc->Prop
 |.cell a=>U.canW (.cell a)\/∃c t fr,U.I a.block=some (.cells c t fr)/\a.off<c.size
 |.obj b=>U.canW (.obj b)\/∃o,U.I b=some o
 |_=>False
def Loc.new(w:World):Loc->Prop
 |.cell a=>w.heap.size<=a.block
 |.obj b=>w.heap.size<=b
 |_=>False
def Mark.still:Mark->Bool
 |.acquire _|.release _|.releaseMerge _|.disable|.enable|.read _|.write _=>false
 |_=>true
def WA(U:Qa T)(w:World)(e:Event):Prop:=
 match e.loc with
 |.cell a=>e.sync=false/\(if e.write then U.canW (.cell a)\/Loc.new w (.cell a)else U.canR (.cell a)\/Loc.new w (.cell a))
 |.obj b=>e.sync=false/\(if e.write then U.canW (.obj b)\/Loc.new w (.obj b)else U.canR (.obj b)\/Loc.new w (.obj b))
 |.mark m=>Mark.still m=true
 |_=>False
def WE(o e:Os):Prop:=∃d:Nat,e={ o with wall:=o.wall+d,mono:=o.mono+d }
def WE.refl(o:Os):WE o o:=⟨0,rfl⟩
def WE.trans{a b c:Os}(h:WE a b)(k:WE b c):WE a c:=by
 obtain⟨d,rfl⟩:=h;obtain⟨e,rfl⟩:=k;exact⟨d+e,by simp[Nat.add_assoc]⟩
structure Z_(U:Qa T)(w w':World)(U':Qa T):Prop where
 os:WE w.os w'.os
 tape:w'.tape=w.tape
 output:w'.output=w.output
 size:w.heap.size<=w'.heap.size
 cells:∀b c t fr,w.heap[b]?=some (.cells c t fr)->∃c' fr',w'.heap[b]?=some (.cells c' t fr')/\c'.size=c.size/\(∀i,¬U.canW (.cell ⟨b,i,none⟩)->c'[i]?=c[i]?)/\(fr'=fr\/(U.canW (.obj b)/\∀i,i<c.size->U.canW (.cell ⟨b,i,none⟩)))
 objs:∀b o,w.heap[b]?=some o->(∀c t fr,o≠.cells c t fr)->¬U.canW (.obj b)->w'.heap[b]?=some o
 cw:∀l,U'.canW l->U.canW l\/Loc.new w l
 cr:∀l,U'.canR l->U.canR l\/Loc.new w l
def Z_.refl(U:Qa T)(w:World):Z_ U w w U:=
 ⟨.refl _,rfl,rfl,Nat.le_refl _,λ _ c _ fr h=>⟨c,fr,h,rfl,λ _ _=>rfl,.inl rfl⟩,λ _ _ h _ _=>h,λ _ h=>.inl h,λ _ h=>.inl h⟩
def Loc.new_mono(h:w.heap.size<=w'.heap.size)(e:Loc.new w' π):Loc.new w π:=by
 cases π <;> simp_all[Loc.new] <;> omega
def TS(h:w.heap[l]?=some ε)(i:Nat):¬Loc.new w (.cell ⟨l,i,none⟩):=by
 grind[Loc.new]
def TU(h:w.heap[l]?=some ε):¬Loc.new w (.obj l):=by
 grind[Loc.new]
def Z_.trans{U Y Z:Qa T}{w L M:World}(h:Z_ U w L Y)(k:Z_ Y L M Z):Z_ U w M Z:=by
 refine⟨h.os.trans k.os,k.tape.trans h.tape,k.output.trans h.output,Nat.le_trans h.size k.size,?_,?_,?_,?_⟩
 .intro b c t fr hb;obtain⟨P,S,E,B,F,H⟩:=h.cells b c t fr hb;obtain⟨Q,V,W,K,G,I⟩:=k.cells b P t S E;refine⟨Q,V,W,K.trans B,λ i N=>?_,?_⟩
  .rw[G i λ e=>?_,F i N];rcases h.cw _ e with e|e
   .exact N e
   .exact TS hb i e
  .rcases I with rfl|⟨ho,N⟩
   .exact H
   .refine .inr ⟨?_,λ i X=>?_⟩
    .rcases h.cw _ ho with e|e
     .exact e
     .exact absurd e (TU hb)
    .rcases h.cw _ (N i (by rw[B];exact X))with e|e
     .exact e
     .exact absurd e (TS hb i)
 .intro b o hb hne e;have E:=h.objs b o hb hne e;refine k.objs b o E hne λ z=>?_;rcases h.cw _ z with z|z
  .exact e z
  .exact TU hb z
 .intro l f;rcases k.cw l f with f|f
  .exact h.cw l f
  .exact .inr (Loc.new_mono h.size f)
 .intro l f;rcases k.cr l f with f|f
  .exact h.cr l f
  .exact .inr (Loc.new_mono h.size f)
def WA.of{F:Qa T}(h:Z_ U w w' F)(z:WA F w' χ):WA U w χ:=by
 obtain⟨loc,wr,G⟩:=χ;cases loc with
 |cell a=>
  simp only[WA]at z ⊢;refine⟨z.1,?_⟩;have f:=z.2;split at f <;> rename_i B <;> simp only[B,if_true,if_false,Bool.false_eq_true]
  .rcases f with f|f
   .exact h.cw _ f
   .exact .inr (Loc.new_mono h.size f)
  .rcases f with f|f
   .exact h.cr _ f
   .exact .inr (Loc.new_mono h.size f)
 |obj b=>
  simp only[WA]at z ⊢;refine⟨z.1,?_⟩;have f:=z.2;split at f <;> rename_i B <;> simp only[B,if_true,if_false,Bool.false_eq_true]
  .rcases f with f|f
   .exact h.cw _ f
   .exact .inr (Loc.new_mono h.size f)
  .rcases f with f|f
   .exact h.cr _ f
   .exact .inr (Loc.new_mono h.size f)
 |output=>exact z
 |goroutines=>exact z
 |mark m=>exact z
def Qa.sees(U:Qa T)(a:Addr)(v:Value):Prop:=
 a.spot=none/\((∃c t fr,(U.I a.block=some (.cells c t fr)\/Q2.obj a.block (.cells c t fr)∈U.M)/\c[a.off]?=some v)\/(∃t n,Q2.cell a.block a.off v t n∈U.M))
def Qa.has(U:Qa T)(b:Nat)(o:Obj):Prop:=U.I b=some o\/Q2.obj b o∈U.M
inductive XS(a:Addr)(v:Value):List Q2->List Q2->Prop
 |obj {a1 a4 i}:a.spot=none->a.off<a1.size->XS a v (.obj a.block (.cells a1 a4 (0,0))::i) (.obj a.block (.cells (a1.setIfInBounds a.off v) a4 (0,0))::i)
 |cell {a5 a4 a2 i}:a.spot=none->XS a v (.cell a.block a.off a5 a4 a2::i) (.cell a.block a.off v a4 a2::i)
 |there {a3 i a0}:XS a v i a0->XS a v (a3::i) (a3::a0)
inductive J5(b:Nat)(o':Obj):Obj->List Q2->List Q2->Prop
 |here {a1 i}:J5 b o' a1 (.obj b a1::i) (.obj b o'::i)
 |there {a1 a2 i a0}:J5 b o' a1 i a0->J5 b o' a1 (a2::i) (a2::a0)
def Obj.shapeOf:Obj->Option (TypeId×Nat)
 |.cells c t _=>some (t,c.size)
 |_=>none
def Obj.isCells:Obj->Bool
 |.cells ..=>true
 |_=>false
def Qa.put(U:Qa T)(b:Nat)(o:Obj):Qa T:={ U with M:=.obj b o::U.M }
def Qa.free(U:Qa T)(b:Nat):Prop:=U.I b=none/\∀r∈U.M,r.blk≠b
def Qw(P:Program){α:Type}:Sem α->(α->Qa T->Prop)->Qa T->Prop
 |.pure a,Q,U=>Q a U
 |.load m a k,Q,U=>m=.plain/\∃v,U.sees a v/\Qw P (k v) Q U
 |.store m a v k,Q,U=>m=.plain/\v.single=true/\∃M',XS a v U.M M'/\Qw P k Q { U with M:=M' }
 |.new o k,Q,U=>∀b,U.free b->Qw P (k b) Q (U.put b o)
 |.shape r k,Q,U=>∃o,U.has r o/\Qw P (k (Obj.shapeOf o)) Q U
 |.freeze a n k,Q,U=>n≠0/\∃c t M',U.M=.obj a.block (.cells c t (0,0))::M'/\Qw P k Q { U with M:=.obj a.block (.cells c t (a.off,a.off+n))::M' }
 |.frozen a k,Q,U=>∃c t,U.has a.block (.cells c t (0,0))/\Qw P (k false) Q U
 |.getObj r k,Q,U=>∃o,U.has r o/\Obj.isCells o=false/\o.isChan=false/\Qw P (k o) Q U
 |.setObj r o k,Q,U=>∃e M',J5 r o e U.M M'/\Obj.isCells e=false/\Obj.isCells o=false/\o.isChan=false/\Qw P k Q { U with M:=M' }
 |.choose q k,Q,U=>if q.forced then Qw P (k 0) Q U else ∀t,Qw P (k (q.cut t)) Q U
 |.sys _ _,_,_=>False
 |.program k,Q,U=>Qw P (k P) Q U
 |.mark m k,Q,U=>Mark.still m=true/\Qw P k Q U
 |.halt _,_,_=>False
def Qa.sees_cell(h:U.ok w)(E:U.sees W v):w.cell? W=some v/\U.canR (.cell W):=by
 obtain⟨f,⟨c,t,fr,e,z⟩|⟨t,n,B⟩⟩:=E
 .have hlt:W.off<c.size:=(Array.getElem?_eq_some_iff.1 z).1;rcases e with e|e
  .exact⟨by simp[World.cell?,h.imm _ _ e,f,z],.inr ⟨c,t,fr,e,hlt⟩⟩
  .have:=h.held _ e;simp only[Q2.ok]at this;exact⟨by grind[World.cell?],.inl (.inl ⟨c,t,fr,e,hlt⟩)⟩
 .obtain⟨c,e,_,z⟩:=h.held _ B;exact⟨by grind[World.cell?],.inl (.inr ⟨v,t,n,B⟩)⟩
def Qa.has_heap(h:U.ok w)(e:U.has l ε):w.heap[l]?=some ε:=by
 rcases e with e|e
 .exact h.imm _ _ e
 .exact h.held _ e
def Al(w:World)(a:Addr)(v:Value)(c:Array Value)(t:TypeId)(fr:Nat×Nat)(e:a.spot=none)(h:w.heap[a.block]?=some (.cells c t fr)) :
  (w.setCell a v).heap[a.block]?=some (.cells (c.setIfInBounds a.off v) t fr):=by
 simp[World.setCell,Array.getElem?_modify,h,e]
def W2(w:World)(a:Addr)(v:Value)(h:l≠a.block):(w.setCell a v).heap[l]?=w.heap[l]?:=by
 simp only[World.setCell,Array.getElem?_modify];grind
def Am(w:World)(a:Addr)(v:Value):(w.setCell a v).heap.size=w.heap.size:=by simp[World.setCell]
inductive WN(a:Addr)(v:Value):Q2->Q2->Prop
 |obj {a0 a1 a3}:a0=a.block->a.spot=none->a.off<a1.size->WN a v (.obj a0 (.cells a1 a3 (0,0))) (.obj a0 (.cells (a1.setIfInBounds a.off v) a3 (0,0)))
 |cell {a0 i a4 a3 a2}:a0=a.block->i=a.off->a.spot=none->WN a v (.cell a0 i a4 a3 a2) (.cell a0 i v a3 a2)
def XS.split(h:XS W v M M'):∃M₁ r f M₂,M=M₁++r::M₂/\M'=M₁++f::M₂/\WN W v r f:=by
 induction h with
 |obj e w=>exact⟨[],_,_,_,rfl,rfl,.obj rfl e w⟩
 |cell e=>exact⟨[],_,_,_,rfl,rfl,.cell rfl rfl e⟩
 |there _ B=>grind
def J5.split(h:J5 l ε ζ M M'):∃M₁ M₂,M=M₁++.obj l ζ::M₂/\M'=M₁++.obj l ε::M₂:=by
 induction h with
 |here=>exact⟨[],_,rfl,rfl⟩
 |there _ f=>grind
def WN.blk{a:Addr}{v:Value}{r s:Q2}(h:WN a v r s):s.blk=r.blk:=by cases h <;> rfl
def WN.blk'(h:WN W v r s):r.blk=W.block:=by cases h <;> simp_all[Q2.blk]
def WN.apart{a:Addr}{v:Value}{r s:Q2}(h:WN a v r s)(x:Q2):s.apart x↔r.apart x:=by
 cases h <;> cases x <;> simp[Q2.apart,Q2.blk]
def Q2.apart_symm(h:r.apart s):s.apart r:=by
 cases r <;> cases s <;> simp_all[Q2.apart,Q2.blk,eq_comm]
def WN.apart'(h:WN W v r s)(x:Q2):x.apart s↔x.apart r:=
 ⟨λ k=>Q2.apart_symm ((h.apart x).1 (Q2.apart_symm k)),λ k=>Q2.apart_symm ((h.apart x).2 (Q2.apart_symm k))⟩
def Q2.lets:Q2->Loc->Prop
 |.obj b (.cells c _ _),.cell a=>a.block=b/\a.off<c.size
 |.cell b i _ _ _,.cell a=>a.block=b/\a.off=i
 |.obj b _,.obj e=>e=b
 |_,_=>False
def Za{l:Loc}:U.canW l↔∃r∈U.M,r.lets l:=by
 cases l with
 |cell a=>
  simp only[Qa.canW];constructor
  .rintro(⟨c,t,fr,hm,e⟩|⟨v,t,n,hm⟩)
   .exact⟨_,hm,rfl,e⟩
   .exact⟨_,hm,rfl,rfl⟩
  .rintro⟨r,hr,hl⟩;cases r with
   |obj b o=>
    cases o <;> simp only[Q2.lets]at hl;grind
   |cell b i v t n=>
    grind[Q2.lets]
 |obj b=>
  simp only[Qa.canW];constructor
  .rintro⟨o,h⟩;exact⟨_,h,by cases o <;> rfl⟩
  .rintro⟨r,hr,hl⟩;cases r with
   |obj f o=>grind[Q2.lets]
   |cell f i v t n=>exact hl.elim
 |output=>simp[Qa.canW];intro r _ h;cases r with|obj b o=>cases o <;> exact h|cell=>exact h
 |goroutines=>simp[Qa.canW];intro r _ h;cases r with|obj b o=>cases o <;> exact h|cell=>exact h
 |mark _=>simp[Qa.canW];intro r _ h;cases r with|obj b o=>cases o <;> exact h|cell=>exact h
def WN.lets{a:Addr}{v:Value}{r s:Q2}(h:WN a v r s)(l:Loc):s.lets l↔r.lets l:=by
 cases h <;> cases l <;> simp[Q2.lets]
def WN.canAt(h:WN W v r s):r.lets (.cell W):=by
 cases h <;> simp_all[Q2.lets]
def Q3:U.canR π↔(∃r∈U.M,r.lets π)\/(match π with|.cell a=>∃c t fr,U.I a.block=some (.cells c t fr)/\a.off<c.size|.obj b=>∃o,U.I b=some o|_=>False):=by
 have:=Za (U:=U) (l:=π);grind[Qa.canR,Qa.canW]
def Cz(h:U.ok w){a:Addr}(hu:XS a v U.M M') :
  (∃u,w.cell? a=some u)/\w.frozen? a=false/\U.canW (.cell a)/\Qa.ok { U with M:=M' } (w.setCell a v)/\Z_ U w (w.setCell a v) { U with M:=M' }:=by
 obtain⟨M₁,r,r',M₂,Q,rfl,F⟩:=hu.split;have W:r∈U.M:=by rw[Q];simp
 have aa:U.canW (.cell a):=Za.2 ⟨r,W,F.canAt⟩;have L:=h.held r W;have X:a.spot=none:=by cases F <;> assumption
 obtain⟨c,t,H,P⟩:∃c t,w.heap[a.block]?=some (.cells c t (0,0))/\a.off<c.size:=by
  cases F with
  |obj e _ P=>subst e;exact⟨_,_,L,P⟩
  |cell e e' _=>subst e;subst e';obtain⟨c,H,_,hc⟩:=L;grind
 have G:=Al w a v c t (0,0) X H
 have K:∀l,(∃s∈M₁++r'::M₂,s.lets l)↔∃s∈U.M,s.lets l:=by
  intro l;rw[Q];simp only[mem_append,mem_cons];constructor
  .rintro⟨s,z|rfl|z,hl'⟩
   .exact⟨s,.inl z,hl'⟩
   .exact⟨r,.inr (.inl rfl),(F.lets l).1 hl'⟩
   grind
  .rintro⟨s,z|rfl|z,hl'⟩
   .exact⟨s,.inl z,hl'⟩
   .exact⟨r',.inr (.inl rfl),(F.lets l).2 hl'⟩
   grind
 have f:=h.apart;rw[Q]at f;refine⟨⟨c[a.off],by grind[World.cell?]⟩,by simp[World.frozen?,H],aa,⟨?_,?_,?_,?_⟩,?_⟩
 .intro b o hI
  have B:b≠a.block:=by
   intro e;have:=h.sep r W;rw[F.blk',<- e,hI]at this;cases this
  rw[W2 _ _ _ B];exact h.imm b o hI
 .intro s z;simp only[mem_append,mem_cons]at z
  have N:∀s,s∈U.M->r.apart s->s.ok (w.setCell a v):=by
   intro s z f;have V:=h.held s z;cases s with
   |obj b o=>
    have B:b≠a.block:=by
     cases F <;> simp_all[Q2.apart,Q2.blk] <;> exact λ e=>f e.symm
    simp only[Q2.ok]at V ⊢;rw[W2 _ _ _ B];exact V
   |cell b i u t' n=>
    obtain⟨Y,E,Z,S⟩:=V;by_cases B:b=a.block
    .subst B;cases F with
     |obj e _ _=>exact absurd e.symm (by simpa[Q2.apart,Q2.blk]using λ e=>f e.symm)
     |cell e e' _=>
      have hi:i≠a.off:=by
       simp[Q2.apart]at f;rcases f with f|f
       .exact absurd e f
       .exact λ x=>f (e'.trans x.symm)
      rw[H]at E;cases E;refine⟨c.setIfInBounds a.off v,G,by simpa using Z,?_⟩;rw[Array.getElem?_setIfInBounds_ne (λ x=>hi x.symm)];exact S
    .exact⟨Y,by rw[W2 _ _ _ B];exact E,Z,S⟩
  rw[pairwise_append,pairwise_cons]at f;rcases z with z|rfl|z
  .exact N s (by rw[Q];simp[z]) (Q2.apart_symm (f.2.2 s z r S1))
  .cases F with
   |obj e _ _=>subst e;simp only[Q2.ok]at L ⊢;rw[L]at H;cases H;exact G
   |cell e e' _=>
    subst e;subst e';obtain⟨Y,E,Z,S⟩:=L;rw[H]at E;cases E;exact⟨_,G,by simpa using Z,by rw[Array.getElem?_setIfInBounds_self_of_lt P]⟩
  simp_all
 .show Pairwise Q2.apart (M₁++r'::M₂);rw[pairwise_append,pairwise_cons]at f ⊢;refine⟨f.1,⟨λ s z=>(F.apart s).2 (f.2.1.1 s z),f.2.1.2⟩,λ s z x hx=>?_⟩;rcases mem_cons.1 hx with rfl|hx
  .exact(F.apart' s).2 (f.2.2 s z r S1)
  simp_all
 .intro s z;show U.I s.blk=none;simp only[mem_append,mem_cons]at z;rcases z with z|rfl|z
  .exact h.sep s (by rw[Q];simp[z])
  .rw[F.blk];exact h.sep r W
  .exact h.sep s (by rw[Q];simp[z])
 .refine⟨.refl _,rfl,rfl,by rw[Am];simp_all,?_,?_,?_,?_⟩
  .intro b Y t' fr E;by_cases B:b=a.block
   .subst B;rw[H]at E;cases E;refine⟨_,_,G,S1,λ i hi=>?_,.inl rfl⟩;rw[Array.getElem?_setIfInBounds_ne];rintro rfl;refine hi (Za.2 ⟨r,W,?_⟩);have:=F.canAt;cases F <;> simp_all[Q2.lets]
   .exact⟨Y,fr,by rw[W2 _ _ _ B];exact E,rfl,λ _ _=>rfl,.inl rfl⟩
  .intro b o ho B _;by_cases e:b=a.block
   .grind
   .rw[W2 _ _ _ e];exact ho
  .intro l hl';rw[Za]at hl' ⊢;simp_all
  .intro l hl';rw[Q3]at hl' ⊢;simp_all
def World.plus(w:World)(o:Obj):World:={ w with heap:=w.heap.push o }
def CX(h:U.ok w)(o:Obj) :
  U.free w.heap.size/\Qa.ok (U.put w.heap.size o) (World.plus w o)/\Z_ U w (World.plus w o) (U.put w.heap.size o):=by
 have z:∀b,b<w.heap.size->(World.plus w o).heap[b]?=w.heap[b]?:=λ b F=>by
  simp only[World.plus,Array.getElem?_push];rw[if_neg O1]
 have G:∀r∈U.M,r.blk<w.heap.size:=by
  intro r f;have:=h.held r f;cases r with
  |obj b o=>exact(Array.getElem?_eq_some_iff.1 this).1
  |cell b i v t n=>obtain⟨c,F,_⟩:=this;exact(Array.getElem?_eq_some_iff.1 F).1
 have B:U.free w.heap.size:=by
  refine⟨?_,λ r f e=>by have:=G r f;omega⟩;cases e:U.I w.heap.size with
  |none=>rfl
  |some x=>have:=(Array.getElem?_eq_some_iff.1 (h.imm _ _ e)).1;omega
 have K:∀b H,U.I b=some H->b<w.heap.size:=λ b H e=>(Array.getElem?_eq_some_iff.1 (h.imm _ _ e)).1;refine⟨B,⟨λ b H e=>by rw[z _ (K b H e)];exact h.imm b H e,?_,?_,?_⟩,?_⟩
 .intro r f;rcases mem_cons.1 f with rfl|f
  .simp[Q2.ok,World.plus]
  .have:=h.held r f;cases r with
   |obj b H=>exact(z b (G _ f)).trans this
   |cell b i v t n=>obtain⟨c,F,x⟩:=this;exact⟨c,(z b (G _ f)).trans F,x⟩
 .refine pairwise_cons.2 ⟨λ r f=>?_,h.apart⟩;grind[Q2.apart,Q2.blk]
 .intro r f;rcases mem_cons.1 f with rfl|f
  .exact B.1
  .exact h.sep r f
 .refine⟨.refl _,rfl,rfl,by simp[World.plus],?_,?_,?_,?_⟩
  .grind
  .grind
  .intro l E;rw[Za]at E ⊢;obtain⟨r,f,E⟩:=E;rcases mem_cons.1 f with rfl|f
   .refine .inr ?_;cases l <;> cases o <;> simp_all[Q2.lets,Loc.new]
   grind
  .intro l E;rw[Q3]at E ⊢;rcases E with⟨r,f,E⟩|E
   .rcases mem_cons.1 f with rfl|f
    .refine .inr ?_;cases l <;> cases o <;> simp_all[Q2.lets,Loc.new]
    grind
   .exact .inl (.inr E)
def Fk(h:U.ok w)(hu:J5 len ε ζ U.M M')(h1:Obj.isCells ζ=false)(h2:Obj.isCells ε=false) :
  w.heap[len]?=some ζ/\U.canW (.obj len)/\Qa.ok { U with M:=M' } { w with heap:=w.heap.setIfInBounds len ε }/\Z_ U w { w with heap:=w.heap.setIfInBounds len ε } { U with M:=M' }:=by
 obtain⟨M₁,M₂,N,rfl⟩:=hu.split;have W:Q2.obj len ζ∈U.M:=by rw[N];simp
 have Y:w.heap[len]?=some ζ:=h.held _ W;have aa:=(Array.getElem?_eq_some_iff.1 Y).1;have Q:U.canW (.obj len):=⟨ζ,W⟩;have f:=h.apart;rw[N]at f
 have B:∀x,x≠len->(w.heap.setIfInBounds len ε)[x]?=w.heap[x]?:=λ x V=>by
  grind
 have H:∀l,(Q2.obj len ε).lets l↔(Q2.obj len ζ).lets l:=by
  intro l;cases ζ <;> cases ε <;> simp_all[Obj.isCells] <;> cases l <;> simp[Q2.lets]
 have L:∀l,(∃s∈M₁++Q2.obj len ε::M₂,s.lets l)↔∃s∈U.M,s.lets l:=by
  intro l;rw[N];simp only[mem_append,mem_cons];constructor
  .rintro⟨s,z|rfl|z,hl'⟩
   .exact⟨s,.inl z,hl'⟩
   .exact⟨_,.inr (.inl rfl),(H l).1 hl'⟩
   .exact⟨s,.inr (.inr z),hl'⟩
  .rintro⟨s,z|rfl|z,hl'⟩
   .exact⟨s,.inl z,hl'⟩
   .exact⟨_,.inr (.inl rfl),(H l).2 hl'⟩
   .exact⟨s,.inr (.inr z),hl'⟩
 have P:∀x,(Q2.obj len ε).apart x↔(Q2.obj len ζ).apart x:=λ x=>by grind[Q2.apart,Q2.blk]
 refine⟨Y,Q,⟨?_,?_,?_,?_⟩,?_⟩
 .intro x ox hI;have F:x≠len:=by rintro rfl;have:=h.sep _ W;simp only[Q2.blk]at this;rw[hI]at this;cases this
  show(w.heap.setIfInBounds len ε)[x]?=_;rw[B x F];exact h.imm x ox hI
 .intro s z
  have K:∀s,s∈U.M->(Q2.obj len ζ).apart s->s.ok { w with heap:=w.heap.setIfInBounds len ε }:=by
   intro s z f;have S:=h.held s z;cases s with
   |obj x ox=>
    have F:x≠len:=by simp[Q2.apart,Q2.blk]at f;exact λ e=>f e.symm
    show(w.heap.setIfInBounds len ε)[x]?=_;rw[B x F];exact S
   |cell x i u t n=>
    have F:x≠len:=by simp[Q2.apart,Q2.blk]at f;exact λ e=>f e.symm
    obtain⟨X,G,hn,Z⟩:=S;exact⟨X,(B x F).trans G,hn,Z⟩
  simp only[mem_append,mem_cons]at z;rw[pairwise_append,pairwise_cons]at f;rcases z with z|rfl|z
  .exact K s (by rw[N];simp[z]) (Q2.apart_symm (f.2.2 s z _ S1))
  .show(w.heap.setIfInBounds len ε)[len]?=_;rw[Array.getElem?_setIfInBounds_self_of_lt aa]
  simp_all
 .show Pairwise Q2.apart (M₁++Q2.obj len ε::M₂);rw[pairwise_append,pairwise_cons]at f ⊢;refine⟨f.1,⟨λ s z=>(P s).2 (f.2.1.1 s z),f.2.1.2⟩,λ s z x V=>?_⟩;rcases mem_cons.1 V with rfl|V
  .exact Q2.apart_symm ((P s).2 (Q2.apart_symm (f.2.2 s z _ S1)))
  simp_all
 .intro s z;show U.I s.blk=none;simp only[mem_append,mem_cons]at z;rcases z with z|rfl|z
  .exact h.sep s (by rw[N];simp[z])
  .exact(h.sep _ W:U.I len=none)
  .exact h.sep s (by rw[N];simp[z])
 .refine⟨.refl _,rfl,rfl,S1,?_,?_,?_,?_⟩
  .grind[Obj.isCells]
  .grind
  .intro l hl';rw[Za]at hl' ⊢;simp_all
  .intro l hl';rw[Q3]at hl' ⊢;simp_all
def SD(w:World)(a:Addr)(n:Nat)(e:n≠0)(c:Array Value)(t:TypeId)(h:w.heap[a.block]?=some (.cells c t (0,0))):(w.freeze a n).heap[a.block]?=some (.cells c t (a.off,a.off+n)):=by
 simp[World.freeze,e,Array.getElem?_modify,h]
def GY(w:World)(a:Addr)(n:Nat)(h:l≠a.block):(w.freeze a n).heap[l]?=w.heap[l]?:=by
 unfold World.freeze;grind
def Bt(w:World)(a:Addr)(n:Nat):(w.freeze a n).heap.size=w.heap.size:=by grind[World.freeze]
def Yh(w:World)(a:Addr)(n:Nat):(w.freeze a n).os=w.os/\(w.freeze a n).tape=w.tape/\(w.freeze a n).output=w.output:=by grind[World.freeze]
def FV(h:U.ok w){a:Addr}(Q:n≠0)(G:U.M=.obj a.block (.cells args t (0,0))::M') :
  Qa.ok { U with M:=.obj a.block (.cells args t (a.off,a.off+n))::M' } (w.freeze a n)/\Z_ U w (w.freeze a n) { U with M:=.obj a.block (.cells args t (a.off,a.off+n))::M' }:=by
 have H:Q2.obj a.block (.cells args t (0,0))∈U.M:=by rw[G];simp
 have L:w.heap[a.block]?=some (.cells args t (0,0)):=h.held _ H;have E:=h.apart;rw[G,pairwise_cons]at E;have z:∀l,(Q2.obj a.block (.cells args t (a.off,a.off+n))).lets l↔(Q2.obj a.block (.cells args t (0,0))).lets l:=λ l=>by cases l <;> rfl
 have B:∀l,(∃s∈Q2.obj a.block (.cells args t (a.off,a.off+n))::M',s.lets l)↔∃s∈U.M,s.lets l:=by
  intro l;rw[G];constructor
  .rintro⟨s,f,hl⟩;rcases mem_cons.1 f with rfl|f
   .exact⟨_,mem_cons_self ..,(z l).1 hl⟩
   .exact⟨s,mem_cons_of_mem _ f,hl⟩
  .rintro⟨s,f,hl⟩;rcases mem_cons.1 f with rfl|f
   .exact⟨_,mem_cons_self ..,(z l).2 hl⟩
   .exact⟨s,mem_cons_of_mem _ f,hl⟩
 have ne:∀r∈M',r.blk≠a.block:=λ r F e=>by
  grind[Q2.apart,Q2.blk]
 refine⟨⟨λ b o P=>?_,λ s f=>?_,?_,λ s f=>?_⟩,?_⟩
 .have:b≠a.block:=by rintro rfl;have:=h.sep _ H;simp only[Q2.blk]at this;rw[P]at this;cases this
  rw[GY _ _ _ this];exact h.imm b o P
 .rcases mem_cons.1 f with rfl|f
  .exact SD w a n Q args t L
  .have hne:=ne s f;have K:=h.held s (by rw[G];simp[f]);cases s with
   |obj b o=>exact(GY w a n hne).trans K
   |cell b i v t X=>obtain⟨N,S,V⟩:=K;exact⟨N,(GY w a n hne).trans S,V⟩
 .grind[Q2.apart,pairwise_cons,Q2.blk]
 .rcases mem_cons.1 f with rfl|f
  .exact(h.sep _ H:U.I a.block=none)
  .exact h.sep s (by rw[G];simp[f])
 .refine⟨by rw[(Yh w a n).1];exact .refl _,(Yh w a n).2.1,(Yh w a n).2.2,by rw[Bt];simp_all,?_,?_,?_,?_⟩
  .intro b N t' fr hb';by_cases e:b=a.block
   .subst e;rw[L]at hb';cases hb';exact⟨args,_,SD w a n Q args t L,rfl,λ _ _=>rfl,.inr ⟨Za.2 ⟨_,H,rfl⟩,λ i W=>Za.2 ⟨_,H,rfl,W⟩⟩⟩
   .exact⟨N,fr,by rw[GY _ _ _ e];exact hb',rfl,λ _ _=>rfl,.inl rfl⟩
  .intro b o ho hne _;by_cases e:b=a.block
   .grind
   .rw[GY _ _ _ e];exact ho
  .intro l hl;rw[Za]at hl ⊢;simp_all
  .intro l hl;rw[Q3]at hl ⊢;simp_all
def Ej(h:U.ok w)(d:Nat):U.ok { w with drawn:=d }:=⟨h.imm,h.held,h.apart,h.sep⟩
def KT(U:Qa T)(w:World)(d:Nat):Z_ U w { w with drawn:=d } U:=
 ⟨.refl _,rfl,rfl,Nat.le_refl _,λ _ c _ fr h=>⟨c,fr,h,rfl,λ _ _=>rfl,.inl rfl⟩,λ _ _ h _ _=>h,λ _ h=>.inl h,λ _ h=>.inl h⟩
def H5(w:World)(e:Event):Prop:=
 match e.loc with
 |.cell a=>a.block<w.heap.size
 |.obj b=>b<w.heap.size
 |_=>True
def H5.mono(h:H5 w χ)(f:w.heap.size<=w'.heap.size):H5 w' χ:=by
 grind[H5]
def OQ(h:w.cell? W=some v):W.block<w.heap.size:=by
 apply Classical.byContradiction;grind[Array.getElem?_eq_none,Nat.le_of_not_lt,World.cell?]
def Qw.sound(s:Sem α):∀{Q:α->Qa T->Prop}{U:Qa T}{w:World}{es₀:Array Event},Qw P s Q U->U.ok w ->
  ∃a w' es U',s.runT P w es₀=(.ok a w',es₀++es)/\(∀e∈es,WA U w e/\H5 w' e)/\Z_ U w w' U'/\U'.ok w'/\Q a U'/\U'.tok=U.tok:=by
 induction s with
 |pure a=>exact λ{Q U w es₀}h ok=>⟨a,w,#[],U,by simp[Sem.runT],S1,.refl _ _,ok,h,rfl⟩
 |load m a k K=>
  intro Q U w es₀ h ok;obtain⟨rfl,v,hs,h⟩:=h;obtain⟨W,hr⟩:=Qa.sees_cell ok hs;obtain⟨x,w',es,U',f,z,F,B,H⟩:=K v (es₀:=es₀.push ⟨.cell a,false,false⟩) h ok;refine⟨x,w',#[⟨.cell a,false,false⟩]++es,U',?_,?_,F,B,H⟩
  .simp only[Sem.runT,W];rw[show(Mode.plain==Mode.atomic)=false from rfl,f];simp
  .intro e E;rcases Array.mem_append.1 E with E|E
   .simp at E;subst E;exact⟨⟨rfl,.inl hr⟩,Nat.lt_of_lt_of_le (OQ W) F.size⟩
   .exact z e E
 |store m a v k K=>
  intro Q U w es₀ h ok;obtain⟨rfl,hv,M',hu,h⟩:=h;obtain⟨⟨u,W⟩,X,S,I,G⟩:=Cz ok hu;obtain⟨x,w',es,U',f,z,F,B,H⟩:=K (es₀:=es₀.push ⟨.cell a,true,false⟩) h I;refine⟨x,w',#[⟨.cell a,true,false⟩]++es,U',?_,?_,G.trans F,B,H⟩
  .have:Sem.runT P (.store .plain a v k) w es₀=k.runT P (w.setCell a v) (es₀.push ⟨.cell a,true,false⟩):=by
    cases v <;> first|(simp[Value.single]at hv;done)|(simp only[Sem.runT,W,X];rfl)
   rw[this,f];simp
  .intro e E;rcases Array.mem_append.1 E with E|E
   .simp at E;subst E;exact⟨⟨rfl,.inl S⟩,Nat.lt_of_lt_of_le (OQ W) (G.trans F).size⟩
   .exact⟨WA.of G (z e E).1,(z e E).2⟩
 |new o k K=>
  intro Q U w es₀ h ok;obtain⟨X,I,G⟩:=CX ok o;obtain⟨x,w',es,U',f,z,F,B,H⟩:=K w.heap.size (es₀:=es₀) (h _ X) I;exact⟨x,w',es,U',f,λ e E=>⟨WA.of G (z e E).1,(z e E).2⟩,G.trans F,B,H⟩
 |shape r k K=>
  intro Q U w es₀ h ok;obtain⟨o,M,h⟩:=h;have L:=Qa.has_heap ok M
  have Z:w.shape? r=Obj.shapeOf o:=by
   simp only[World.shape?,L];cases o <;> rfl
  obtain⟨x,w',es,U',f,z,F,B,H⟩:=K _ (es₀:=es₀) h ok;exact⟨x,w',es,U',by simp only[Sem.runT];rw[Z];exact f,z,F,B,H⟩
 |freeze a n k K=>
  intro Q U w es₀ h ok;obtain⟨hn,c,t,M',hM,h⟩:=h;obtain⟨I,G⟩:=FV ok hn hM;obtain⟨x,w',es,U',f,z,F,B,H⟩:=K (es₀:=es₀) h I;exact⟨x,w',es,U',by simpa only[Sem.runT]using f,λ e E=>⟨WA.of G (z e E).1,(z e E).2⟩,G.trans F,B,H⟩
 |frozen a k K=>
  intro Q U w es₀ h ok;obtain⟨c,t,L,h⟩:=h;have L:=Qa.has_heap ok L;obtain⟨x,w',es,U',f,z,F,B,H⟩:=K false (es₀:=es₀) h ok;have Y:w.frozen? a=false:=by simp[World.frozen?,L]
  exact⟨x,w',es,U',by simp only[Sem.runT,Y];exact f,z,F,B,H⟩
 |getObj r k K=>
  intro Q U w es₀ h ok;obtain⟨o,M,W,N,h⟩:=h;have L:=Qa.has_heap ok M;obtain⟨x,w',es,U',f,z,F,B,H⟩:=K o (es₀:=es₀.push ⟨.obj r,false,false⟩) h ok;refine⟨x,w',#[⟨.obj r,false,false⟩]++es,U',?_,?_,F,B,H⟩
  .have:Sem.runT P (.getObj r k) w es₀=(k o).runT P w (es₀.push ⟨.obj r,false,o.isChan⟩):=by
    simp only[Sem.runT,L];cases o <;> simp_all[Obj.isCells]
   rw[this,N,f];simp
  .intro e E;rcases Array.mem_append.1 E with E|E
   .simp at E;subst E;refine⟨⟨rfl,.inl ?_⟩,Nat.lt_of_lt_of_le (Array.getElem?_eq_some_iff.1 L).1 F.size⟩;rcases M with M|M
    .exact .inr ⟨o,M⟩
    .exact .inl ⟨o,M⟩
   .exact z e E
 |setObj r o k K=>
  intro Q U w es₀ h ok;obtain⟨o0,M',hu,h1,h2,N,h⟩:=h;obtain⟨L,S,I,G⟩:=Fk ok hu h1 h2;obtain⟨x,w',es,U',f,z,F,B,H⟩:=K (es₀:=es₀.push ⟨.obj r,true,false⟩) h I;refine⟨x,w',#[⟨.obj r,true,false⟩]++es,U',?_,?_,G.trans F,B,H⟩
  .have:Sem.runT P (.setObj r o k) w es₀=k.runT P { w with heap:=w.heap.setIfInBounds r o } (es₀.push ⟨.obj r,true,o.isChan⟩):=by
    simp only[Sem.runT,L];cases o0 <;> simp_all[Obj.isCells]
   rw[this,N,f];simp
  .intro e E;rcases Array.mem_append.1 E with E|E
   .simp at E;subst E;exact⟨⟨rfl,.inl S⟩,Nat.lt_of_lt_of_le (Array.getElem?_eq_some_iff.1 L).1 (G.trans F).size⟩
   .exact⟨WA.of G (z e E).1,(z e E).2⟩
 |choose q k K=>
  intro Q U w es₀ h ok;simp only[Qw]at h;by_cases H:q.forced=true
  .rw[if_pos H]at h;obtain⟨x,w',es,U',f,z,F,B,V⟩:=K 0 (es₀:=es₀) h ok;exact⟨x,w',es,U',by simp only[Sem.runT,H,if_true];exact f,z,F,B,V⟩
  .rw[if_neg H]at h;obtain⟨x,w',es,U',f,z,F,B,V⟩:=K _ (es₀:=es₀) (h (w.tape w.drawn q)) (Ej ok (w.drawn+1));exact⟨x,w',es,U',by simp only[Sem.runT,H];exact f,λ e E=>⟨WA.of (KT U w _) (z e E).1,(z e E).2⟩,(KT U w _).trans F,B,V⟩
 |sys c k K=>exact λ{Q U w es₀}h ok=>h.elim
 |program k K=>
  intro Q U w es₀ h ok;obtain⟨x,w',es,U',f,z,F,B,H⟩:=K P (es₀:=es₀) h ok;exact⟨x,w',es,U',by simpa only[Sem.runT]using f,z,F,B,H⟩
 |mark m k K=>
  intro Q U w es₀ h ok;obtain⟨hm,h⟩:=h;obtain⟨x,w',es,U',f,z,F,B,H⟩:=K (es₀:=es₀.push ⟨.mark m,false,true⟩) h ok;refine⟨x,w',#[⟨.mark m,false,true⟩]++es,U',?_,?_,F,B,H⟩
  .simp only[Sem.runT];rw[f];simp
  .intro e E;rcases Array.mem_append.1 E with E|E
   .simp at E;subst E;exact⟨hm,trivial⟩
   .exact z e E
 |halt h=>exact λ{Q U w es₀}h ok=>h.elim
def Qw.mono(s:Sem α):∀{Q w:α->Qa T->Prop}{U:Qa T},Qw P s Q U->(∀a U,Q a U->w a U)->Qw P s w U:=by
 induction s with
 |pure a=>exact λ h q=>q _ _ h
 |load m a k f=>exact λ⟨e,v,H,h⟩q=>⟨e,v,H,f v h q⟩
 |store m a v k f=>exact λ⟨e,e',M',I,h⟩q=>⟨e,e',M',I,f h q⟩
 |new o k f=>exact λ h q b z=>f b (h b z) q
 |shape r k f=>exact λ⟨o,G,h⟩q=>⟨o,G,f _ h q⟩
 |freeze a n k f=>exact λ⟨x,c,t,M',E,h⟩q=>⟨x,c,t,M',E,f h q⟩
 |frozen a k f=>exact λ⟨c,t,z,h⟩q=>⟨c,t,z,f _ h q⟩
 |getObj r k f=>exact λ⟨o,a,b,c,h⟩q=>⟨o,a,b,c,f _ h q⟩
 |setObj r o k f=>exact λ⟨K,M',a,b,c,d,h⟩q=>⟨K,M',a,b,c,d,f h q⟩
 |choose q k f=>
  intro Q w U h B;simp only[Qw]at h ⊢;grind
 |sys c k f=>exact λ h _=>h
 |program k f=>exact λ h q=>f _ h q
 |mark m k f=>exact λ⟨a,h⟩q=>⟨a,f h q⟩
 |halt h=>exact λ h _=>h
def Y8(s:Sem α)(f:α->Sem β):∀{Q:β->Qa T->Prop}{U:Qa T},Qw P (s.bind f) Q U↔Qw P s (λ a U=>Qw P (f a) Q U) U:=by
 induction s with
 |pure a=>exact λ{_ _}=>Iff.rfl
 |load m a k e=>grind[Sem.bind,Qw]
 |store m a v k e=>grind[Sem.bind,Qw]
 |new o k e=>grind[Sem.bind,Qw]
 |shape r k e=>grind[Sem.bind,Qw]
 |freeze a n k e=>grind[Sem.bind,Qw]
 |frozen a k e=>grind[Sem.bind,Qw]
 |getObj r k e=>grind[Sem.bind,Qw]
 |setObj r o k e=>grind[Sem.bind,Qw]
 |choose q k e=>grind[Sem.bind,Qw]
 |sys c k e=>grind[Sem.bind,Qw]
 |program k e=>grind[Sem.bind,Qw]
 |mark m k e=>grind[Sem.bind,Qw]
 |halt h=>grind[Sem.bind,Qw]
structure Sys(P:Program)(T:Type) where
 syn:(Bool->Gr->Qa T->Prop)->Bool->Gr->Qa T->Prop
 mono:∀{X Y:Bool->Gr->Qa T->Prop},(∀m g U,X m g U->Y m g U)->∀m g U,syn X m g U->syn Y m g U
variable{S:Sys P T}
def Q1(U U':Qa T):Prop:=U'.tok=U.tok/\∀w,U.ok w->U'.ok w/\(∀l,U'.canW l->U.canW l)/\(∀l,U'.canR l->U.canR l)
def Q1.refl(U:Qa T):Q1 U U:=⟨rfl,λ _ h=>⟨h,λ _ h=>h,λ _ h=>h⟩⟩
def Q1.trans{U e f:Qa T}(h:Q1 U e)(k:Q1 e f):Q1 U f:=
 ⟨k.1.trans h.1,λ w ok=>let ⟨a,b,c⟩:=h.2 w ok;let ⟨a',b',c'⟩:=k.2 w a;⟨a',λ l x=>b l (b' l x),λ l x=>c l (c' l x)⟩⟩
abbrev QK(T:Type):=Bool->Gr->Qa T->Prop
variable{X Y Stop:QK T}
def G3(P:Program)(X:QK T)(m:Bool)(g:Gr)(U:Qa T):Prop:=
 g.status=.running/\∀w,U.ok w->∃g' w' es U',stepG P m g w=.go g' w' es/\(∀e∈es,WA U w e/\H5 w' e)/\Z_ U w w' U'/\U'.ok w'/\U'.tok=U.tok/\X m g' U'
def FJ(S:Sys P T)(Stop:QK T)(X:QK T)(m:Bool)(g:Gr)(U:Qa T):Prop:=
 ∃e,Q1 U e/\(Stop m g e\/G3 P X m g e\/S.syn X m g e)
def J(S:Sys P T)(Stop:QK T)(m:Bool)(g:Gr)(U:Qa T):Prop:=
 ∀X:QK T,(∀m g U,FJ S Stop X m g U->X m g U)->X m g U
def G3.mono(h:∀m g U,X m g U->Y m g U)(k:G3 P X m g U):G3 P Y m g U:=
 ⟨k.1,λ w ok=>let ⟨g',w',es,U',a,b,c,d,e,f⟩:=k.2 w ok;⟨g',w',es,U',a,b,c,d,e,h _ _ _ f⟩⟩
def FJ.mono{S:Sys P T}{Stop X Y:QK T}(h:∀m g U,X m g U->Y m g U){m:Bool}{g:Gr}{U:Qa T}(k:FJ S Stop X m g U):FJ S Stop Y m g U:=by
 obtain⟨e,f,k|k|k⟩:=k
 .exact⟨e,f,.inl k⟩
 .exact⟨e,f,.inr (.inl (k.mono h))⟩
 .exact⟨e,f,.inr (.inr (S.mono h _ _ _ k))⟩
def J.fold(h:FJ S Stop (J S Stop) m g U):J S Stop m g U:=
 λ X e=>e _ _ _ (h.mono λ _ _ _ k=>k X e)
def J.ind(e:∀m g U,FJ S Stop (λ m g U=>X m g U/\J S Stop m g U) m g U->X m g U)(h:J S Stop m g U):X m g U:=
 (h (λ m g U=>X m g U/\J S Stop m g U) λ m g U k=>⟨e m g U k,J.fold (k.mono λ _ _ _ x=>x.2)⟩).1
def J.unfold(h:J S Stop m g U):FJ S Stop (J S Stop) m g U:=
 J.ind (X:=FJ S Stop (J S Stop)) (λ _ _ _ k=>k.mono λ _ _ _ x=>x.2) h
def J.stop(h:Stop m g U):J S Stop m g U:=.fold ⟨U,.refl _,.inl h⟩
def J.priv(h:G3 P (J S Stop) m g U):J S Stop m g U:=.fold ⟨U,.refl _,.inr (.inl h)⟩
def J.syn{g:Gr}{U:Qa T}(h:S.syn (J S Stop) m g U):J S Stop m g U:=.fold ⟨U,.refl _,.inr (.inr h)⟩
def J.still(e:g.status=.running)(h:∀w,stepG P m g w=.go g' w)(k:J S Stop m g' U):J S Stop m g U:=
 .priv ⟨e,λ w ok=>⟨g',w,#[],U,h w,S1,.refl _ _,ok,rfl,k⟩⟩
def Jk(P:Program)(fn:FuncId)(es:Array Event):∀e∈seen P fn es,e∈es:=by
 dsimp only[seen]
 rw[<- Array.foldl_toList]
 have key:∀(l:List Event)(x:Bool×Array Event),(∀e∈x.2,e∈es)->(∀e∈l,e∈es) ->
   ∀e∈(l.foldl (λ(x:Bool×Array Event)e=>match e.loc with|.mark (.extern f)=>((P.funcs[f]?).any (·.norace),x.2)|_=>(x.1,if x.1&&!e.sync then x.2 else x.2.push e)) x).2,e∈es:=by
  intro l
  induction l with
  |nil=>exact λ x z _=>z
  |cons a l E=>
   grind
 exact key es.toList _ S1 S1
def J.sem(s:Sem α)(N:g.status=.running)(h:Qw P s ψ U)
  (z:∀w x w' es,s.runT P w #[]=(.ok x w',es)->(∃U',ψ x U')->∃g' f,stepG P m g w=.go g' w' f/\(∀e∈f,e∈es)/\(∀U',ψ x U'->J S Stop m g' U')):J S Stop m g U:=by
 refine .priv ⟨N,λ w ok=>?_⟩;obtain⟨x,w',es,U',M,E,K,F,H,V⟩:=Qw.sound s (es₀:=#[]) h ok;obtain⟨g',f,G,B,L⟩:=z w x w' es (by simpa using M) ⟨U',H⟩;grind
def fr(b:Frame)(a:Act)(todo:List Item):Frame:={ b with tmps:=a.tmps,todo:=todo,defers:=a.defers,mode:=.run }
def R(b:Frame)(a:Act)(todo:List Item)(cs:List Frame):Gr:={ frame:=fr b a todo,callers:=cs,status:=.running,dying:=none }
def Rf(f:Frame)(cs:List Frame):Gr:={ frame:=f,callers:=cs,status:=.running,dying:=none }
def PA(b:Frame)(a:Act)(todo:List Item):(fr b a todo).eval=a.eval:=by funext x;cases x <;> rfl
def Nn:stepG P m (R b a (.code .skip::k) cs) w=.go (R b a k cs) w:=by simp[R,stepG,stepG.exec,fr]
def Ma:stepG P m (R b a (.code (.label l)::k) cs) w=.go (R b a k cs) w:=by simp[R,stepG,stepG.exec,fr]
def CG:stepG P m (R b a (.inBlock l::k) cs) w=.go (R b a k cs) w:=by simp[R,stepG,stepG.exec,fr]
def CH:stepG P m (R b a (.inScope c::k) cs) w=.go (R b a k cs) w:=by simp[R,stepG,stepG.exec,fr]
def qh:stepG P m (R b a (.code (.seq c assign)::k) cs) w=.go (R b a (.code c::.code assign::k) cs) w:=by simp[R,stepG,stepG.exec,fr]
def Ni{c:Operand}(h:a.eval c=.bool p) :
  stepG P m (R b a (.code (.cond c assign as)::k) cs) w=.go (R b a (.code (if p then assign else as)::k) cs) w:=by
 have e:(fr b a (.code (.cond c assign as)::k)).eval c=.bool p:=by rw[PA];exact h
 simp only[fr]at e;simp[R,stepG,stepG.exec,fr,e]
def M9:stepG P m (R b a (.code (.block l c)::k) cs) w=.go (R b a (.code c::.inBlock l::k) cs) w:=by simp[R,stepG,stepG.exec,fr]
def Nl:stepG P m (R b a (.code (.loop c)::k) cs) w=.go (R b a (.code c::.inLoop c::k) cs) w:=by simp[R,stepG,stepG.exec,fr]
def Ft:stepG P m (R b a (.inLoop c::k) cs) w=.go (R b a (.code c::.inLoop c::k) cs) w:=by simp[R,stepG,stepG.exec,fr]
def Mb:stepG P m (R b a (.code (.scope c)::k) cs) w=.go (R b a (.code c::.inScope c::k) cs) w:=by simp[R,stepG,stepG.exec,fr]
def Nk(h:exitTo l k=some u):stepG P m (R b a (.code (.exit l)::k) cs) w=.go (R b a u cs) w:=by simp[R,stepG,stepG.exec,fr,h]
def I8:stepG P m (R b a (.code (.region l ops false)::k) cs) w=.go (R b a (.inRegion ops (range ops.size)::k) cs) w:=by simp[R,stepG,stepG.exec,fr]
def Rq:stepG P m (R b a (.inRegion ops []::k) cs) w=.go (R b a k cs) w:=by simp[R,stepG,stepG.exec,fr]
def Br(f:ops[l]?=some o)(z:Region.wanted o (yielded ops a.tmps)=false) :
  stepG P m (R b a (.inRegion ops (l::rest)::k) cs) w=.go (R b (a.put o.dst undef) (.inRegion ops rest::k) cs) w:=by
 cases e:o.dst <;> simp[R,stepG,stepG.exec,fr,f,z,Frame.finish,Act.put,e]
def Nm(B:ops[n]?=some o)(E:Region.wanted o (yielded ops a.tmps)=true)
  (e:b.roundOf=none\/∀c,o.op≠.defer c) :
  stepG P m (R b a (.inRegion ops (n::rest)::k) cs) w=stepG.apply P true (fr b a (.inRegion ops (n::rest)::k)) cs none (execOp a.eval o) w:=by
 have f:=PA b a (.inRegion ops (n::rest)::k);simp only[fr]at f;rcases e with e|e
 .rw[e]at f;simp[R,stepG,stepG.exec,stepG.oper,Frame.oper?,fr,B,E,e];rw[f]
 .simp only[R,stepG,stepG.exec,stepG.oper,Frame.oper?,fr,B,Option.map_some,E,Option.getD_some,if_true,f];simp_all
def HJ(e:ops[l]?=some o)(v:Value) :
  (fr b a (.inRegion ops (l::rest)::k)).finish v=fr b (a.put o.dst v) (.inRegion ops rest::k):=by
 grind[Frame.finish,fr,Act.put]
inductive Ex where
 |normal
 |exit (id:Nat)
 |ret
variable{Q:Ex->Act->Qa T->Prop}
def XG(S:Sys P T)(Stop:QK T)(m:Bool)(b:Frame)(cs:List Frame)(e:Option Code)(a:Act)(U:Qa T):Prop:=
 match b.roundOf with
 |none=>(e=none\/e=some .ret)/\∀todo,J S Stop m (Rf { fr b a todo with mode:=.returning } cs) U
 |some l=>∃c rest,cs=c::rest/\Qw P (Instr.endRound l e) (λ v U'=>J S Stop m (Rf (c.finish v) rest) U') U
def XF(S:Sys P T)(Stop:QK T)(m:Bool)(b:Frame)(k:List Item)(cs:List Frame):Ex->Act->Qa T->Prop
 |.normal,a,U=>J S Stop m (R b a k cs) U
 |.exit id,a,U=>(∃k',exitTo id k=some k'/\J S Stop m (R b a k' cs) U)\/(exitTo id k=none/\XG S Stop m b cs (some (.exit id)) a U)
 |.ret,a,U=>XG S Stop m b cs (some .ret) a U
def Fr(fn:FuncId)(ro:Option Nat)(b:Frame):Prop:=b.fn=fn/\b.roundOf=ro/\b.kind≠.early/\(ro.isSome->b.kind=.normal)
def Zt(S:Sys P T)(fn:FuncId)(ro:Option Nat)(c:Code)(Q:Ex->Act->Qa T->Prop)(a:Act)(U:Qa T):Prop:=
 ∀(Stop:QK T)(m:Bool)(b:Frame)(k:List Item)(cs:List Frame),Fr fn ro b->(∀e a' U',Q e a' U'->XF S Stop m b k cs e a' U')->J S Stop m (R b a (.code c::k) cs) U
def J7(S:Sys P T)(fn:FuncId)(ro:Option Nat)(ops:Array Oper)(todo:List Nat)(Q:Ex->Act->Qa T->Prop)(a:Act)(U:Qa T):Prop:=
 ∀(Stop:QK T)(m:Bool)(b:Frame)(k:List Item)(cs:List Frame),Fr fn ro b->(∀e a' U',Q e a' U'->XF S Stop m b k cs e a' U')->J S Stop m (R b a (.inRegion ops todo::k) cs) U
def Qb(S:Sys P T)(f:FuncId)(args:Array Value)(Q:Value->Qa T->Prop)(U:Qa T):Prop:=
 ∀(Stop:QK T)(m:Bool)(c:Frame)(cs:List Frame),(∀v U',Q v U'->J S Stop m (Rf (c.finish v) cs) U')->J S Stop m (Rf (Frame.enter P f args .normal) (c::cs)) U
def WF(S:Sys P T)(l:Nat)(f:FuncId)(tmps:Array Value)(assign body:Code)(Q:Value->Qa T->Prop)(U:Qa T):Prop:=
 ∀(Stop:QK T)(m:Bool)(c:Frame)(cs:List Frame),(∀v U',Q v U'->J S Stop m (Rf (c.finish v) cs) U')->J S Stop m (Rf (Frame.round l f tmps assign body .normal) (c::cs)) U
def XF.push{x:Item}{e:Ex}(w:∀id k,exitTo id (x::k)=exitTo id k)(f:e≠.normal)
  (h:XF S Stop m b k cs e a U):XF S Stop m b (x::k) cs e a U:=by
 cases e with
 |normal=>simp_all
 |exit id=>grind[XF]
 |ret=>exact h
def Zt.mono{f:Ex->Act->Qa T->Prop}(h:Zt S fn ro c Q a U)(B:∀e a U,Q e a U->f e a U):Zt S fn ro c f a U:=
 λ Stop m b k cs w z=>h Stop m b k cs w λ e a' U' q=>z e a' U' (B e a' U' q)
def Qb.mono(h:Qb S fn args K U)(e:∀v U,K v U->R' v U):Qb S fn args R' U:=
 λ Stop m c cs k=>h Stop m c cs λ v U' r=>k v U' (e v U' r)
def WF.mono(h:WF S l fn tmps as assign K U)(w:∀v U,K v U->R' v U):WF S l fn tmps as assign R' U:=
 λ Stop m c cs k=>h Stop m c cs λ v U' r=>k v U' (w v U' r)
def J.shift(w:Q1 U U')(h:J S Stop m g U'):J S Stop m g U:=by
 obtain⟨e,f,h⟩:=h.unfold;exact .fold ⟨e,w.trans f,h⟩
def LH(w:Q1 U U')(h:Zt S fn ro c Q a U'):Zt S fn ro c Q a U:=λ Stop m b k cs e f=>.shift w (h Stop m b k cs e f)
def Gs(w:Q1 U U')(h:J7 S fn ro ops todo Q a U'):J7 S fn ro ops todo Q a U:=λ Stop m b k cs e f=>.shift w (h Stop m b k cs e f)
def Qb.shift{f:FuncId}{args:Array Value}{R:Value->Qa T->Prop}{U':Qa T}(e:Q1 U U')(h:Qb S f args R U'):Qb S f args R U:=λ Stop m c cs k=>.shift e (h Stop m c cs k)
def WF.shift{l:Nat}{f:FuncId}{tmps:Array Value}{as e:Code}{R:Value->Qa T->Prop}{U':Qa T}(w:Q1 U U')(h:WF S l f tmps as e R U'):WF S l f tmps as e R U:=λ Stop m c cs k=>.shift w (h Stop m c cs k)
def Qb.post{R:Value->Qa T->Prop}(h:Qb S fn args R U)(e:∀v U,R v U->∃U',Q1 U U'/\R' v U'):Qb S fn args R' U:=
 λ Stop m c cs k=>h Stop m c cs λ v U' r=>let ⟨_,hs,r'⟩:=e v U' r;.shift hs (k v _ r')
def ML(h:Q .normal a U):Zt S fn ro .skip Q a U:=λ _ _ _ _ _ _ e=>.still rfl (λ _=>Nn) (e _ _ _ h)
def LD(h:Q .normal a U):Zt S fn ro (.label l) Q a U:=λ _ _ _ _ _ _ e=>.still rfl (λ _=>Ma) (e _ _ _ h)
def CP(h:Zt S fn ro c (λ e a' U'=>match e with|.normal=>Zt S fn ro assign Q a' U'|e=>Q e a' U') a U):Zt S fn ro (.seq c assign) Q a U:=by
 intro Stop m b k cs w f;refine .still rfl (λ _=>qh) (h Stop m b (.code assign::k) cs w λ e a' U' q=>?_);cases e with
 |normal=>exact q Stop m b k cs w f
 |exit id=>exact(f _ _ _ q).push (λ _ _=>rfl) S1
 |ret=>exact(f _ _ _ q).push (x:=.code assign) (λ _ _=>rfl) S1
def MJ{c:Operand}(t:Bool)(f:a.eval c=.bool t)(h:Zt S fn ro (if t then assign else as) Q a U):Zt S fn ro (.cond c assign as) Q a U:=
 λ Stop m b k cs e w=>.still rfl (λ _=>Ni f) (h Stop m b k cs e w)
def L9(h:Zt S fn ro c (λ e a' U'=>match e with|.normal=>Q .normal a' U'|.exit f=>if f=l then Q .normal a' U' else Q (.exit f) a' U'|.ret=>Q .ret a' U') a U) :
  Zt S fn ro (.block l c) Q a U:=by
 intro Stop m b k cs E z;refine .still rfl (λ _=>M9) (h Stop m b (.inBlock l::k) cs E λ e a' U' q=>?_);cases e with
 |normal=>exact .still rfl (λ _=>CG) (z _ _ _ q)
 |exit f=>
  by_cases w:f=l
  .simp only[w,if_true]at q;exact .inl ⟨k,by simp[exitTo,w],z _ _ _ q⟩
  .simp only[w,if_false]at q;have B:(l==f)=false:=by simp;exact λ h=>w h.symm
   simpa only[XF,exitTo,B,Bool.false_eq_true,if_false]using z _ _ _ q
 |ret=>exact z _ _ _ q
def LG(h:Zt S fn ro c Q a U):Zt S fn ro (.scope c) Q a U:=by
 intro Stop m b k cs w f;refine .still rfl (λ _=>Mb) (h Stop m b (.inScope c::k) cs w λ e a' U' q=>?_);cases e with
 |normal=>exact .still rfl (λ _=>CH) (f _ _ _ q)
 |exit id=>exact(f _ _ _ q).push (λ _ _=>rfl) S1
 |ret=>exact(f _ _ _ q).push (x:=.inScope c) (λ _ _=>rfl) S1
def OU(h:Q (.exit n) a U):Zt S fn ro (.exit n) Q a U:=by
 intro Stop m b k cs E F;rcases F _ _ _ h with⟨k',z,H⟩|⟨z,f⟩
 .exact .still rfl (λ _=>Nk z) H
 .cases hro:b.roundOf with
  |none=>grind[XG]
  |some l=>
   simp only[XG,hro]at f;obtain⟨c,rest,rfl,K⟩:=f;have B:b.kind=.normal:=E.2.2.2 (by rw[<- E.2.1,hro];rfl);refine .sem _ rfl K λ w x w' es e _=>⟨Rf (c.finish x) rest,seen P b.fn es,?_,Jk P _ es,λ _ h=>h⟩;obtain⟨I,G⟩:Sem.run P (Instr.endRound l (some (.exit n))) w=.ok x w'/\Sem.events P (Instr.endRound l (some (.exit n))) w #[]=es:=by simpa using e
   simp[R,stepG,stepG.exec,fr,hro,z,I,G,doReturn,B,GStep.after,Rf]
def Tn(h:Q .ret a U):Zt S fn ro .ret Q a U:=by
 intro Stop m b k cs E F;have z:=F _ _ _ h;cases e:b.roundOf with
 |none=>
  simp only[XF,XG,e]at z;refine .still rfl (λ w=>?_) (z.2 (.code .ret::k));simp[R,Rf,stepG,stepG.exec,fr,e]
 |some l=>
  simp only[XF,XG,e]at z;obtain⟨c,rest,rfl,I⟩:=z;have B:b.kind=.normal:=E.2.2.2 (by rw[<- E.2.1,e];rfl);refine .sem _ rfl I λ w x w' es f _=>⟨Rf (c.finish x) rest,seen P b.fn es,?_,Jk P _ es,λ _ h=>h⟩;obtain⟨H,G⟩:Sem.run P (Instr.endRound l (some .ret)) w=.ok x w'/\Sem.events P (Instr.endRound l (some .ret)) w #[]=es:=by simpa using f
  simp[R,stepG,stepG.exec,fr,e,H,G,doReturn,B,GStep.after,Rf]
def Yf(h:J7 S fn ro ops (range ops.size) Q a U):Zt S fn ro (.region l ops false) Q a U:=
 λ Stop m b k cs e f=>.still rfl (λ _=>I8) (h Stop m b k cs e f)
def Og(h:Q .normal a U):J7 S fn ro ops [] Q a U:=λ _ _ _ _ _ _ e=>.still rfl (λ _=>Rq) (e _ _ _ h)
def PL(S:Sys P T)(ro:Option Nat)(o:Oper)(a:Act)(K:Act->Qa T->Prop):Next->Qa T->Prop
 |.value v,U=>K (a.put o.dst v) U
 |.skip,U=>K (a.put o.dst undef) U
 |.defer d,U=>ro=none/\K ({ a with defers:=d::a.defers }.put o.dst undef) U
 |.enter f args,U=>Qb S f args (λ v U'=>K (a.put o.dst v) U') U
 |.round l f tmps assign body,U=>WF S l f tmps assign body (λ v U'=>K (a.put o.dst v) U') U
 |_,_=>False
def HC(S:Sys P T)(ro:Option Nat)(o:Oper)(a:Act)(K:Act->Qa T->Prop)(U:Qa T):Prop:=Qw P (execOp a.eval o) (PL S ro o a K) U
def Xl(E:ops[n]?=some o)(L:Region.wanted o (yielded ops a.tmps)=true)(I:ro=none\/∀c,o.op≠.defer c)
  (h:HC S ro o a (J7 S fn ro ops rest Q) U):J7 S fn ro ops (n::rest) Q a U:=by
 intro Stop m b k cs B F;have z:(b.kind==CallKind.early)=false:=by simpa using B.2.2.1
 have G:b.roundOf=none\/∀c,o.op≠.defer c:=by rw[B.2.1];exact I
 refine .sem _ rfl h λ w x w' es e H=>?_;rw[Nm E L G];have M:(execOp a.eval o).run P w=.ok x w':=by have:=Sem.runT_fst P (execOp a.eval o) w #[];rw[e]at this;exact this.symm
 cases x with
 |value v=>
  refine⟨R b (a.put o.dst v) (.inRegion ops rest::k) cs,seen P b.fn es,?_,Jk P _ es,λ U' q=>q Stop m b k cs B F⟩;have:=HJ (b:=b) (a:=a) (k:=k) (rest:=rest) E v;simp only[stepG.apply,if_true,e];simp[fr,z,GStep.after,R]at this ⊢;exact this
 |skip=>
  refine⟨R b (a.put o.dst undef) (.inRegion ops rest::k) cs,seen P b.fn es,?_,Jk P _ es,λ U' q=>q Stop m b k cs B F⟩;have:=HJ (b:=b) (a:=a) (k:=k) (rest:=rest) E undef;simp only[stepG.apply,if_true,e];simp[fr,z,GStep.after,R]at this ⊢;exact this
 |defer d=>
  refine⟨R b ({ a with defers:=d::a.defers }.put o.dst undef) (.inRegion ops rest::k) cs,seen P b.fn es,?_,Jk P _ es,λ U' q=>q.2 Stop m b k cs B F⟩;have:=HJ (b:=b) (a:={ a with defers:=d::a.defers }) (k:=k) (rest:=rest) E undef;simp only[stepG.apply,if_true,e];simp[fr,z,GStep.after,R]at this ⊢;exact this
 |enter f args=>
  refine⟨Rf (Frame.enter P f args .normal) (fr b a (.inRegion ops (n::rest)::k)::cs),seen P b.fn es,?_,Jk P _ es,λ U' q=>?_⟩
  .simp_all[stepG.apply,if_true,fr,GStep.after,Rf]
  .refine q Stop m _ cs λ v U'' q'=>?_;have:=q' Stop m b k cs B F;rw[HJ E];exact this
 |round l f tmps assign body=>
  refine⟨Rf (Frame.round l f tmps assign body .normal) (fr b a (.inRegion ops (n::rest)::k)::cs),seen P b.fn es,?_,Jk P _ es,λ U' q=>?_⟩
  .simp_all[stepG.apply,if_true,fr,GStep.after,Rf]
  .refine q Stop m _ cs λ v U'' q'=>?_;have:=q' Stop m b k cs B F;rw[HJ E];exact this
 |_=>obtain⟨_,K⟩:=H;exact K.elim
def We(w:ops[l]?=some o)(z:Region.wanted o (yielded ops a.tmps)=false)
  (h:J7 S fn ro ops rest Q (a.put o.dst undef) U):J7 S fn ro ops (l::rest) Q a U:=
 λ Stop m b k cs e f=>.still rfl (λ _=>Br w z) (h Stop m b k cs e f)
def J7.mono{f:Ex->Act->Qa T->Prop}(h:J7 S fn ro ops todo Q a U)(B:∀e a U,Q e a U->f e a U):J7 S fn ro ops todo f a U:=
 λ Stop m b k cs w z=>h Stop m b k cs w λ e a' U' q=>z e a' U' (B e a' U' q)
def JI(I:Nat->Option Obj)(b:Nat)(o:Obj):Nat->Option Obj:=λ x=>if x=b then some o else I x
def Vt(h:∀r,r∈M'->r∈M):(∃r∈M',r.lets π)->∃r∈M,r.lets π:=λ⟨r,f,e⟩=>⟨r,h r f,e⟩
def Dc(h:∃M₀,Perm U.M (M'++M₀)):Q1 U { U with M:=M' }:=by
 obtain⟨M₀,B⟩:=h;have e:∀r,r∈M'->r∈U.M:=λ r z=>B.mem_iff.2 (mem_append_left _ z);refine⟨rfl,λ w ok=>⟨⟨ok.imm,λ r z=>ok.held r (e r z),?_,λ r z=>ok.sep r (e r z)⟩,λ l f=>?_,λ l f=>?_⟩⟩
 .have:=(B.pairwise_iff (λ{x y}h=>Q2.apart_symm h)).1 ok.apart;grind
 .rw[Za]at f ⊢;exact Vt e f
 .rw[Q3]at f ⊢;grind
def Wf{b:Nat}{o:Obj}(h:Perm U.M (.obj b o::M')):Q1 U { U with I:=JI U.I b o,M:=M' }:=by
 have z:∀r,r∈M'->r∈U.M:=λ r G=>h.mem_iff.2 (mem_cons_of_mem _ G);have L:Q2.obj b o∈U.M:=h.mem_iff.2 (mem_cons_self ..);refine⟨rfl,λ w ok=>?_⟩;have F:=(h.pairwise_iff (λ{x y}h=>Q2.apart_symm h)).1 ok.apart;rw[pairwise_cons]at F;refine⟨⟨?_,λ r G=>ok.held r (z r G),F.2,?_⟩,λ l B=>?_,λ l B=>?_⟩
 .intro x P E;simp only[JI]at E;split at E
  .rename_i e;cases E;subst e;exact ok.held _ L
  .exact ok.imm x P E
 .intro r G
  have N:r.blk≠b:=by
   have:=F.1 r G;cases r <;> simp_all[Q2.apart,Q2.blk] <;> exact λ e=>this e.symm
  simp only[JI,if_neg N];exact ok.sep r (z r G)
 .rw[Za]at B ⊢;exact Vt z B
 .rw[Q3]at B ⊢;rcases B with B|B
  .exact .inl (Vt z B)
  .cases l with
   |cell a=>
    obtain⟨c,t,f,K,H⟩:=B;simp only[JI]at K;split at K
    .rename_i e;cases K;exact .inl ⟨_,L,e,H⟩
    .exact .inr ⟨c,t,f,K,H⟩
   |obj x=>
    obtain⟨P,E⟩:=B;simp only[JI]at E;split at E
    .rename_i e;cases E;exact .inl ⟨_,L,by cases o <;> simp[Q2.lets,e]⟩
    .exact .inr ⟨P,E⟩
   |output=>exact B.elim
   |goroutines=>exact B.elim
   |mark _=>exact B.elim
structure Qa.le(U U':Qa T):Prop where
 imm:∀b o,U.I b=some o->U'.I b=some o
 own:U'.M=U.M
 tok:U'.tok=U.tok
def Qa.le.refl(U:Qa T):U.le U:=⟨λ _ _ h=>h,rfl,rfl⟩
def Qa.le.trans{a b c:Qa T}(h:a.le b)(k:b.le c):a.le c:=⟨λ x o e=>k.imm x o (h.imm x o e),k.own.trans h.own,k.tok.trans h.tok⟩
def Nj:
  stepG P m (R b a (.code (.region l ops true)::k) cs) w =
   .go (R b a (.inRegion ops (Region.schedule (P.follows .mixedOrders) ops (w.tape w.drawn (.order b.fn l)))::k) cs) { w with drawn:=w.drawn+1 }:=by
 simp[R,stepG,stepG.exec,fr,choose,Sem.run,Question.forced,Question.cut]
def OT(h:∀t,J7 S fn ro ops (Region.schedule (P.follows .mixedOrders) ops t) Q a U) :
  Zt S fn ro (.region l ops true) Q a U:=by
 intro Stop m b k cs e f;refine .priv ⟨rfl,λ w ok=>⟨_,_,#[],U,Nj,S1,KT U w _,Ej ok _,rfl,h _ Stop m b k cs e f⟩⟩
def ZM(S:Sys P T)(K:Value->Qa T->Prop):Next->Qa T->Prop
 |.value v,U=>K v U
 |.skip,U=>K undef U
 |.enter f args,U=>Qb S f args K U
 |.round l f tmps assign body,U=>WF S l f tmps assign body K U
 |_,_=>False
def QL(S:Sys P T)(o:Oper)(a:Act)(K:Value->Qa T->Prop)(U:Qa T):Prop:=Qw P (execOp a.eval o) (ZM S K) U
def QL.mono{o:Oper}{a:Act}{K w:Value->Qa T->Prop}{U:Qa T}(h:QL S o a K U)(f:∀v U,K v U->w v U):QL S o a w U:=
 Qw.mono _ h λ n U e=>by
  cases n <;> first|exact f _ _ e|exact Qb.mono e f|exact WF.mono e f|exact e
def QL.opV(h:QL S o a (λ v U=>V (a.put o.dst v) U) U):HC S ro o a V U:=
 Qw.mono _ h λ n U e=>by cases n <;> first|exact e|exact e.elim
def XM(F:Qa T->Prop):Prop:=∀U U',F U->U.le U'->F U'
inductive ZZ(S:Sys P T)(ops:Array Oper)(rl:List Nat)(B:Nat->Nat->Prop)(late:Nat->Bool)(G:Qa T->Prop)(U:Qa T)(Fin:Act->Qa T->Prop):List Nat->(Qa T->Prop)->Act->Prop
 |nil {C a0}:(∀U',U.le U'->C U'->Fin a0 U')->ZZ S ops rl B late G U Fin [] C a0
 |un {i a2 C a0 a1}:i∉rl->ops[i]?=some a1->Region.wanted a1 (yielded ops a0.tmps)=false->ZZ S ops rl B late G U Fin a2 C (a0.put a1.dst undef)->ZZ S ops rl B late G U Fin (i::a2) C a0
 |det {i a2 C a0 a1} (v:Value):i∉rl->ops[i]?=some a1->Region.wanted a1 (yielded ops a0.tmps)=true ->
   (∀U',U.le U'->C U'->QL S a1 a0 (λ v' U2=>v'=v/\∃U1,Q1 U2 U1/\U'.le U1) U') ->
   (late i=true->∀U',G U'->QL S a1 a0 (λ v' U2=>v'=v/\∃U1,Q1 U2 U1/\U'.le U1) U') ->
   ZZ S ops rl B late G U Fin a2 C (a0.put a1.dst v)->ZZ S ops rl B late G U Fin (i::a2) C a0
 |rel {i a2 C a0 a1} (F:Value->Qa T->Prop):i∈rl->(∀v,XM (F v))->ops[i]?=some a1->Region.wanted a1 (yielded ops a0.tmps)=true ->
   (∀U',U.le U'->C U'->QL S a1 a0 (λ v' U2=>∃U1,Q1 U2 U1/\F v' U1/\U'.le U1) U') ->
   (∀v,(∃U',U.le U'/\C U'/\F v U')->ZZ S ops rl B late G U Fin a2 (λ U'=>C U'/\F v U') (a0.put a1.dst v))->ZZ S ops rl B late G U Fin (i::a2) C a0
 |last {i C a0 a1}:i∈rl->XM G->(∀j,late j=false->B j i)->ops[i]?=some a1->Region.wanted a1 (yielded ops a0.tmps)=true ->
   (∀U',U.le U'->C U'->QL S a1 a0 (λ v' U2=>v'=undef/\∃U1,Q1 U2 U1/\G U1) U')->((∃U',U.le U'/\C U')->∀U',G U'->Fin (a0.put a1.dst undef) U')->ZZ S ops rl B late G U Fin [i] C a0
def W1(ops:Array Oper)(i:Nat):List Nat:=((ops[i]?).map λ o=>(o.after.toList.filter (Region.binds .any)).map (·.on)).getD []
inductive JE(ops:Array Oper):Nat->Nat->Prop
 |edge {i a0}:a0∈W1 ops i->JE ops a0 i
 |trans {i a0 a1}:JE ops a1 a0->a0∈W1 ops i->JE ops a1 i
def Xd(ops:Array Oper):Nat->List Nat
 |0=>[]
 |n+1=>let acc:=Xd ops n;acc++[(W1 ops n).foldl (λ s j=>s||| 2^j||| acc.getD j 0) 0]
def Vd(ops:Array Oper):∀n,(Xd ops n).length=n
 |0=>rfl
 |n+1=>by simp[Xd,Vd ops n]
def SM(acc:List Nat)(j:Nat):∀(l:List Nat)(s:Nat),(l.foldl (λ s j=>s||| 2^j||| acc.getD j 0) s).testBit j=true->s.testBit j=true\/∃k∈l,k=j\/(acc.getD k 0).testBit j=true
 |[],s,h=>.inl h
 |k::l,s,h=>by
  simp only[foldl_cons]at h;rcases SM acc j l _ h with h|⟨x,e,h⟩
  .simp only[Nat.testBit_or,Bool.or_eq_true]at h;rcases h with(h|h)|h
   .exact .inl h
   .refine .inr ⟨k,mem_cons_self ..,.inl ?_⟩;rw[Nat.testBit_two_pow]at h;exact of_decide_eq_true h
   .exact .inr ⟨k,mem_cons_self ..,.inr h⟩
  grind
def Wu(ops:Array Oper):∀n i j,((Xd ops n).getD i 0).testBit j=true->JE ops j i:=by
 intro n
 induction n with
 |zero=>grind[Xd]
 |succ n w=>
  intro i j h;simp only[Xd]at h;by_cases z:i<n
  .rw[getD_eq_getElem?_getD,getElem?_append_left (by rw[Vd];exact z),<- getD_eq_getElem?_getD]at h;exact w i j h
  .rw[getD_eq_getElem?_getD,getElem?_append_right (by rw[Vd];omega),Vd,<- getD_eq_getElem?_getD]at h;by_cases e:i=n
   .subst e;simp only[Nat.sub_self,getD_cons_zero]at h;rcases SM _ j _ 0 h with h|⟨k,f,rfl|h⟩
    .simp at h
    .exact .edge f
    .exact .trans (w k j h) f
   grind
def WJ(ops:Array Oper)(i:Nat):Option Tmp:=(ops[i]?).bind (·.dst)
def looks(ops:Array Oper)(i:Nat):List Tmp:=((ops[i]?).map (Oper.looksAt ops)).getD []
def PE(ops:Array Oper)(rl qs ts:List Nat):Bool:=
 let n:=ops.size
 let e:=Xd ops n
 let bf (j i:Nat):Bool:=(e.getD i 0).testBit j
 let all:=qs++ts
 (range n).all (λ i=>all.contains i)&&(decide all.Nodup&&all.all (λ i=>decide (i<n))) &&
 (ops.toList.all λ o=>!(o.op matches .select ..)) &&
 (range n).all (λ i=>(range n).all λ j=>i==j|| (match WJ ops i with|some d=>WJ ops j != some d|none=>true)) &&
 qs.all (λ i=>(range n).all λ j=>i==j|| (match WJ ops j with|some d=>!(looks ops i).contains d|| bf j i|| bf i j|none=>true)) &&
 (range all.length).all (λ p=>(W1 ops (all.getD p 0)).all λ j=>(all.take p).contains j) &&
 (range qs.length).all (λ p=>!rl.contains (qs.getD p 0)|| ((all.drop (p+1)).all λ j=>bf (qs.getD p 0) j)) &&
 (range ts.length).all (λ p=>(qs++ts.take p).all λ j=>bf j (ts.getD p 0))
structure Jz(ops:Array Oper)(rl qs ts:List Nat):Prop where
 mem:∀i,i<ops.size↔i∈qs++ts
 nodup:(qs++ts).Nodup
 nosel:∀(i:Nat)o,ops[i]?=some o->∀cs b,o.op≠.select cs b
 once:∀i j d,WJ ops i=some d->WJ ops j=some d->i=j
 look:∀i,i∈qs->∀j d,i≠j->WJ ops j=some d->d∈looks ops i->JE ops j i\/JE ops i j
 order:∀p i,(qs++ts)[p]?=some i->∀j∈W1 ops i,j∈(qs++ts).take p
 behind:∀p i,qs[p]?=some i->i∈rl->∀j∈(qs++ts).drop (p+1),JE ops i j
 tail:∀p i,ts[p]?=some i->∀j∈qs++ts.take p,JE ops j i
def Yy{d:Tmp}(h:WJ ops l=some d):l<ops.size:=by
 grind[WJ]
def SJ(h:PE ops rl qs ts=true):Jz ops rl qs ts:=by
 simp only[PE,Bool.and_eq_true]at h;obtain⟨⟨⟨⟨⟨⟨⟨G,F⟩,H⟩,I⟩,K⟩,L⟩,M⟩,N⟩:=h
 have z:∀i,i<ops.size->i∈qs++ts:=λ i w=>by
  simp_all
 obtain⟨E,B⟩:(qs++ts).Nodup/\∀i∈qs++ts,i<ops.size:=by
  grind
 refine⟨λ i=>⟨z i,B i⟩,E,?_,?_,?_,?_,?_,?_⟩
 .grind
 .intro i j d w hj;have:=all_eq_true.1 (all_eq_true.1 I i (mem_range.2 (Yy w))) j (mem_range.2 (Yy hj));simp_all
 .intro i w j d hne hj hd;have:=all_eq_true.1 (all_eq_true.1 K i w) j (mem_range.2 (Yy hj));simp only[hj,Bool.or_eq_true,beq_iff_eq]at this;rcases this with h|(h|h)|h
  .simp_all
  .simp[hd]at h
  .exact .inl (Wu _ _ _ _ h)
  .exact .inr (Wu _ _ _ _ h)
 .intro p i hp j hj;have f:=(List.getElem?_eq_some_iff.1 hp).1;simp_all
 .intro p i hp hr j hj;have f:=(List.getElem?_eq_some_iff.1 hp).1;have:=all_eq_true.1 M p (mem_range.2 f);rw[getD_eq_getElem?_getD,hp,Option.getD_some]at this;simp only[Bool.or_eq_true]at this;rcases this with h|h
  .simp[hr]at h
  .exact Wu _ _ _ _ (all_eq_true.1 h j hj)
 .intro p i hp j hj;have f:=(List.getElem?_eq_some_iff.1 hp).1;have:=all_eq_true.1 N p (mem_range.2 f);have e:ts.getD p 0=i:=by rw[getD_eq_getElem?_getD,hp];rfl
  rw[e]at this;exact Wu _ _ _ _ (all_eq_true.1 this j hj)
def J6:l∈Region.ready .any ops listed↔l<ops.size/\listed.getD l true=false/\∀j∈W1 ops l,listed.getD j false=true:=by
 simp only[Region.ready,mem_filter,mem_range,Bool.and_eq_true,Bool.not_eq_true'];grind[W1,Array.all_eq_true',Region.binds]
structure Jp(ops:Array Oper)(val:Nat->Value)(D:Nat->Prop)(a_0 a:Act):Prop where
 defers:a.defers=a_0.defers
 size:a.tmps.size=a_0.tmps.size
 wr:∀(s:Nat)(j:Nat),WJ ops j=some s->D j->s<a_0.tmps.size->a.tmps[s]?=some (val j)
 not:∀s:Nat,(∀j,WJ ops j=some s->¬D j)->a.tmps[s]?=a_0.tmps[s]?
def Jp.put{ops:Array Oper}{rl qs ts:List Nat}(F:Jz ops rl qs ts){val:Nat->Value}{D:Nat->Prop}{a_0 a:Act}(h:Jp ops val D a_0 a){i:Nat}{o:Oper}(G:ops[i]?=some o) :
  Jp ops val (λ j=>D j\/j=i) a_0 (a.put o.dst (val i)):=by
 have E:WJ ops i=o.dst:=by simp[WJ,G]
 cases B:o.dst with
 |none=>
  rw[B]at E;refine⟨h.defers,h.size,λ s j f w z=>?_,λ s z=>h.not s λ j f w=>z j f (.inl w)⟩;rcases w with w|rfl
  .exact h.wr s j f w z
  simp_all
 |some d=>
  rw[B]at E;refine⟨h.defers,by simp[Act.put,h.size],λ s j f w z=>?_,λ s z=>?_⟩
  .by_cases e:d=s
   .subst e;obtain rfl:=F.once _ _ _ f E;simp only[Act.put];rw[Array.getElem?_setIfInBounds_self_of_lt (by rw[h.size];exact z)]
   .rcases w with w|rfl
    .simp only[Act.put];rw[Array.getElem?_setIfInBounds_ne e];exact h.wr s j f w z
    simp_all
  .have e:d≠s:=λ e=>z i (e▸E) (.inr rfl);simp only[Act.put];rw[Array.getElem?_setIfInBounds_ne e];exact h.not s λ j f w=>z j f (.inl w)
def Jp.val{ops:Array Oper}{val e:Nat->Value}{D:Nat->Prop}{a_0 a:Act}(h:Jp ops val D a_0 a)(B:∀j,D j->e j=val j):Jp ops e D a_0 a:=
 ⟨h.defers,h.size,λ s j w f z=>by rw[B j f];exact h.wr s j w f z,h.not⟩
def Jp.slot(h:Jp ops N D a_0 a)(z:Jp ops N E a_0 av){s:Nat}(F:∀j,WJ ops j=some s->(D j↔E j)):a.tmps[s]?=av.tmps[s]?:=by
 by_cases B:∃j,WJ ops j=some s/\D j
 .obtain⟨j,e,f⟩:=B;by_cases w:s<a_0.tmps.size
  .rw[h.wr s j e f w,z.wr s j e ((F j e).1 f) w]
  .rw[Array.getElem?_eq_none (by rw[h.size];omega),Array.getElem?_eq_none (by rw[z.size];omega)]
 .rw[h.not s λ j e f=>B ⟨j,e,f⟩,z.not s λ j e f=>B ⟨j,e,(F j e).2 f⟩]
def Px{a':Act}(E:ops[l]?=some o)(e:∀cs b,o.op≠.select cs b)(h:∀s∈looks ops l,a.tmps[s]?=a'.tmps[s]?) :
  execOp a.eval o=execOp a'.eval o/\Region.wanted o (yielded ops a.tmps)=Region.wanted o (yielded ops a'.tmps):=by
 have B:looks ops l=Oper.looksAt ops o:=by simp[looks,E]
 rw[B]at h;constructor
 .refine execOp_congr o e λ x F=>?_;cases x with
  |tmp t=>
   have:=h t (by simp only[Oper.looksAt,mem_append,mem_filterMap,Array.mem_toList_iff];exact .inl ⟨.tmp t,F,rfl⟩);simp_all[Act.eval,Array.getD_eq_getD_getElem?]
  |_=>rfl
 .unfold Region.wanted;cases w:o.guard with
  |none=>rfl
  |some p=>
   obtain⟨j,f⟩:=p;simp only[]
   have:yielded ops a.tmps j=yielded ops a'.tmps j:=by
    unfold yielded;cases z:(ops[j]?).bind (·.dst)with
    |none=>rfl
    |some t=>
     grind[Oper.looksAt]
   rw[this]
def Li(listed:Array Bool)(i:Nat):Prop:=listed.getD i false=true
def K7(h:l<listed.size):Li (listed.setIfInBounds l true) j↔Li listed j\/j=l:=by
 simp only[Li,Array.getD_eq_getD_getElem?,Array.getElem?_setIfInBounds];grind
def Sw(z:Jz ops rl qs ts)(h:JE ops j l):∀p,(qs++ts)[p]?=some l->j∈(qs++ts).take p:=by
 induction h with
 |edge f=>exact λ p w=>z.order p _ w _ f
 |trans _ f B=>
  intro p w;have:=z.order p _ w _ f;obtain⟨p',e⟩:=mem_iff_getElem?.1 this;rw[getElem?_take]at e;split at e
  .have h2:=B p' e;have:(qs++ts).take p' ⊆ (qs++ts).take p:=take_subset_take_left _ O1;exact this h2
  .cases e
def S6(down:∀l,Li listed l->∀j∈W1 ops l,Li listed j)(h:JE ops j l):Li listed l->Li listed j:=by
 induction h with
 |edge e=>grind
 |trans _ e w=>grind
def Wb(down:∀l,Li listed l->∀j∈W1 ops l,Li listed j)(h:JE ops j l)(f:∀j∈W1 ops l,Li listed j):Li listed j:=by
 cases h with
 |edge e=>exact f _ e
 |trans h e=>exact S6 down h (f _ e)
def HN(f:Jz ops rl qs ts)(h:(qs++ts)[l]?=some len)(e:(qs++ts)[n]?=some len):l=n:=by
 have w:=(List.getElem?_eq_some_iff.1 h).1;have z:=(List.getElem?_eq_some_iff.1 e).1;exact(getElem?_inj w f.nodup).1 (h.trans e.symm)
structure Inv(S:Sys P T)(ops:Array Oper)(rl qs:List Nat)(late:Nat->Bool)(G:Qa T->Prop)(U₀:Qa T)(a_0:Act)(Fin:Act->Qa T->Prop)(listed:Array Bool)(ac:Act)(U:Qa T)
  (pre L:List Nat) (C:Qa T->Prop) (av:Act) (val:Nat->Value):Prop where
 split:qs=pre++L
 der:ZZ S ops rl (JE ops) late G U₀ Fin L C av
 mono:XM C
 base:U₀.le U
 c:C U
 av:Jp ops val (·∈pre) a_0 av
 ac:Jp ops val (Li listed) a_0 ac
 sub:∀i,Li listed i->i∈pre
 size:listed.size=ops.size
 down:∀i,Li listed i->∀j∈W1 ops i,Li listed j
 rels:∀i∈pre,i∈rl->Li listed i
 pend:∀i∈pre,¬Li listed i->∃o ai p,qs[p]?=some i/\ops[i]?=some o/\Jp ops val (·∈qs.take p) a_0 ai /\
  ((Region.wanted o (yielded ops ai.tmps)=false/\val i=undef) \/
   (Region.wanted o (yielded ops ai.tmps)=true/\(∀U',U.le U'->QL S o ai (λ v' U2=>v'=val i/\∃U1,Q1 U2 U1/\U'.le U1) U')/\(late i=true->∀U',G U'->QL S o ai (λ v' U2=>v'=val i/\∃U1,Q1 U2 U1/\U'.le U1) U')))
def ZY(val:Nat->Value)(i:Nat)(v:Value):Nat->Value:=λ j=>if j=i then v else val j
def Hm(h:j≠l):ZY N l v j=N j:=by simp[ZY,h]
def HI(val:Nat->Value)(i:Nat)(v:Value):ZY val i v i=v:=by simp[ZY]
def PC(e:Jz ops rl qs ts)(h:qs=pre++l::rest):l∉pre:=by
 intro f;have:=(nodup_append.1 e.nodup).1;grind
def Xk(h:qs=pre++l::rest):qs.take pre.length=pre/\qs[pre.length]?=some l:=by
 simp_all
def WZ{p i:Nat}(e:qs[p]?=some i):(qs++ts)[p]?=some i:=by
 grind
section
variable{Fin:Act->Qa T->Prop}{val:Nat->Value}
def Inv.note(I:Jz ops rl qs ts)(h:Inv S ops rl qs late G U₀ a_0 Fin listed ac U pre (l::rest) A av val)(v:Value) :
  Jp ops (ZY val l v) (·∈pre) a_0 av/\Jp ops (ZY val l v) (Li listed) a_0 ac /\
  (∀i∈pre,¬Li listed i->∃o w p,qs[p]?=some i/\ops[i]?=some o/\Jp ops (ZY val l v) (·∈qs.take p) a_0 w /\
   ((Region.wanted o (yielded ops w.tmps)=false/\ZY val l v i=undef) \/
    (Region.wanted o (yielded ops w.tmps)=true/\(∀U',U.le U'->QL S o w (λ P F=>P=ZY val l v i/\∃z,Q1 F z/\U'.le z) U')/\(late i=true->∀U',G U'->QL S o w (λ P F=>P=ZY val l v i/\∃z,Q1 F z/\U'.le z) U')))):=by
 have N:=PC I h.split;refine⟨h.av.val λ j B=>Hm (λ e=>N (e▸B)),h.ac.val λ j B=>Hm (λ e=>N (e▸h.sub j B)),λ i K W=>?_⟩;obtain⟨o,w,p,Q,X,H,V⟩:=h.pend i K W;have L:i≠l:=λ e=>N (e▸K);refine⟨o,w,p,Q,X,H.val λ j B=>Hm λ e=>?_,by rw[Hm L];exact V⟩;subst e;obtain⟨p',f⟩:=mem_iff_getElem?.1 B;rw[getElem?_take]at f;split at f
 .rename_i hlt;have Y:=HN I (WZ (ts:=ts) f) (WZ (Xk h.split).2);obtain⟨T,E⟩:=mem_iff_getElem?.1 K;have M:T<pre.length:=(List.getElem?_eq_some_iff.1 E).1;have Z:=HN I (WZ (ts:=ts) Q) (WZ (ts:=ts) (p:=T) (i:=i) (by rw[h.split,getElem?_append_left M];exact E));omega
 .cases f
end
section
variable{val:Nat->Value}
def Inv.adv(K:Jz ops rl qs ts)(h:Inv S ops rl qs late G U₀ a_0 V listed ac U pre (l::rest) A av val)(L:ops[l]?=some o)(H:l∉rl)
  (N:ZZ S ops rl (JE ops) late G U₀ V rest A (av.put o.dst v))
  (B:(Region.wanted o (yielded ops av.tmps)=false/\v=undef)\/(Region.wanted o (yielded ops av.tmps)=true/\(∀U',U₀.le U'->A U'->QL S o av (λ I F=>I=v/\∃z,Q1 F z/\U'.le z) U')/\(late l=true->∀U',G U'->QL S o av (λ I F=>I=v/\∃z,Q1 F z/\U'.le z) U'))) :
  Inv S ops rl qs late G U₀ a_0 V listed ac U (pre++[l]) rest A (av.put o.dst v) (ZY val l v):=by
 obtain⟨M,n2,T⟩:=h.note K v;have w:=Jp.put K M L;rw[HI]at w;refine⟨by rw[h.split];simp,N,h.mono,h.base,h.c,?_,n2,λ i f=>mem_append_left _ (h.sub i f),h.size,h.down,?_,?_⟩
 .simp_all
 .intro i f hr;rcases mem_append.1 f with f|f
  .exact h.rels i f hr
  simp_all
 .intro i f hl;rcases mem_append.1 f with f|f
  .exact T i f hl
  .simp at f;subst f;refine⟨o,av,pre.length,(Xk h.split).2,L,by rw[(Xk h.split).1];exact M,?_⟩;rw[HI];rcases B with B|⟨Q,B,P⟩
   .exact .inl B
   .exact .inr ⟨Q,λ U' E=>B U' (h.base.trans E) (h.mono _ _ h.c E),P⟩
end
def P5(E:Jz ops rl qs ts)(down:∀n,Li listed n->∀j∈W1 ops n,Li listed j)(G:qs[l]?=some n)(H:¬Li listed n)(L:∀j∈W1 ops n,Li listed j)
   (M:len∈looks ops n) (I:WJ ops j=some len):Li listed j↔j∈qs.take l:=by
 have z:=WZ (ts:=ts) G;have K:=(List.getElem?_eq_some_iff.1 G).1;by_cases e:n=j
 .subst e;refine⟨λ h=>absurd h H,λ h=>?_⟩;obtain⟨p',f⟩:=mem_iff_getElem?.1 h;rw[getElem?_take]at f;split at f
  .have:=HN E (WZ (ts:=ts) f) z;omega
  .cases f
 .rcases E.look n (mem_of_getElem? G) j len e I M with B|B
  .have h1:=Wb down B L;have F:=Sw E B l z;grind
  .refine⟨λ h=>absurd (S6 down B h) H,λ h=>?_⟩;obtain⟨p',f⟩:=mem_iff_getElem?.1 h;rw[getElem?_take]at f;split at f
   .have F:=Sw E B p' (WZ (ts:=ts) f);obtain⟨N,w⟩:=mem_iff_getElem?.1 F;rw[getElem?_take]at w;split at w
    .have:=HN E w z;omega
    .cases w
   .cases f
section
variable{Fin:Act->Qa T->Prop}{val:Nat->Value}
def Inv.reach(H:Jz ops rl qs ts)(f:l∈qs)(Z:∀j∈W1 ops l,Li listed j) :
  ∀(L pre:List Nat)(A:Qa T->Prop)(av:Act)(val:Nat->Value),Inv S ops rl qs late G U₀ a_0 Fin listed ac U pre L A av val ->
   ∃w Q W I E,Inv S ops rl qs late G U₀ a_0 Fin listed ac U w Q W I E/\(l∈w\/∃rest,Q=l::rest/\l∈rl):=by
 intro L
 induction L with
 |nil=>
  intro pre A av val h;exact⟨pre,[],A,av,val,h,.inl (by have:=h.split;simp_all)⟩
 |cons x rest V=>
  intro pre A av val h;by_cases z:x∈rl
  .by_cases e:x=l
   .grind
   .by_cases hpre:l∈pre
    .grind
    .exfalso
     have B:l∈rest:=by
      rw[h.split]at f;simp at f;rcases f with f|f|f
      .simp_all
      .simp_all
      .exact f
     have X:JE ops x l:=by
      refine H.behind pre.length x (Xk h.split).2 z l ?_;rw[h.split];simp[B]
     exact PC H h.split (h.sub x (Wb h.down X Z))
  .have hder:=h.der;cases hder with
   |un _ M P K=>exact V _ _ _ _ (h.adv H M z K (.inl ⟨P,rfl⟩))
   |det v _ M P N Y K=>exact V _ _ _ _ (h.adv H M z K (.inr ⟨P,N,Y⟩))
   |rel F B=>exact absurd B z
   |last B=>exact absurd B z
end
def Pl(h:QL S o a K U)(f:∀v U,K v U->V (a.put o.dst v) U):HC S ro o a V U:=
 QL.opV (h.mono f)
def Pk(h:QL S o a K U):∀c,o.op≠.defer c:=by
 intro c e;unfold QL at h;simp only[execOp,e]at h;have B:=(Y8 (P:=P) (resolve a.eval c o.type) (λ d=>(pure (.defer d):Sem Next))).1 h;have w:Qw P (resolve a.eval c o.type) (λ _ _=>False) U:=Qw.mono _ B λ d U E=>E;obtain⟨callee,args,z⟩:=c;cases callee with
 |value f=>cases F:a.eval f <;> simp[resolve,Deferred.ofValue,F,Qw,pure,stuck]at w
 |invoke r G=>simp[resolve,Qw,pure]at w
 |builtin bb=>simp[resolve,Qw,pure]at w
def VT{k t:Nat}(h:Region.ready .any ops listed≠[]):∃i∈Region.ready .any ops listed,∃w,Region.linearise.go .any ops (k+1) t listed []=i::Region.linearise.go .any ops k w (listed.setIfInBounds i true) []:=by
 have e:t % (Region.ready .any ops listed).length<(Region.ready .any ops listed).length:=Nat.mod_lt _ (length_pos_iff.2 h);refine⟨(Region.ready .any ops listed)[t % (Region.ready .any ops listed).length],getElem_mem _,t / (Region.ready .any ops listed).length,?_⟩;grind[Region.ready,getElem?_eq_getElem,Region.linearise.go,linearise_go_acc,reverse_singleton,singleton_append]
def Vk(f:Jz ops rl qs ts)(I:listed.size=ops.size):∀(p i:Nat),(qs++ts)[p]?=some i->¬Li listed i->∃x,x∈Region.ready .any ops listed:=by
 intro p
 induction p using Nat.strongRecOn with
 |ind p K=>
  intro i E G;by_cases F:∀j∈W1 ops i,Li listed j
  .refine⟨i,J6.2 ⟨(f.mem i).2 (mem_of_getElem? E),?_,F⟩⟩;have B:i<listed.size:=by rw[I];exact(f.mem i).2 (mem_of_getElem? E)
   simp_all[Li,Array.getD_eq_getD_getElem?,Array.getElem?_eq_getElem,Option.getD_some,Bool.not_eq_true]
  .obtain⟨j,w,z⟩:∃j∈W1 ops i,¬Li listed j:=by
    apply Classical.byContradiction;intro H;exact F λ j w=>Classical.byContradiction λ z=>H ⟨j,w,z⟩
   obtain⟨p',e⟩:=mem_iff_getElem?.1 (f.order p i E j w);grind
def VH(h:l∈Region.ready .any ops listed):¬Li listed l:=by
 have:=(J6.1 h).2.1;grind[Li,Array.getD_eq_getD_getElem?]
def FK(w:Jz ops rl qs ts)(B:∀i,Li listed i↔i∈(qs++ts).take l):∀i,Li listed i->∀j∈W1 ops i,Li listed j:=by
 intro i f j z;rw[B]at f ⊢;obtain⟨E,e⟩:=mem_iff_getElem?.1 f;rw[getElem?_take]at e;split at e
 .have:=w.order E i e j z;exact take_subset_take_left _ O1 this
 .cases e
def OL(z:Jz ops rl qs ts):∀(q:Nat)(p t:Nat)(listed:Array Bool),p+q=ts.length->listed.size=ops.size->(∀i,Li listed i↔i∈(qs++ts).take (qs.length+p)) ->
  Region.linearise.go .any ops q t listed []=ts.drop p:=by
 intro q
 induction q with
 |zero=>grind[Region.linearise.go,drop_of_length_le]
 |succ q W=>
  intro p t listed S N H;have B:p<ts.length:=O1
  have U:ts[p]?=some ts[p]:=getElem?_eq_getElem B;have f:(qs++ts)[qs.length+p]?=some ts[p]:=by rw[getElem?_append_right O1];simp
  have E:¬Li listed ts[p]:=by
   rw[H];intro h;obtain⟨F,e⟩:=mem_iff_getElem?.1 h;rw[getElem?_take]at e;split at e
   .have:=HN z e f;omega
   .cases e
  obtain⟨y,V⟩:=Vk z N _ _ f E;obtain⟨i,G,X,I⟩:=VT (k:=q) (t:=t) (ne_nil_of_mem V);have w:=FK z H
  have K:i=ts[p]:=by
   have L:=VH G;have T:=(J6.1 G).2.2;have Q:=(z.mem i).1 (J6.1 G).1;obtain⟨F,e⟩:=mem_iff_getElem?.1 Q;by_cases P:F<qs.length+p
   .exfalso;apply L;rw[H];exact mem_iff_getElem?.2 ⟨F,by rw[getElem?_take,if_pos P];exact e⟩
   .by_cases h2:F=qs.length+p
    .subst h2;rw[f]at e;cases e;rfl
    .exfalso;have M:ts[F-qs.length]?=some i:=by rw[getElem?_append_right O1]at e;exact e
     refine E (Wb w (z.tail _ i M ts[p] ?_) T);refine mem_append_right _ (mem_iff_getElem?.2 ⟨p,?_⟩);rw[getElem?_take,if_pos O1];exact U
  subst K;rw[I,W (p+1) X _ O1 (by simpa using N),drop_eq_getElem_cons B];intro j;rw[K7 (by rw[N];exact(J6.1 G).1),H]
  grind[Nat.add_assoc,take_add_one]
def Jp.eq{e:Nat->Prop}(h:Jp ops N D a_0 a)(f:Jp ops N e a_0 av)(F:∀j,D j↔e j):a=av:=by
 obtain⟨G,w⟩:=a;obtain⟨H,z⟩:=av;have B:w=z:=h.defers.trans f.defers.symm
 have E:G=H:=by
  apply Array.ext_getElem?;intro s;exact h.slot f (s:=s) λ j _=>F j
 rw[B,E]
section
variable{val:Nat->Value}
def MN(X:Jz ops rl qs ts):∀(r t:Nat)(listed:Array Bool)(ac:Act)(U:Qa T)(pre L:List Nat)(A:Qa T->Prop)(av:Act)(val:Nat->Value),
  Inv S ops rl qs late G U₀ a_0 (λ a U=>J7 S fn ro ops ts Q a U) listed ac U pre L A av val->(qs.filter λ i=>!listed.getD i false).length=r ->
  J7 S fn ro ops (Region.linearise.go .any ops (r+ts.length) t listed []) Q ac U:=by
 intro r
 induction r generalizing U₀ with
 |zero=>
  intro t listed ac U pre L A av val h hr
  have ae:∀i∈qs,Li listed i:=by
   intro i hi;have:=filter_eq_nil_iff.1 (length_eq_zero_iff.1 hr) i hi;simpa[Li]using this
  have hL:L=[]:=by
   cases L with
   |nil=>rfl
   |cons x rest=>exact absurd (h.sub x (ae x (by rw[h.split];simp))) (PC X h.split)
  subst hL;have Y:pre=qs:=by have:=h.split;simp at this;exact this.symm
  subst Y;have ag:=h.der;cases ag with
  |nil ah=>
   have e:av=ac:=h.av.eq h.ac λ j=>⟨ae j,h.sub j⟩;have:=ah U h.base h.c;rw[e]at this;rw[Nat.zero_add,OL X ts.length 0 t listed O1 h.size λ i=>?_]
   .simpa using this
   .rw[Nat.add_zero,take_left']
    .exact⟨h.sub i,ae i⟩
    .rfl
 |succ r ih=>
  intro t listed ac U pre L A av val h hr;obtain⟨q,hq⟩:∃q,q∈qs.filter λ i=>!listed.getD i false:=exists_mem_of_length_pos O1;have ay:=(mem_filter.1 hq).1;have ax:¬Li listed q:=by have:=(mem_filter.1 hq).2;simpa[Li]using this
  obtain⟨pq,a3⟩:=mem_iff_getElem?.1 ay;obtain⟨y,hy⟩:=Vk X h.size _ _ (WZ (ts:=ts) a3) ax;obtain⟨i,hi,t',a0⟩:=VT (k:=r+ts.length) (t:=t) (ne_nil_of_mem hy);have ak:=VH hi;have M:=(J6.1 hi).2.2;have aw:=(J6.1 hi).1
  have au:i∈qs:=by
   rcases mem_append.1 ((X.mem i).1 aw)with hm|hm
   .exact hm
   .obtain⟨p1,hp1⟩:=mem_iff_getElem?.1 hm;exact absurd (Wb h.down (X.tail p1 i hp1 q (mem_append_left _ ay)) M) ax
  rw[show r+1+ts.length=(r+ts.length)+1 by omega,a0];have E:∀j,Li (listed.setIfInBounds i true) j↔Li listed j\/j=i:=λ j=>K7 (by rw[h.size];exact aw)
  have I:(qs.filter λ x=>!(listed.setIfInBounds i true).getD x false).length=r:=by
   have a2:=(nodup_append.1 X.nodup).1
   have e:(qs.filter λ x=>!(listed.setIfInBounds i true).getD x false)=(qs.filter λ x=>!listed.getD x false).filter (λ x=>x != i):=by
    rw[filter_filter];refine filter_congr λ x _=>?_;have:=E x;simp only[Li]at this;grind
   rw[e,<- Nodup.erase_eq_filter (a2.filter _),length_erase_of_mem (mem_filter.2 ⟨au,by simpa[Li]using ak⟩),hr];rfl
  obtain⟨H,L',C',ab,aa,w,am⟩:=h.reach X au M
  have P:∀j,Li (listed.setIfInBounds i true) j->∀k∈W1 ops j,Li (listed.setIfInBounds i true) k:=by
   intro j f k hk;rw[E]at f ⊢;rcases f with f|rfl
   .exact .inl (h.down j f k hk)
   .exact .inl (M k hk)
  have W:∀{val:Nat->Value}{o:Oper},ops[i]?=some o->Jp ops val (Li listed) a_0 ac->Jp ops val (Li (listed.setIfInBounds i true)) a_0 (ac.put o.dst (val i)):=by
   intro val o V ha;have:=Jp.put X ha V;have e:Li (listed.setIfInBounds i true)=λ j=>Li listed j\/j=i:=by funext j;exact propext (E j)
   rw[e];exact this
  by_cases Y:i∈H
  ·
   obtain⟨o,ai,p,hp,V,az,hh⟩:=w.pend i Y ak;have B:=Px V (X.nosel i o V) (a:=ac) (a':=ai) λ s hs=>w.ac.slot az λ j f=>P5 X w.down hp ak M hs f
   have next:∀N,U.le N->Inv S ops rl qs late G U₀ a_0 (λ a U=>J7 S fn ro ops ts Q a U) (listed.setIfInBounds i true) (ac.put o.dst (aa i)) N H L' C' ab aa:=λ N K=>
    ⟨w.split,w.der,w.mono,w.base.trans K,w.mono _ _ w.c K,w.av,W V w.ac,λ j f=>((E j).1 f).elim (w.sub j) (λ e=>e▸Y),by simpa using w.size,P,λ j f hr=>(E j).2 (.inl (w.rels j f hr)),
     λ j f hl=>by
      obtain⟨o,ai,p,a,b,c,d⟩:=w.pend j f λ hx=>hl ((E j).2 (.inl hx));exact⟨o,ai,p,a,b,c,d.imp id λ⟨x,y,z⟩=>⟨x,λ U' hU=>y U' (K.trans hU),z⟩⟩⟩
   rcases hh with⟨hw,hv⟩|⟨hw,al,hg⟩
   .refine We V (by rw[B.2];exact hw) ?_;have:=ih t' _ _ _ _ _ _ _ _ (next U (.refl U)) I;rw[hv]at this;exact this
   .have Z:QL S o ac (λ v' U2=>v'=aa i/\∃N,Q1 U2 N/\U.le N) U:=by have:=al U (.refl U);unfold QL at this ⊢;rw[B.1];exact this
    refine Xl V (by rw[B.2];exact hw) (.inr (Pk Z)) (Pl Z λ v U2 hv=>?_);obtain⟨rfl,N,hs,K⟩:=hv;exact Gs hs (ih t' _ _ _ _ _ _ _ _ (next N K) I)
  .obtain⟨rest,rfl,hrl⟩:=am.resolve_left Y;have ag:=w.der;cases ag with
   |un hx _ _ _=>simp_all
   |det _ hx _ _ _ _ _=>exact absurd hrl hx
   |@rel _ _ _ _ o F _ hF V hw al hd=>
    obtain⟨ao,aj⟩:=Xk w.split
    have B:=Px V (X.nosel i o V) (a:=ac) (a':=ab) λ s hs=>w.ac.slot w.av λ j f=>by
     have:=P5 X w.down aj ak M hs f;rw[ao]at this;exact this
    have Z:QL S o ac (λ v' U2=>∃N,Q1 U2 N/\F v' N/\U.le N) U:=by have:=al U w.base w.c;unfold QL at this ⊢;rw[B.1];exact this
    refine Xl V (by rw[B.2];exact hw) (.inr (Pk Z)) (Pl Z λ v U2 hv=>?_);obtain⟨N,hs,ap,K⟩:=hv;refine Gs hs ?_;obtain⟨n1,n2,n3⟩:=w.note X v;have af:=Jp.put X n1 V;have ad:=W V n2;rw[HI]at af ad;refine ih t' _ _ N (H++[i]) rest (λ U'=>C' U'/\F v U') (ab.put o.dst v) (ZY aa i v) ⟨by rw[w.split];simp,hd v ⟨N,w.base.trans K,w.mono _ _ w.c K,ap⟩,λ a b⟨x,y⟩hl=>⟨w.mono a b x hl,hF v a b y hl⟩,w.base.trans K,⟨w.mono _ _ w.c K,ap⟩,?_,ad,?_,by simpa using w.size,P,?_,?_⟩ I
    .have e:(λ j=>j∈H\/j=i)=(·∈H++[i]):=by funext j;simp
     rw[<- e];exact af
    .intro j f;rcases(E j).1 f with f|rfl
     .exact mem_append_left _ (w.sub j f)
     .simp
    .intro j f hr;rw[E];rcases mem_append.1 f with f|f
     .exact .inl (w.rels j f hr)
     .exact .inr (by simpa using f)
    .intro j f hl;rcases mem_append.1 f with f|f
     .obtain⟨o,ai,p,a,b,c,d⟩:=n3 j f λ hx=>hl ((E j).2 (.inl hx));exact⟨o,ai,p,a,b,c,d.imp id λ⟨x,y,z⟩=>⟨x,λ U' hU=>y U' (K.trans hU),z⟩⟩
     .exact absurd ((E j).2 (.inr (by simpa using f))) hl
   |@last _ _ _ o _ hG an V hw al ah=>
    obtain⟨ao,aj⟩:=Xk w.split
    have B:=Px V (X.nosel i o V) (a:=ac) (a':=ab) λ s hs=>w.ac.slot w.av λ j f=>by
     have:=P5 X w.down aj ak M hs f;rw[ao]at this;exact this
    have Z:QL S o ac (λ v' U2=>v'=undef/\∃N,Q1 U2 N/\G N) U:=by have:=al U w.base w.c;unfold QL at this ⊢;rw[B.1];exact this
    refine Xl V (by rw[B.2];exact hw) (.inr (Pk Z)) (Pl Z λ v U2 hv=>?_);obtain⟨rfl,N,hs,aq⟩:=hv;refine Gs hs ?_;obtain⟨n1,n2,n3⟩:=w.note X undef;have af:=Jp.put X n1 V;have ad:=W V n2;rw[HI]at af ad;refine ih (U₀:=N) t' _ _ N (H++[i]) [] G (ab.put o.dst undef) (ZY aa i undef) ⟨by rw[w.split];simp,.nil λ U' _ hg=>ah ⟨U,w.base,w.c⟩ U' hg,hG,.refl N,aq,?_,ad,?_,by simpa using w.size,P,?_,?_⟩ I
    .have e:(λ j=>j∈H\/j=i)=(·∈H++[i]):=by funext j;simp
     rw[<- e];exact af
    .intro j f;rcases(E j).1 f with f|rfl
     .exact mem_append_left _ (w.sub j f)
     .simp
    .intro j f hr;rw[E];rcases mem_append.1 f with f|f
     .exact .inl (w.rels j f hr)
     .exact .inr (by simpa using f)
    .intro j f hl;rcases mem_append.1 f with f|f
     .have hnj:¬Li listed j:=λ hx=>hl ((E j).2 (.inl hx));obtain⟨o,ai,p,a,b,c,d⟩:=n3 j f hnj;refine⟨o,ai,p,a,b,c,d.imp id λ⟨x,y,z⟩=>?_⟩
      have a1:late j=true:=by
       cases hb:late j with
       |true=>rfl
       |false=>exact absurd (Wb h.down (an j hb) M) hnj
      exact⟨x,λ U' hU=>z a1 U' (hG _ _ aq hU),z⟩
     .exact absurd ((E j).2 (.inr (by simpa using f))) hl
end
def DZ(rl qs ts:List Nat)(F:P.follows .mixedOrders=true)(z:PE ops rl qs ts=true)
  (h:ZZ S ops rl (JE ops) late G U (λ a U=>J7 S fn ro ops ts Q a U) qs (λ _=>True) a):Zt S fn ro (.region l ops true) Q a U:=by
 have w:=SJ z;refine OT λ t=>?_;simp only[Region.schedule,F,Bool.true_or,if_true,Region.linearise]
 have E:(qs.filter λ i=>!(Array.replicate ops.size false).getD i false).length=qs.length:=by
  congr 1;rw[filter_eq_self];intro x _;simp[Array.getElem?_replicate];split <;> rfl
 have f:ops.size=qs.length+ts.length:=by
  have B:(qs++ts).Perm (range ops.size):=by
   refine(perm_ext_iff_of_nodup w.nodup nodup_range).2 λ x=>?_;rw[mem_range];exact(w.mem x).symm
  have:=B.length_eq;simp at this;omega
 have e:∀i,¬Li (Array.replicate ops.size false) i:=by
  intro i h;simp only[Li,Array.getD_eq_getD_getElem?,Array.getElem?_replicate]at h;split at h <;> simp at h
 have:=MN (S:=S) (fn:=fn) (ro:=ro) (Q:=Q) w qs.length t (Array.replicate ops.size false) a U [] qs (λ _=>True) a (λ _=>undef)
  ⟨rfl,h,λ _ _ _ _=>trivial,.refl U,trivial,⟨rfl,rfl,λ _ _ _ h=>by simp at h,λ _ _=>rfl⟩,⟨rfl,rfl,λ _ j _ h=>absurd h (e j),λ _ _=>rfl⟩,λ i h=>absurd h (e i),S1,λ i h=>absurd h (e i),S1,S1⟩ E
 simp_all
def J.body(z:Fr fn none b)(h:Zt S fn none c Q a U)
  (F:∀e a' U',Q e a' U'->(e=.normal\/e=.ret)/\∀todo,J S Stop m (Rf { fr b a' todo with mode:=.returning } cs) U'):J S Stop m (R b a [.code c] cs) U:=by
 refine h Stop m b [] cs z λ e a' U' q=>?_;obtain⟨E,B⟩:=F e a' U' q;have f:=z.2.1;rcases E with rfl|rfl
 .refine .still (g':=Rf { fr b a' []with mode:=.returning } cs) rfl (λ w=>?_) (B []);simp[R,Rf,stepG,stepG.exec,fr,f]
 simp_all[XF,XG,trivial]
def X7(P:Program)(f:Func)(Q:Value->Qa T->Prop)(tmps:Array Value):List Deferred->Qa T->Prop
 |[],U=>Qw P (results f tmps) Q U
 |{ target:=.collected blk,.. }::ds,U=>Qw P (Instr.takeDeferred blk) (λ e U'=>e=[]/\X7 P f Q tmps ds U') U
 |_,_=>False
def X7.step{c:Frame}(G:P.funcs[b.fn]?=some fd)(z:b.kind=.normal\/b.kind=.wrapped)(H:∀v U',R' v U'->J S Stop m (Rf (c.finish v) cs) U') :
  ∀(ds:List Deferred)(todo:List Item)(U:Qa T),X7 P fd R' tmps ds U->J S Stop m (Rf { fr b ⟨tmps,ds⟩ todo with mode:=.returning } (c::cs)) U:=by
 intro ds
 induction ds with
 |nil=>
  intro todo U h;refine .sem _ rfl h λ w x w' es e _=>⟨Rf (c.finish x) cs,seen P b.fn es,?_,Jk P _ es,λ U' q=>H _ _ q⟩;obtain⟨E,B⟩:Sem.run P (results fd tmps) w=.ok x w'/\Sem.events P (results fd tmps) w #[]=es:=by simpa using e
  rcases z with z|z <;> simp[Rf,stepG,unwind,fr,G,E,B,doReturn,z,GStep.after]
 |cons d ds I=>
  intro todo U h;obtain⟨K,args⟩:=d;cases K with
  |collected blk=>
   simp only[X7]at h;refine .sem _ rfl h λ w x w' es e F=>⟨Rf { fr b ⟨tmps,x++ds⟩ todo with mode:=.returning } (c::cs),seen P b.fn es,?_,Jk P _ es,λ U' q=>?_⟩
   .obtain⟨E,B⟩:Sem.run P (Instr.takeDeferred blk) w=.ok x w'/\Sem.events P (Instr.takeDeferred blk) w #[]=es:=by simpa using e
    simp[Rf,stepG,unwind,fr,E,B,GStep.after]
   simp_all
  |_=>exact h.elim
def Kr(P:Program)(f:Func)(Q:Value->Qa T->Prop):Ex->Act->Qa T->Prop
 |.normal,a,U=>X7 P f Q a.tmps a.defers U
 |.ret,a,U=>X7 P f Q a.tmps a.defers U
 |.exit _,_,_=>False
def Qb.of_body{f:FuncId}(B:P.funcs[f]?=some fd)(F:fd.body=some c)
  (h:Zt S f none c (Kr P fd K) { tmps:=args++Array.replicate (fd.ntmps-args.size) undef,defers:=[] } U):Qb S f args K U:=by
 intro Stop m w cs E
 let b:Frame:={ (default:Frame)with fn:=f,kind:=.normal }
 have z:Rf (Frame.enter P f args .normal) (w::cs)=R b { tmps:=args++Array.replicate (fd.ntmps-args.size) undef,defers:=[] } [.code c] (w::cs):=by
  simp[Rf,R,Frame.enter,fr,B,F,b];rfl
 rw[z];refine J.body (fn:=f) ⟨rfl,rfl,by simp[b],S1⟩ h λ e a' U' q=>?_;cases e with
 |normal=>exact⟨.inl rfl,λ todo=>X7.step B (.inl rfl) E a'.defers todo U' q⟩
 |ret=>exact⟨.inr rfl,λ todo=>X7.step B (.inl rfl) E a'.defers todo U' q⟩
 |exit id=>exact q.elim
def Of:Ex->Option Code
 |.normal=>none
 |.ret=>some .ret
 |.exit id=>some (.exit id)
def Tu(P:Program)(l:Nat)(Q:Value->Qa T->Prop)(e:Ex)(_:Act)(U:Qa T):Prop:=Qw P (Instr.endRound l (Of e)) Q U
def WF.of_body{f:FuncId}
  (h:Zt S f (some l) assign (λ e a' U'=>e=.normal/\Qw P (Instr.beginRound l) (λ _ F=>Zt S f (some l) as (Tu P l R') a' F) U') ⟨tmps,[]⟩ U):WF S l f tmps assign as R' U:=by
 intro Stop m c cs V
 let b:Frame:={ (default:Frame)with fn:=f,kind:=.normal,roundOf:=some l }
 have K:Fr f (some l) b:=⟨rfl,rfl,by simp[b],by simp[b]⟩;have E:b.roundOf=some l:=rfl
 have B:Rf (Frame.round l f tmps assign as .normal) (c::cs)=R b ⟨tmps,[]⟩ [.code assign,.beginRound,.code as] (c::cs):=by
  simp[Rf,R,Frame.round,fr,b]
 rw[B];refine h Stop m b [.beginRound,.code as] (c::cs) K λ e a' U' q=>?_;obtain⟨rfl,q⟩:=q;show J S Stop m (R b a' [.beginRound,.code as] (c::cs)) U'
 have q':Qw P (do Instr.beginRound l;pure Next.skip:Sem Next) (λ n F=>n=.skip/\Zt S f (some l) as (Tu P l R') a' F) U':=
  (Y8 _ _).2 (Qw.mono _ q λ _ _ h=>⟨rfl,h⟩)
 refine .sem _ rfl q' λ w x w' es z H=>⟨R b a' [.code as] (c::cs),seen P f es,?_,Jk P _ es,λ F q=>?_⟩
 .obtain⟨_,rfl,_⟩:=H;have I:(b.kind==CallKind.early)=false:=rfl;show stepG.apply P true (fr b a' [.beginRound,.code as]) (c::cs) none (do (Instr.beginRound l);pure .skip) w=_;simp only[stepG.apply,if_true,z];simp[fr,I,GStep.after,R,Frame.finish,b]
 .obtain⟨_,q⟩:=q;refine q Stop m b [] (c::cs) K λ e G L q=>?_
  have leave:XG S Stop m b (c::cs) (Of e) G L:=by
   simp only[XG,E];exact⟨c,cs,rfl,Qw.mono _ q λ v M Y=>V v M Y⟩
  cases e with
  |normal=>
   simp only[XG,E,Of]at leave;obtain⟨Z,rest,e,X⟩:=leave;cases e;refine .sem _ rfl X λ w x w' es z _=>⟨Rf (c.finish x) cs,seen P f es,?_,Jk P _ es,λ _ h=>h⟩;obtain⟨W,N⟩:Sem.run P (Instr.endRound l none) w=.ok x w'/\Sem.events P (Instr.endRound l none) w #[]=es:=by simpa using z
   simp[R,stepG,stepG.exec,fr,b,W,N,doReturn,GStep.after,Rf]
  |exit id=>exact .inr ⟨rfl,leave⟩
  |ret=>exact leave
def VG(f:Operand)(l:Nat):Call:={ callee:=.value f,args:=#[.const (.func (.yield l) #[] #[])],argTypes:=#[] }
def Af(h:Qw P (Instr.enterLoop fn a.tmps params assign as ro) (λ lm U1=>
   Qw P (do let d <- resolve a.eval (VG x lm.1) 0;invoke d.target d.args:Sem Next) (λ nx U2=>match nx with
    |.enter f' args=>Qb S f' args (λ _ U3=>Qw P (Instr.endLoop lm.1) (λ j U4=>match j with
      |none=>Q .normal { a with defers:=lm.2++a.defers } U4
      |some c=>Zt S fn ro c Q { a with defers:=lm.2++a.defers } U4) U3) U2
    |_=>False) U1) U):Zt S fn ro (.rangeFunc x params assign as) Q a U:=by
 intro Stop m b k cs hb hc;have ac:(b.kind==CallKind.early)=false:=by simpa using hb.2.2.1
 refine .priv ⟨rfl,λ w ok=>?_⟩;obtain⟨⟨l,mark⟩,aa,H,U1,N,B,F,Z,h,X⟩:=Qw.sound _ (es₀:=#[]) h ok;obtain⟨nx,ab,I,U2,V,E,G,ad,h,Y⟩:=Qw.sound _ (es₀:=#[]) h Z;have L:(Instr.enterLoop b.fn a.tmps params assign as b.roundOf).runT P w #[]=(.ok (l,mark) aa,H):=by rw[hb.1,hb.2.1];simpa using N
 have M:(do let d <- resolve a.eval (VG x l) 0;invoke d.target d.args:Sem Next).runT P aa #[]=(.ok nx ab,I):=by simpa using V
 cases nx with
 |enter f' args=>
  refine⟨Rf (Frame.enter P f' args .normal) (fr b { a with defers:=mark++a.defers } (.inRangeFunc l::k)::cs),ab,seen P b.fn H++seen P b.fn I,U2,?_,?_,F.trans G,ad,Y.trans X,?_⟩
  .have z:(fr b { a with defers:=mark++a.defers } (.inRangeFunc l::k)).eval=a.eval:=by rw[PA];rfl
   show GStep.after (seen P b.fn ((Instr.enterLoop b.fn a.tmps params assign as b.roundOf).runT P w #[]).2) (match((Instr.enterLoop b.fn a.tmps params assign as b.roundOf).runT P w #[]).1 with
    |.ok (l,mark) w=>stepG.apply P true (fr b { a with defers:=mark++a.defers } (.inRangeFunc l::k)) cs none (do let d <- resolve (fr b { a with defers:=mark++a.defers } (.inRangeFunc l::k)).eval (VG x l) 0;invoke d.target d.args) w
    |.halt _ w=>_)=_
   simp_all[stepG.apply,if_true,fr,GStep.after,Rf]
  .intro e z;rcases Array.mem_append.1 z with z|z
   .exact⟨(B e (Jk P _ _ e z)).1,(B e (Jk P _ _ e z)).2.mono G.size⟩
   .exact⟨WA.of F (E e (Jk P _ _ e z)).1,(E e (Jk P _ _ e z)).2⟩
  .refine h Stop m _ cs λ v U3 h=>?_;have K:(fr b { a with defers:=mark++a.defers } (.inRangeFunc l::k)).finish v=fr b { a with defers:=mark++a.defers } (.endRangeFunc l::k):=by simp[Frame.finish,fr]
   rw[K];refine .sem (g:=R b { a with defers:=mark++a.defers } (.endRangeFunc l::k) cs) _ rfl h λ w j w' es W _=>⟨R b { a with defers:=mark++a.defers } ((j.map Item.code).toList++k) cs,seen P b.fn es,?_,Jk P _ es,λ U4 q=>?_⟩
   .obtain⟨hr,z⟩:Sem.run P (Instr.endLoop l) w=.ok j w'/\Sem.events P (Instr.endLoop l) w #[]=es:=by simpa using W
    simp[R,stepG,stepG.exec,fr,hr,z,GStep.after]
   .cases j with
    |none=>exact hc _ _ _ q
    |some c=>exact q Stop m b k cs hb hc
 |_=>exact h.elim
def JT(U:Qa T):Prop:=∀r∈U.M,U.I r.blk=none
def Qb.sep{f:FuncId}{args:Array Value}{R R':Value->Qa T->Prop}{U:Qa T}(h:Qb S f args R U)(z:∀v U',JT U'->R v U'->∃U'',Q1 U' U''/\R' v U''):Qb S f args R' U:=by
 intro Stop m c cs k;refine h Stop m c cs λ v U' r=>?_;by_cases e:JT U'
 .obtain⟨U'',h1,h2⟩:=z v U' e r;exact .shift h1 (k v _ h2)
 .exact .priv ⟨rfl,λ w ok=>absurd ok.sep e⟩
def Qb.sep0(h:JT U->Qb S fn args K U):Qb S fn args K U:=by
 intro Stop m c cs k;by_cases e:JT U
 .exact h e Stop m c cs k
 .exact .priv ⟨rfl,λ w ok=>absurd ok.sep e⟩
def Zr(S:Sys P T)(l:Nat)(vs:List Value)(K:Value->Qa T->Prop)(U:Qa T):Prop:=Qw P (Instr.yield l vs.toArray) (ZM S K) U
abbrev Fm:=Nat->Value
variable{f:Fm}
def JC(f:Fm)(d:Nat)(v:Value):Fm:=λ t=>bif Nat.beq t d then v else f t
def QW(f:Fm):Option Nat->Value->Fm
 |some d,v=>JC f d v
 |none,_=>f
def Zc(f:Fm):Operand->Value
 |.tmp t=>f t
 |.const v=>v
 |.global g=>.pb g
 |.func g=>.func (.func g) #[] #[]
inductive O where
 |mv (x:Operand)
 |pick (c a b:Operand)
 |add (x y:Operand)|sub (x y:Operand)|mul (x y:Operand)
 |cmp (op:BinOp) (x y:Operand)
 |beq (op:BinOp) (x y:Operand)
 |ar (op:BinOp) (x y:Operand)
 |teq (op:BinOp) (x y:Operand)
 |not (x:Operand)
 |len (x:Operand)
 |lenT (x:Operand)
 |lenM (x:Operand)
 |conv (k:IntKind) (x:Operand)
 |off (n:Nat) (x:Operand)
 |idx (sz:Nat) (x i:Operand)
 |aidx (n sz:Nat) (x i:Operand)
 |sidx (x i:Operand)
 |ld (x:Operand)
 |ldn (n:Nat) (x:Operand)
 |st (n:Nat) (x v:Operand)
 |box (t:TypeId) (x:Operand)
 |boxM (t:TypeId) (x:Operand)
 |alloc (t:TypeId) (zero:Array Value)
 |ext (x:Operand) (i:Nat)
 |part (off n:Nat) (x:Operand)
 |part1 (off:Nat) (x:Operand)
 |mkf (fn:Fn) (first capt:Array Operand)
 |call (f:Operand) (args:Array Operand)
 |nilc (x:Operand)
 |sub3 (sz:Nat) (x:Operand) (lo hi:Option Operand)
 |build (zero:Array Value) (parts:List (Nat×Nat×Operand))
 |bsl (t:TypeId) (len:Nat) (zero:Array Value) (parts:List (Nat×Nat×Operand))
 |raw (o:Oper)
def WT(v:Value)(K:Value->Prop):Prop:=
 match v with
 |.bool b=>K (.bool b)|.int k n=>K (.int k n)|.float k n=>K (.float k n)|.complex k a b=>K (.complex k a b)|.string s=>K (.string s)
 |.pointer a=>K (.pointer a)|.slice a l c=>K (.slice a l c)|.map r=>K (.map r)|.chan r=>K (.chan r)|.func f a b=>K (.func f a b)
 |.nilFunc=>K .nilFunc|.iface t x=>K (.iface t x)|.nilIface=>K .nilIface|.agg c=>K (.agg c)|.tuple c=>K (.tuple c)
def Q4(v:Value)(K:Value->Prop):WT v K=K v:=by cases v <;> rfl
def Xa(l:List Value):(List Value->Prop)->Prop:=List.rec (motive:=λ _=>(List Value->Prop)->Prop) (λ K=>K []) (λ v _ e K=>WT v λ v=>e λ r=>K (v::r)) l
def Wa:∀(l:List Value)(K:List Value->Prop),Xa l K=K l
 |[],_=>rfl
 |v::r,K=>by
  show(WT v λ v=>Xa r λ r=>K (v::r))=_;rw[Q4];exact Wa r _
def PF(v:Value)(K:Array Value->Prop):Prop:=WT v λ v=>match v with|.agg cs=>K cs|v=>K #[v]
def Yg(v:Value)(K:Array Value->Prop):PF v K=K v.cells:=by unfold PF;rw[Q4];cases v <;> rfl
def Zo(U:Qa T)(b:Nat)(c:Array Value):Prop:=∃t fr,U.I b=some (.cells c t fr)
def Zo.new:Zo { U with I:=JI U.I l (.cells args t) } l args:=⟨t,(0,0),by simp[JI]⟩
def GA{o:Obj}(h:U.free l):U.le { U with I:=JI U.I l o }:=by
 refine⟨λ x w f=>?_,rfl,rfl⟩;show JI U.I l o x=_;unfold JI;rw[if_neg]
 .exact f
 .intro e;rw[e,h.1]at f;cases f
def Je(n:Int):Prop:=-9223372036854775808<=n/\n<9223372036854775808
theorem I1(h:-9223372036854775808<=η/\η<9223372036854775808:=by omega):Je η:=h
def Gk(h:Je η):IntKind.wrap .i64 η=η:=by
 unfold Je at h;have e:(2:Int)^64=18446744073709551616:=D1
 have f:(2:Int)^(64-1)=9223372036854775808:=D1
 simp only[IntKind.wrap,IntKind.bits,IntKind.signed,Bool.true_and,e,f];grind
def Ju(U:Qa T)(a:Addr)(vs:List Value):Prop:=∀i v,vs[i]?=some v->U.sees (a.add i) v
def ZG(a:Addr)(l:List Value):Nat->(Qa T->Prop)->Qa T->Prop:=
 List.rec (motive:=λ _=>Nat->(Qa T->Prop)->Qa T->Prop) (λ _ K U=>K U) (λ v _ e i K U=>v.single=true/\∃M',XS (a.add i) v U.M M'/\e (i+1) K { U with M:=M' }) l
def ZG.mono{a:Addr}{K e:Qa T->Prop}(f:∀U,K U->e U):∀(vs:List Value)(i:Nat)(U:Qa T),ZG a vs i K U->ZG a vs i e U
 |[],_,_,h=>f _ h
 |_::vs,i,_,⟨w,M',z,h⟩=>⟨w,M',z,ZG.mono f vs (i+1) _ h⟩
def Y6(len:Nat)(lo e:Option Value):Option (Int×Int):=
 match lo,e with
 |none,none=>some (0,len)
 |some (.int _ l),none=>some (l,len)
 |none,some (.int _ h)=>some (0,h)
 |some (.int _ l),some (.int _ h)=>some (l,h)
 |_,_=>none
def JZ(cells:Array Value)(off:Nat):List Value->Nat->Array Value
 |[],_=>cells
 |v::r,j=>JZ (cells.setIfInBounds (off+j) v) off r (j+1)
def PP(f:Fm)(cells:Array Value):List (Nat×Nat×Operand)->Option (Array Value)
 |[]=>some cells
 |(off,size,x)::r=>
  if(Zc f x).cells.size≠size|| off+(Zc f x).cells.size > cells.size then none
  else PP f (JZ cells off (Zc f x).cells.toList 0) r
def Vj:∀(vs:List Value)(c:Array Value)(off j:Nat),(JZ c off vs j).size=c.size
 |[],_,_,_=>rfl
 |v::vs,c,off,j=>by simp[JZ,Vj vs]
def Pj:∀(vs:List Value)(c:Array Value)(off j k:Nat),off+j+vs.length<=c.size->(JZ c off vs j)[k]?=if off+j<=k/\k<off+j+vs.length then vs[k-(off+j)]? else c[k]?
 |[],c,off,j,k,_=>by simp[JZ];omega
 |v::vs,c,off,j,k,h=>by
  simp only[length_cons]at h;simp only[JZ];rw[Pj vs _ off (j+1) k S3];grind
def Cw(vs:List Value)(c:Array Value)(off:Nat)(h:off+vs.length<=c.size):(JZ c off vs 0).toList=c.toList.take off++vs++c.toList.drop (off+vs.length):=by
 apply ext_getElem?;intro k;have w:=Pj vs c off 0 k O1;rw[Array.getElem?_toList,w];have e:(c.toList.take off).length=off:=S3
 grind
def Oj(off:Nat)(vs cs:List Value):List Value:=cs.take off++vs++cs.drop (off+vs.length)
def P_(f:Fm)(ps:List (Nat×Nat×Operand)):List Value->(List Value->Prop)->Prop:=
 List.rec (motive:=λ _=>List Value->(List Value->Prop)->Prop) (λ cs K=>Xa cs K)
  (λ p _ w cs K=>PF (Zc f p.2.2) λ vs=>Xa vs.toList λ vl=>
   bif (Nat.beq vl.length p.2.1&&Nat.ble (p.1+vl.length) cs.length)then Xa (Oj p.1 vl cs) (λ e=>w e K)else False) ps
def HL(f:Fm):∀(ps:List (Nat×Nat×Operand))(cs:List Value)(K:List Value->Prop),P_ f ps cs K=(match PP f cs.toArray ps with|some c=>K c.toList|none=>False)
 |[],cs,K=>by
  show Xa cs K=_;rw[Wa];rfl
 |(off,size,x)::r,cs,K=>by
  show(PF (Zc f x) λ vs=>Xa vs.toList λ vl=>bif (Nat.beq vl.length size&&Nat.ble (off+vl.length) cs.length)then Xa (Oj off vl cs) (λ e=>P_ f r e K)else False)=_;rw[Yg,Wa,PP];simp only[Array.length_toList,size_toArray];by_cases h:(Zc f x).cells.size=size/\off+(Zc f x).cells.size<=cs.length
  .have e1:(Nat.beq (Zc f x).cells.size size&&Nat.ble (off+(Zc f x).cells.size) cs.length)=true:=by
    rw[Bool.and_eq_true];exact⟨Nat.beq_eq.symm▸h.1,Nat.ble_eq.symm▸h.2⟩
   rw[e1,cond_true,Wa,HL f r];rw[if_neg S3];have B:=Cw (Zc f x).cells.toList cs.toArray off (by simpa using h.2)
   have E:(Oj off (Zc f x).cells.toList cs).toArray=JZ cs.toArray off (Zc f x).cells.toList 0:=by
    apply Array.ext';rw[B];rfl
   rw[E]
  .have e1:(Nat.beq (Zc f x).cells.size size&&Nat.ble (off+(Zc f x).cells.size) cs.length)=false:=by
    rw[Bool.and_eq_false_iff];by_cases z:(Zc f x).cells.size=size
    .right;rw[Bool.eq_false_iff];intro w;exact h ⟨z,Nat.le_of_ble_eq_true w⟩
    .left;rw[Bool.eq_false_iff];intro w;exact z (Nat.eq_of_beq_eq_true w)
   grind
def OX(S:Sys P T):O->Fm->(Value->Qa T->Prop)->Qa T->Prop
 |.mv x,f,K,U=>WT (Zc f x) λ v=>K v U
 |.pick c a b,f,K,U=>match Zc f c with
  |.bool true=>WT (Zc f a) λ v=>K v U
  |.bool false=>WT (Zc f b) λ v=>K v U
  |_=>False
 |.add x y,f,K,U=>match Zc f x,Zc f y with|.int .i64 a,.int .i64 b=>Je (a+b)/\K (.int .i64 (a+b)) U|_,_=>False
 |.sub x y,f,K,U=>match Zc f x,Zc f y with|.int .i64 a,.int .i64 b=>Je (a-b)/\K (.int .i64 (a-b)) U|_,_=>False
 |.mul x y,f,K,U=>match Zc f x,Zc f y with|.int .i64 a,.int .i64 b=>Je (a*b)/\K (.int .i64 (a*b)) U|_,_=>False
 |.cmp op x y,f,K,U=>match Zc f x,Zc f y with
  |.int k a,.int k' b=>k=k'/\(match op with
   |.eql=>K (.bool (a==b)) U|.neq=>K (.bool (a != b)) U|.lss=>K (.bool (decide (a<b))) U
   |.leq=>K (.bool (decide (a<=b))) U|.gtr=>K (.bool (decide (a > b))) U|.geq=>K (.bool (decide (a ≥ b))) U|_=>False)
  |_,_=>False
 |.beq op x y,f,K,U=>match Zc f x,Zc f y with
  |.bool a,.bool b=>(match op with|.eql=>K (.bool (a==b)) U|.neq=>K (.bool (!(a==b))) U|_=>False)
  |_,_=>False
 |.ar op x y,f,K,U=>match Zc f x,Zc f y with
  |.int k a,.int k' b=>(match op with
   |.add=>k=k'/\K (.int k (k.wrap (a+b))) U|.sub=>k=k'/\K (.int k (k.wrap (a-b))) U|.mul=>k=k'/\K (.int k (k.wrap (a*b))) U
   |.quo=>k=k'/\b≠0/\K (.int k (k.wrap (a.tdiv b))) U|.rem=>k=k'/\b≠0/\K (.int k (a.tmod b)) U
   |.and=>k=k'/\K (.int k (k.wrap (BitVec.ofInt k.bits a&&&BitVec.ofInt k.bits b).toNat)) U
   |.or=>k=k'/\K (.int k (k.wrap (BitVec.ofInt k.bits a||| BitVec.ofInt k.bits b).toNat)) U
   |.xor=>k=k'/\K (.int k (k.wrap (BitVec.ofInt k.bits a ^^^ BitVec.ofInt k.bits b).toNat)) U
   |.andNot=>k=k'/\K (.int k (k.wrap (BitVec.ofInt k.bits a&&&~~~ BitVec.ofInt k.bits b).toNat)) U
   |.shl=>0<=b/\K (.int k (k.wrap (a*2^(min b.toNat k.bits)))) U
   |.shr=>0<=b/\K (.int k (a.fdiv (2^(min b.toNat k.bits)))) U
   |_=>False)
  |_,_=>False
 |.teq op x y,f,K,U=>match Zc f x,Zc f y with
  |.string a,.string b=>(match op with|.eql=>K (.bool (a.toList==b.toList)) U|.neq=>K (.bool (!(a.toList==b.toList))) U|_=>False)
  |_,_=>False
 |.not x,f,K,U=>match Zc f x with|.bool b=>K (.bool (!b)) U|_=>False
 |.len x,f,K,U=>match Zc f x with|.slice _ n _=>K (.int .i64 n) U|_=>False
 |.lenT x,f,K,U=>match Zc f x with|.string s=>K (.int .i64 s.size) U|_=>False
 |.lenM x,f,K,U=>match Zc f x with
  |.map none=>K (.int .i64 0) U
  |.map (some r)=>∃es z,U.has r (.map es z)/\K (.int .i64 es.size) U
  |_=>False
 |.conv k x,f,K,U=>match Zc f x with|.int _ n=>K (.int k (k.wrap n)) U|_=>False
 |.off n x,f,K,U=>match Zc f x with|.pointer (some a)=>K (.pointer (some (a.add n))) U|_=>False
 |.idx sz x i,f,K,U=>match Zc f x,Zc f i with
  |.slice a len _,.int _ n=>∃(E:Addr)(j:Nat),(a=some E/\n=j/\j<len)/\K (.pointer (some (E.add (j*sz)))) U
  |_,_=>False
 |.aidx len sz x i,f,K,U=>match Zc f x,Zc f i with
  |.pointer (some a),.int _ n=>∃j:Nat,(n=j/\j<len)/\K (.pointer (some (a.add (j*sz)))) U
  |_,_=>False
 |.sidx x i,f,K,U=>match Zc f x,Zc f i with
  |.string s,.int _ n=>∃(j:Nat)(b:UInt8),(n=j/\s[j]?=some b)/\K (.int .u8 b.toNat) U
  |_,_=>False
 |.ld x,f,K,U=>match Zc f x with|.pointer (some a)=>∃v,U.sees a v/\WT v λ v=>K v U|_=>False
 |.ldn n x,f,K,U=>match Zc f x with|.pointer (some a)=>∃vs:List Value,(vs.length=n/\Ju U a vs)/\K (.agg vs.toArray) U|_=>False
 |.st n x v,f,K,U=>match Zc f x with|.pointer (some a)=>(Zc f v).cells.size=n/\ZG a (Zc f v).cells.toList 0 (λ U'=>∃e,Q1 U' e/\K undef e) U|_=>False
 |.box _ x,f,K,U=>PF (Zc f x) λ cs=>∀b e,U.le e->Zo e b cs->K (.pb b) e
 |.boxM t x,f,K,U=>∀b,U.free b->K (.pb b) (U.put b (.cells (Zc f x).cells t))
 |.alloc t zero,_,K,U=>∀b,U.free b->∃e,Q1 (U.put b (.cells zero t)) e/\K (.pb b) e
 |.ext x i,f,K,U=>match Zc f x with|.tuple vs=>(match vs[i]? with|some v=>WT v λ v=>K v U|none=>False)|_=>False
 |.part off n x,f,K,U=>match Zc f x with|.agg cs=>K (.agg ((cs.toList.drop off).take n).toArray) U|_=>False
 |.part1 off x,f,K,U=>match Zc f x with|.agg cs=>(match cs[off]? with|some v=>WT v λ v=>K v U|none=>False)|_=>False
 |.mkf fn first w,f,K,U=>Xa (first.toList.map (Zc f)) λ a=>Xa (w.toList.map (Zc f)) λ c=>K (.func fn a.toArray c.toArray) U
 |.call c args,f,K,U=>match Zc f c with
  |.func (.func g) first w=>(P.funcs[g]?.any λ fd=>fd.body.isSome&&fd.name != "runtime.NumGoroutine")=true/\Xa (args.toList.map (Zc f)) λ vs=>Qb S g (first.toList++vs++w.toList).toArray (λ v U'=>JT U'->K v U') U
  |.func (.yield l) first _=>Xa (args.toList.map (Zc f)) λ vs=>Zr S l (first.toList++vs) K U
  |_=>False
 |.nilc x,f,K,U=>match Zc f x with|.pointer (some a)=>K (.pointer (some a)) U|_=>False
 |.sub3 sz x lo B,f,K,U=>match Zc f x with
  |.slice a len cap=>(match Y6 len (lo.map (Zc f)) (B.map (Zc f))with
   |some (F,B)=>∃l h:Nat,(F=l/\B=h/\l<=h/\h<=cap)/\K (.slice (if cap=l then a else a.map (·.add (l*sz))) (h-l) (cap-l)) U
   |none=>False)
  |_=>False
 |.build zero parts,f,K,U=>P_ f parts zero.toList λ l=>K (.agg l.toArray) U
 |.bsl t len zero parts,f,K,U=>P_ f parts zero.toList λ l=>∀b,U.free b->∃e,Q1 (U.put b (.cells l.toArray t)) e/\K (.slice (some ⟨b,0,none⟩) len len) e
 |.raw o,f,K,U=>∀a:Act,(∀x,a.eval x=Zc f x)->Qw P (execOp a.eval o) (ZM S λ v U'=>∃e,Q1 U' e/\K v e) U
def Rp(s:Sem α):s.bind Sem.pure=s:=by
 induction s with
 |pure a=>rfl
 |load m a k e=>simp only[Sem.bind];simp_all
 |store m a v k e=>grind[Sem.bind]
 |new o k e=>simp only[Sem.bind];simp_all
 |shape r k e=>simp only[Sem.bind];simp_all
 |freeze a n k e=>grind[Sem.bind]
 |frozen a k e=>simp only[Sem.bind];congr 1;grind
 |getObj r k e=>simp only[Sem.bind];simp_all
 |setObj r o k e=>grind[Sem.bind]
 |choose q k e=>simp only[Sem.bind];simp_all
 |sys c k e=>simp only[Sem.bind];simp_all
 |program k e=>simp only[Sem.bind];simp_all
 |mark m k e=>grind[Sem.bind]
 |halt h=>rfl
def KC(s:Sem α)(g:α->Sem β)(h:β->Sem γ):(s.bind g).bind h=s.bind λ a=>(g a).bind h:=by
 induction s with
 |pure a=>rfl
 |load m a k e=>simp only[Sem.bind];simp_all
 |store m a v k e=>grind[Sem.bind]
 |new o k e=>simp only[Sem.bind];simp_all
 |shape r k e=>simp only[Sem.bind];simp_all
 |freeze a n k e=>grind[Sem.bind]
 |frozen a k e=>simp only[Sem.bind];grind
 |getObj r k e=>simp only[Sem.bind];simp_all
 |setObj r o k e=>grind[Sem.bind]
 |choose q k e=>simp only[Sem.bind];simp_all
 |sys c k e=>simp only[Sem.bind];simp_all
 |program k e=>simp only[Sem.bind];simp_all
 |mark m k e=>grind[Sem.bind]
 |halt h=>rfl
theorem S_:LawfulMonad Sem:=LawfulMonad.mk' Sem (id_map:=λ s=>Rp s) (pure_bind:=λ _ _=>rfl) (bind_assoc:=λ s g h=>KC s g h)
def Xc{α β:Type}(g:α->Sem β):List α->Array β->Sem (Array β)
 |[],acc=>pure acc
 |x::r,acc=>do let y <- g x;Xc g r (acc.push y)
def L_(g:α->Sem β):∀(l:List α)(acc:Array β),Xc g l acc=(do let r <- l.mapM g;pure (acc++r.toArray)):=by
 have:=S_;intro l
 induction l with
 |nil=>grind[Xc]
 |cons x l e=>simp_all[Xc,mapM_cons]
def O7(g:α->Sem β)(l:List α):Array.mapM g l.toArray=Xc g l #[]:=by
 have:=S_;rw[L_];simp
def Qc(s:Sem α)(g:α->Sem β)(Q:β->Qa T->Prop)(U:Qa T):Qw P (s >>= g) Q U=Qw P s (λ a U=>Qw P (g a) Q U) U:=propext (Y8 s g)
def Qi(a:α)(Q:α->Qa T->Prop)(U:Qa T):Qw P (pure a:Sem α) Q U=Q a U:=rfl
def Zi(h:P.underlying t=some d)(Q:TypeDesc->Qa T->Prop)(U:Qa T):Qw P (underlying t) Q U=Q d U:=by
 simp only[underlying,program,Qc,Qw,h,Qi]
def Wl(h:P.info? t=some κ)(Q:TypeInfo->Qa T->Prop)(U:Qa T):Qw P (typeInfo t) Q U=Q κ U:=by
 simp only[typeInfo,program,Qc,Qw,h,Qi]
def Ji(h:P.info? t=some κ)(Q:Nat->Qa T->Prop)(U:Qa T):Qw P (sizeOf t) Q U=Q κ.size U:=by
 simp only[sizeOf,Qc,Wl h,Qi]
def TypeDesc.agg:TypeDesc->Bool
 |.struct _|.array _ _=>true
 |_=>false
def Hq(h:P.underlying t=some d)(Q:Bool->Qa T->Prop)(U:Qa T):Qw P (isAgg t) Q U=Q (TypeDesc.agg d) U:=by
 simp only[isAgg,Qc,Zi h];cases d <;> rfl
def XC(h:P.info? t=some κ)(e:κ.zero=some v)(Q:Value->Qa T->Prop)(U:Qa T):Qw P (zeroValue t) Q U=Q v U:=by
 simp only[zeroValue,Qc,Wl h,e,Qi]
def YV(h:U.sees W v)(e:K v U):Qw P (load W) K U:=⟨rfl,v,h,e⟩
def Sk{a:Addr}{Q:Array Value->Qa T->Prop}{U:Qa T}:∀(vs:List Value)(i:Nat)(acc:Array Value),(∀j v,vs[j]?=some v->U.sees (a.add (i+j)) v)->Q (acc++vs.toArray) U ->
  Qw P (loadCellsFrom a i vs.length acc) Q U
 |[],i,acc,_,f=>by simpa[loadCellsFrom,Qi]using f
 |v::vs,i,acc,h,f=>by
  simp only[length_cons,loadCellsFrom,Qc];refine YV (h 0 v rfl) (Sk vs (i+1) (acc.push v) (λ j u w=>?_) ?_)
  .have:=h (j+1) u w
   rwa [show i+(j+1)=i+1+j by omega]at this
  simp_all
def GX{a:Addr}{Q:Unit->Qa T->Prop}:∀(vs:List Value)(i:Nat)(U:Qa T),ZG a vs i (λ U'=>Q () U') U->Qw P (storeCells a vs i) Q U
 |[],_,_,h=>h
 |v::vs,i,U,h=>by
  obtain⟨f,M',e,h⟩:=h;simp only[storeCells,Qc,store];exact⟨rfl,f,M',e,GX vs (i+1) _ h⟩
def Jm(h:∀b,U.free b->υ ⟨b,0,none⟩ (U.put b (.cells args t))):Qw P (newRow t args) υ U:=by
 simp only[newRow,newObj,Qc,Qw,Qi];exact h
def Jg(o:Oper):Oper:={ dst:=none,op:=o.op,type:=o.type,pos := "", after:=#[],guard:=none }
def qA:BinOp->Bool
 |.eql|.neq|.lss|.leq|.gtr|.geq=>true
 |_=>false
def DW(P:Program)(o:Oper)(op:BinOp)(t:TypeId)(x y:Operand):O:=
 match P.underlying t with
 |some (.int k)=>
  if qA op then .cmp op x y
  else match k,op with
   |.i64,.add=>.add x y
   |.i64,.sub=>.sub x y
   |.i64,.mul=>.mul x y
   |_,_=>.ar op x y
 |some .bool=>.beq op x y
 |some .string=>(match op with|.eql=>.teq op x y|.neq=>.teq op x y|_=>.raw (Jg o))
 |_=>.raw (Jg o)
def Jw(P:Program)(t:TypeId):Option Nat:=(P.info? t).map (·.size)
def Xo(P:Program)(t:TypeId):Option Value:=(P.info? t).bind (·.zero)
def CW(P:Program):Operand->Bool
 |.func g=>P.funcs[g]?.any (·.body.isNone)
 |_=>false
def Zb(P:Program)(mu:List Nat)(o:Oper):O:=
 match o.op with
 |.move x|.assign x=>.mv x
 |.pick c a b=>.pick c a b
 |.binOp op t x y _=>DW P o op t x y
 |.unOp .not _ x=>.not x
 |.call { callee:=.value c,args,.. }=>if CW P c then .raw (Jg o)else .call c args
 |.call { callee:=.builtin .len,args,argTypes }=>
  (match args,argTypes with
  |⟨[x]⟩,⟨[t]⟩=>(match P.underlying t with|some (.slice _)=>.len x|some .string=>.lenT x|some (.map _ _)=>.lenM x|_=>.raw (Jg o))
  |_,_=>.raw (Jg o))
 |.convert src dst x=>(match P.underlying src,P.underlying dst with|some (.int _),some (.int k)=>.conv k x|_,_=>.raw (Jg o))
 |.fieldAddr s x i=>(match P.underlying s with
  |some (.struct f)=>(match f[i]? with
   |some fd=>(match Jw P fd.type with|some (_+1)=>.off fd.offset x|_=>.raw (Jg o))
   |none=>.raw (Jg o))
  |_=>.raw (Jg o))
 |.indexAddr t x i=>(match P.underlying t with
  |some (.slice e)=>(match Jw P e with|some n=>.idx n x i|none=>.raw (Jg o))
  |some (.array len e)=>(match Jw P e with|some n=>if len<=1 then .raw (Jg o)else .aidx len n x i|none=>.raw (Jg o))
  |_=>.raw (Jg o))
 |.index t x i=>(match P.underlying t with|some .string=>.sidx x i|_=>.raw (Jg o))
 |.load t x=>(match P.underlying t with
  |some d=>if TypeDesc.agg d then(match Jw P t with|some n=>.ldn n x|none=>.raw (Jg o))else .ld x
  |none=>.raw (Jg o))
 |.store t x v=>(match Jw P t with|some n=>.st n x v|none=>.raw (Jg o))
 |.box t x=>(match o.dst with|some d=>if mu.contains d then .boxM t x else .box t x|none=>.boxM t x)
 |.alloc t=>(match Xo P t with|some z=>.alloc t z.cells|none=>.raw (Jg o))
 |.extract x i=>.ext x i
 |.field t x i=>(match P.underlying t with
  |some (.struct f)=>(match f[i]? with
   |some fd=>(match P.underlying fd.type with
    |some d=>if TypeDesc.agg d then(match Jw P fd.type with|some n=>.part fd.offset n x|none=>.raw (Jg o))else .part1 fd.offset x
    |none=>.raw (Jg o))
   |none=>.raw (Jg o))
  |_=>.raw (Jg o))
 |.makeFunc fn first w=>.mkf fn first w
 |.nilCheck x=>.nilc x
 |.build t parts=>(match P.underlying t,Xo P t with
  |some (.struct f),some z=>if f.toList.all (λ fd=>(Jw P fd.type).isSome)then
    (match parts.toList.mapM (λ p=>(f[p.1]?).map λ fd=>(fd.offset,(Jw P fd.type).getD 0,p.2))with
    |some ps=>.build z.cells ps
    |none=>.raw (Jg o))else .raw (Jg o)
  |_,_=>.raw (Jg o))
 |.buildSlice t len parts=>(match P.underlying t with
  |some (.slice e)=>(match Jw P e,Xo P e with
   |some n,some z=>if len*n<=2^24 then .bsl e len (if len*n=0 then #[]else(Array.range (len*n)).map (z.cells[· % z.cells.size]!)) (parts.toList.map λ p=>(p.1*n,n,p.2))else .raw (Jg o)
   |_,_=>.raw (Jg o))
  |_=>.raw (Jg o))
 |.slice t x lo B none=>(match P.underlying t with|some (.slice e)=>(match Jw P e with|some n=>.sub3 n x lo B|none=>.raw (Jg o))|_=>.raw (Jg o))
 |_=>.raw (Jg o)
def Ga(h:Jw P t=some n):∃i,P.info? t=some i/\i.size=n:=by
 simpa[Jw]using h
def P8(h:Xo P t=some z):∃i,P.info? t=some i/\i.zero=some z:=by
 grind[Xo,Option.bind_eq_some_iff]
def Pi(h:δ () U):Qw P (eqGuard op t x y (.int Z η) (.int k' θ)) δ U:=by
 cases op <;> exact h
def Cv(h:δ () U):Qw P (eqGuard op t x y (.bool m) (.bool p)) δ U:=by
 cases op <;> exact h
def FP(h:δ () U):Qw P (eqGuard op t x y (.string σ) (.string τ)) δ U:=by
 cases op <;> exact h
def qd(h:OX S (.cmp op x y) f K U):Qw P (do eqGuard op t x y (Zc f x) (Zc f y);binOp op t (Zc f x) (Zc f y)) K U:=by
 simp only[OX]at h;cases e:Zc f x <;> simp only[e]at h <;> try exact h.elim
 cases w:Zc f y <;> simp only[w]at h <;> try exact h.elim
 obtain⟨rfl,h⟩:=h;rw[Qc];refine Pi ?_;cases op <;> first|exact h.elim|simpa[binOp,Op.intCmp,Qi]using h
def C_(h:OX S (.add x y) f K U):Qw P (do eqGuard .add t x y (Zc f x) (Zc f y);binOp .add t (Zc f x) (Zc f y)) K U:=by
 simp only[OX]at h;split at h
 .rename_i a b e1 e2;rw[e1,e2,Qc];refine Pi ?_;simpa[binOp,Op.intArith,Qi,Gk h.1]using h.2
 .exact h.elim
def qg(h:OX S (.sub x y) f K U):Qw P (do eqGuard .sub t x y (Zc f x) (Zc f y);binOp .sub t (Zc f x) (Zc f y)) K U:=by
 simp only[OX]at h;split at h
 .rename_i a b e1 e2;rw[e1,e2,Qc];refine Pi ?_;simpa[binOp,Op.intArith,Qi,Gk h.1]using h.2
 .exact h.elim
def qf(h:OX S (.mul x y) f K U):Qw P (do eqGuard .mul t x y (Zc f x) (Zc f y);binOp .mul t (Zc f x) (Zc f y)) K U:=by
 simp only[OX]at h;split at h
 .rename_i a b e1 e2;rw[e1,e2,Qc];refine Pi ?_;simpa[binOp,Op.intArith,Qi,Gk h.1]using h.2
 .exact h.elim
def Ic(f:P.underlying t=some .bool)(a b:Bool)(Q:Bool->Qa T->Prop)(U:Qa T):Qw P (Op.equal t (.bool a) (.bool b)) Q U=Q (a==b) U:=by
 have e:Op.equal t (.bool a) (.bool b)=Op.equalIn (9999+1) t (.bool a) (.bool b):=rfl;rw[e,Op.equalIn,Qc,Zi f];rfl
def qb(e:P.underlying t=some .bool)(h:OX S (.beq op x y) f K U):Qw P (do eqGuard op t x y (Zc f x) (Zc f y);binOp op t (Zc f x) (Zc f y)) K U:=by
 simp only[OX]at h;split at h
 .rename_i a b e1 e2;rw[e1,e2,Qc];refine Cv ?_;cases op <;> first|exact h.elim|(simp only[binOp,Qc,Ic e,Qi];exact h)
 .exact h.elim
def Tj(h:OX S (.teq op x y) f K U):Qw P (do eqGuard op t x y (Zc f x) (Zc f y);binOp op t (Zc f x) (Zc f y)) K U:=by
 simp only[OX]at h;split at h
 .rename_i a b e1 e2;rw[e1,e2,Qc];refine FP ?_;cases op <;> first|exact h.elim|simpa[binOp,Op.stringOp,Qi]using h
 .exact h.elim
def qH(h:OX S (.ar op x y) f K U):Qw P (do eqGuard op t x y (Zc f x) (Zc f y);binOp op t (Zc f x) (Zc f y)) K U:=by
 simp only[OX]at h;split at h
 .rename_i k a k' b e1 e2;rw[e1,e2,Qc];refine Pi ?_
  cases op <;> simp only[]at h <;> first
   |exact h.elim
   |(obtain⟨rfl,e,h⟩:=h;simpa[binOp,Op.intDiv,e,Qi]using h)
   |(obtain⟨rfl,h⟩:=h;simpa[binOp,Op.intArith,Op.intBits,Qi]using h)
   |(obtain⟨e,h⟩:=h;simpa[binOp,Op.shift,Int.not_lt.2 e,Qi]using h)
 .exact h.elim
def ZE{s:Sem Value}(h:Qw P s K U):Qw P (s >>= λ v=>pure (Next.value v)) (ZM S K) U:=by rw[Qc];exact h
def N9{B:Array TypeId}(F:∀x,ρ x=Zc f x)(h:OX S (.call y ω) f K U) :
  Qw P (do let d <- resolve ρ { callee:=.value y,args:=ω,argTypes:=B } t;invoke d.target d.args:Sem Next) (ZM S K) U:=by
 simp only[OX]at h;have H:ω.map ρ=ω.map (Zc f):=by rw[show ρ=Zc f from funext F]
 split at h
 .rename_i g first capt e
  obtain⟨E,h⟩:=h;simp only[Qc,resolve,F,H,e,Deferred.ofValue,Qi,invoke,callFunc,program,Qw];cases G:P.funcs[g]? with
  |none=>simp[G]at E
  |some fd=>
   simp only[G,Option.any_some,Bool.and_eq_true,bne_iff_ne,ne_eq]at E;obtain⟨T,I⟩:=E;have z:fd.body.isNone=false:=by cases L:fd.body <;> simp_all
   have w:(fd.name== "runtime.NumGoroutine")=false:=by simpa using I
   simp only[w,z,Bool.false_eq_true,if_false,Qi,ZM];rw[Wa]at h;have e:(first++Array.map (Zc f) ω)++capt=(first.toList++ω.toList.map (Zc f)++capt.toList).toArray:=by apply Array.ext';simp
   rw[e];exact h.sep λ v U' N M=>⟨U',.refl _,M N⟩
 .rename_i l first capt e
  rw[Wa]at h;simp only[Qc,resolve,F,H,e,Deferred.ofValue,Qi,invoke];have e:first++Array.map (Zc f) ω=(first.toList++ω.toList.map (Zc f)).toArray:=by apply Array.ext';simp
  rw[e];exact h
 .exact h.elim
def HQ(e:η=n)(h:n<=l)(f:φ n U):Qw P (Instr.sliceBound (.int k' η) l code) φ U:=by
 subst e;unfold Instr.sliceBound;rw[Qc];show Qw P (if 0<=(n:Int)/\(n:Int)<=l then pure (n:Int).toNat else boundsPanic k' n l code) φ U;rw[if_pos O1];exact f
def qM(e:H (0,len,cap) U):Qw P (Instr.sliceBounds true len cap none none none) H U:=by
 unfold Instr.sliceBounds;simp only[Qc,Qi];exact e
def qN(e:η=l)(h:l<=len)(f:H (l,len,cap) U):Qw P (Instr.sliceBounds true len cap (some (.int k' η)) none none) H U:=by
 unfold Instr.sliceBounds;simp only[Qc,Qi];exact HQ e h f
def qO(f:η=l)(e:l<=cap)(w:H (0,l,cap) U):Qw P (Instr.sliceBounds true len cap none (some (.int k' η)) none) H U:=by
 unfold Instr.sliceBounds;simp only[Qc,Qi];exact HQ f e w
def qP(B:η=l)(e:θ=n)(w:l<=n)(z:n<=cap)(E:H (l,n,cap) U):Qw P (Instr.sliceBounds true len cap (some (.int Z η)) (some (.int k' θ)) none) H U:=by
 unfold Instr.sliceBounds;simp only[Qc,Qi];exact HQ e z (HQ B w E)
def An(e:Y6 len μ I=some ((l:Int),(n:Int)))(G:l<=n)(H:n<=cap){Q:Nat×Nat×Nat->Qa T->Prop}(B:Q (l,n,cap) U) :
  Qw P (Instr.sliceBounds true len cap μ I none) Q U:=by
 unfold Y6 at e;split at e
 .simp only[Option.some.injEq,Prod.mk.injEq]at e;obtain⟨E,F⟩:=e;have f:l=0:=O1
  have w:n=len:=O1
  subst f;subst w;exact qM B
 .simp only[Option.some.injEq,Prod.mk.injEq]at e;obtain⟨E,F⟩:=e;have w:n=len:=O1
  subst w;exact qN E G B
 .simp only[Option.some.injEq,Prod.mk.injEq]at e;obtain⟨E,F⟩:=e;have f:l=0:=O1
  subst f;exact qO F H B
 .simp only[Option.some.injEq,Prod.mk.injEq]at e;exact qP e.1 e.2 G H B
 .cases e
def Nb(H:P.underlying t=some (.slice e))(G:Jw P e=some n)(h:OX S (.sub3 n x lo B) f K U) :
  Qw P (Instr.sliceAt t (Zc f x) (lo.map (Zc f)) (B.map (Zc f)) none) K U:=by
 obtain⟨I,w,z⟩:∃i,P.info? e=some i/\i.size=n:=by simpa[Jw]using G
 simp only[OX]at h;split at h
 .rename_i sa len cap e1;split at h
  .rename_i li hh hsb;obtain⟨l,L,⟨rfl,rfl,E,F⟩,h⟩:=h;simp only[e1,Instr.sliceAt,Instr.slice,Qc,Zi H];refine An hsb E F ?_;simp only[Ji w,z,Qi];exact h
  .exact h.elim
 .exact h.elim
def qe(F:P.underlying t=some (.slice e))(E:Jw P e=some n)(h:OX S (.idx n x y) f K U):Qw P (Instr.indexAt t (Zc f x) (Zc f y)) K U:=by
 obtain⟨G,z,B⟩:∃y,P.info? e=some y/\y.size=n:=by simpa[Jw]using E
 simp only[OX]at h;split at h
 .rename_i aa len cap k m e1 e2;obtain⟨H,j,⟨rfl,rfl,I⟩,h⟩:=h;have w:(0:Int)<=(j:Int)/\(j:Int)<(len:Int):=O1
  simp only[e1,e2,Instr.indexAt,asIntOf,Qc,Qi,Zi F];rw[if_pos w];simp only[Qc,Ji z,B,Qi,Int.toNat_natCast];exact h
 .exact h.elim
def N8(F:P.underlying t=some (.array len e))(E:Jw P e=some n)(h:OX S (.aidx len n x y) f K U):Qw P (Instr.indexAt t (Zc f x) (Zc f y)) K U:=by
 obtain⟨G,z,B⟩:∃y,P.info? e=some y/\y.size=n:=by simpa[Jw]using E
 simp only[OX]at h;split at h
 .rename_i ad k m e1 e2;obtain⟨j,⟨rfl,H⟩,h⟩:=h;have w:(0:Int)<=(j:Int)/\(j:Int)<(len:Int):=O1
  simp only[e1,e2,Instr.indexAt,asIntOf,Qc,Qi,Zi F,Instr.sureAddr];rw[if_pos w];simp only[Qc,Ji z,B,Qi,Int.toNat_natCast];exact h
 .exact h.elim
def Na(w:P.underlying t=some .string)(h:OX S (.sidx x y) f K U):Qw P (Instr.index t (Zc f x) (Zc f y)) K U:=by
 simp only[OX]at h;split at h
 .rename_i s k n e1 e2;obtain⟨j,b,⟨rfl,e⟩,h⟩:=h;simp only[e1,e2,Instr.index,asIntOf,Qc,Qi,Zi w];rw[if_pos O1,Int.toNat_natCast,e];exact h
 .exact h.elim
def Dg{α β:Type}(g:α->Sem β)(v:α->β):∀(l:List α)(acc:Array β)(Q:Array β->Qa T->Prop)(U:Qa T),(∀a∈l,∀(Q:β->Qa T->Prop)U,Qw P (g a) Q U=Q (v a) U)->Q (acc++(l.map v).toArray) U->Qw P (Xc g l acc) Q U
 |[],acc,Q,U,_,h=>by simpa[Xc,Qi]using h
 |x::l,acc,Q,U,f,h=>by
  simp only[Xc,Qc,f x (mem_cons_self ..)];refine Dg g v l _ Q U (λ a w=>f a (mem_cons_of_mem _ w)) ?_;simp_all
def Ie{f:Array Field}(e:f.toList.all (λ fd=>(Jw P fd.type).isSome)=true)(h:ν (f.map λ fd=>(fd.offset,(Jw P fd.type).getD 0)) U) :
  Qw P (f.mapM λ fd=>do pure (fd.offset,<- sizeOf fd.type)) ν U:=by
 obtain⟨l⟩:=f;rw[O7];refine Dg _ (λ fd=>(fd.offset,(Jw P fd.type).getD 0)) l #[] ν U (λ fd w ν U=>?_) (by simpa using h);have:=all_eq_true.1 e fd w;obtain⟨n,B⟩:=Option.isSome_iff_exists.1 this;obtain⟨F,E,z⟩:∃i,P.info? fd.type=some i/\i.size=n:=by simpa[Jw]using B
 simp only[Qc,Ji E,Qi,B,z,Option.getD_some]
def Eg:∀(vs:List Value)(cells:Array Value)(off j:Nat),(vs.zipIdx j).foldl (λ cs(p:Value×Nat)=>cs.setIfInBounds (off+p.2) p.1) cells=JZ cells off vs j
 |[],_,_,_=>rfl
 |v::r,cells,off,j=>by simp only[zipIdx_cons,foldl_cons,JZ];exact Eg r _ off (j+1)
def O0(place:Nat->Option (Nat×Nat))(f:Fm):∀(parts:List (Nat×Operand))(ps:List (Nat×Nat×Operand))(cells:Array Value),
  parts.mapM (λ p=>(place p.1).map λ q=>(q.1,q.2,p.2))=some ps->Instr.fill place cells (parts.map λ p=>(p.1,Zc f p.2))=PP f cells ps
 |[],ps,cells,h=>by simp at h;subst h;rfl
 |(i,x)::r,ps,cells,h=>by
  simp only[mapM_cons,Option.pure_def,Option.bind_eq_bind,Option.bind_eq_some_iff,Option.map_eq_some_iff]at h;obtain⟨_,⟨⟨off,size⟩,B,rfl⟩,z,w,e⟩:=h;cases e;simp only[map_cons,Instr.fill,B,PP];split
  .rfl
  .rw[<- O0 place f r z _ w];congr 1;rw[<- Eg,<- Array.foldl_toList,Array.toList_zipIdx]
def Ju.cells(h:Ju U W vs)(f:ξ vs.toArray U):Qw P (loadCells W vs.length) ξ U:=
 Sk vs 0 #[] (λ j v e=>by simpa using h j v e) (by simpa using f)
def Ag(cs:Array Value)(off n:Nat):cs.extract off (off+n)=((cs.toList.drop off).take n).toArray:=by
 grind
def Wx(w:∀x,a.eval x=Zc f x)
  (L:∀v U U',Q1 U U'->K v U'->K v U) (h:OX S (Zb P qs o) f K U):QL S o a K U:=by
 obtain⟨dst,op,ty,pos,after,guard⟩:=o
 have raw:∀o:Oper,OX S (.raw (Jg o)) f K U->Qw P (execOp a.eval o) (ZM S K) U:=λ o h=>Qw.mono _ (h a w) λ n U Y=>by
  have Z:∀v(U:Qa T),(∃I,Q1 U I/\K v I)->K v U:=λ v U⟨I,B,Z⟩=>L v U I B Z;cases n <;> first|exact Z _ _ Y|exact Qb.mono Y Z|exact WF.mono Y Z|exact Y
 unfold QL;cases op with
 |move x=>simp only[Zb,OX,Q4]at h;simp only[execOp,w,Qi,ZM];exact h
 |assign x=>simp only[Zb,OX,Q4]at h;simp only[execOp,w,Qi,ZM];exact h
 |pick c x y=>
  simp only[Zb,OX]at h;simp only[execOp,w];split at h
  .rename_i e;rw[Q4]at h;simp only[e,Qc,asBool,Qi,ZM,if_true];exact h
  .rename_i e;rw[Q4]at h;simp only[e,Qc,asBool,Qi,ZM,Bool.false_eq_true,if_false];exact h
  .exact h.elim
 |binOp ak t x y yt=>
  simp only[Zb,DW]at h;simp only[execOp,w];split at h
  .split at h
   .exact ZE (qd h)
   .split at h
    .exact ZE (C_ h)
    .exact ZE (qg h)
    .exact ZE (qf h)
    .exact ZE (qH h)
  .rename_i e;exact ZE (qb e h)
  .split at h
   .exact ZE (Tj h)
   .exact ZE (Tj h)
   .have:=raw _ h;simpa only[execOp,w]using this
  grind[execOp]
 |unOp ag t x=>
  cases ag with
  |not=>
   simp only[Zb,OX]at h;simp only[execOp,w];split at h
   .rename_i e;simp only[e];exact ZE h
   .exact h.elim
  |_=>exact raw _ h
 |call c=>
  obtain⟨callee,args,aj⟩:=c;cases callee with
  |value g=>
   simp only[Zb]at h;split at h
   .exact raw _ h
   .exact N9 w h
  |invoke r al=>exact raw _ h
  |builtin b=>
   cases b with
   |len=>
    simp only[Zb]at h;split at h
    .rename_i x t;split at h
     .rename_i e hu;simp only[OX]at h;split at h
      .rename_i Q;simp only[execOp,Qc,resolve,Qi,invoke,builtin,Builtin.len_];simp only[map_toArray,map_cons,map_nil,w,Q,getElem?_toArray,getElem?_cons_zero,Qc,Zi hu,Qi,ZM,goInt];exact h
      .exact h.elim
     .rename_i hu;simp only[OX]at h;split at h
      .rename_i Q;simp only[execOp,Qc,resolve,Qi,invoke,builtin,Builtin.len_];simp only[map_toArray,map_cons,map_nil,w,Q,getElem?_toArray,getElem?_cons_zero,Qc,Zi hu,Qi,ZM,goInt];exact h
      .exact h.elim
     .rename_i kk ee hu;simp only[OX]at h;split at h
      .rename_i Q;simp only[execOp,Qc,resolve,Qi,invoke,builtin,Builtin.len_];simp only[map_toArray,map_cons,map_nil,w,Q,getElem?_toArray,getElem?_cons_zero,Qc,Zi hu,Qi,ZM,goInt];exact h
      .rename_i r Q;obtain⟨es,aa,hh,h⟩:=h;simp only[execOp,Qc,resolve,Qi,invoke,builtin,Builtin.len_];simp only[map_toArray,map_cons,map_nil,w,Q,getElem?_toArray,getElem?_cons_zero,Qc,Zi hu,getObj];exact⟨_,hh,rfl,rfl,h⟩
      .exact h.elim
     .exact raw _ h
    .exact raw _ h
   |_=>exact raw _ h
 |convert src dt x=>
  simp only[Zb]at h;split at h
  .rename_i k1 k hu hu';simp only[OX]at h;split at h
   .rename_i k2 n e;simp only[execOp,w,e];refine ZE ?_;simp only[convert,Qc,Zi hu,Zi hu',Conv.intToInt,Qi];exact h
   .exact h.elim
  .exact raw _ h
 |fieldAddr s x i=>
  simp only[Zb]at h;split at h
  .rename_i fs hu;split at h
   .rename_i fd hfd;split at h
    .rename_i n B;obtain⟨H,G,E⟩:=Ga B;simp only[OX]at h;split at h
     .rename_i ad e;simp only[execOp,w,e];refine ZE ?_;simp only[Instr.fieldAt,Qc,Zi hu,hfd,Instr.sureAddr,Qi,fieldPlace,Ji G,E];simpa[Qi]using h
     .exact h.elim
    .exact raw _ h
   .exact raw _ h
  .exact raw _ h
 |indexAddr t x i=>
  simp only[Zb]at h;split at h
  .rename_i e hu;split at h
   .rename_i n B;simp only[execOp,w];exact ZE (qe hu B h)
   .exact raw _ h
  .rename_i len e hu;split at h
   .rename_i n B;split at h
    .exact raw _ h
    .simp only[execOp,w];exact ZE (N8 hu B h)
   .exact raw _ h
  .exact raw _ h
 |index t x i=>
  simp only[Zb]at h;split at h
  .rename_i hu;simp only[execOp,w];exact ZE (Na hu h)
  .exact raw _ h
 |load t x=>
  simp only[Zb]at h;split at h
  .rename_i d hu;split at h
   .rename_i hag;split at h
    .rename_i n B;obtain⟨H,G,E⟩:=Ga B;simp only[OX]at h;split at h
     .rename_i ad e;obtain⟨vs,⟨hl,hr⟩,h⟩:=h;simp only[execOp,w,e];refine ZE ?_;simp only[Instr.loadAt,Instr.sureAddr,Qc,Qi,loadVar,Hq hu,hag,if_true,Ji G,E,<- hl];exact hr.cells h
     .exact h.elim
    .exact raw _ h
   .rename_i hag;simp only[OX]at h;split at h
    .rename_i ad e;obtain⟨v,B,h⟩:=h;rw[Q4]at h;simp only[execOp,w,e];refine ZE ?_;simp only[Instr.loadAt,Instr.sureAddr,Qc,Qi,loadVar,Hq hu,hag,Bool.false_eq_true,if_false];exact YV B h
    .exact h.elim
  .exact raw _ h
 |store t x v=>
  simp only[Zb]at h;split at h
  .rename_i n B;obtain⟨H,G,E⟩:=Ga B;simp only[OX]at h;split at h
   .rename_i ad e;obtain⟨Y,h⟩:=h;simp only[execOp,w,e];rw[Qc];simp only[Instr.storeAt,Instr.sureAddr,Qc,Qi,storeVar,Ji G,E,Y,ne_eq,not_true_eq_false,if_false];exact GX _ 0 U (ZG.mono (λ U'⟨I,h1,h2⟩=>L _ _ _ h1 h2) _ _ _ h)
   .exact h.elim
  .exact raw _ h
 |box t x=>
  have key:(∀b,U.free b->K (.pb b) (U.put b (.cells (Zc f x).cells t)))->Qw P (execOp a.eval ⟨dst,.box t x,ty,pos,after,guard⟩) (ZM S K) U:=by
   intro h;simp only[execOp,w];refine ZE ?_;simp only[Instr.box,newVar,Qc];refine Jm λ b X=>?_;simp only[Qi];exact h b X
  simp only[Zb]at h;split at h
  .split at h
   .exact key h
   .exact key λ b X=>L _ _ _ (Wf (U:=U.put b (.cells (Zc f x).cells t)) (b:=b) (o:=.cells (Zc f x).cells t) (M':=U.M) (Perm.refl _)) ((by simpa only[OX,Yg]using h:∀b I,U.le I->Zo I b (Zc f x).cells->K (.pb b) I) b _ (GA X) Zo.new)
  .exact key h
 |alloc t=>
  simp only[Zb]at h;split at h
  .rename_i z hz;obtain⟨H,G,N⟩:=P8 hz;simp only[execOp];refine ZE ?_;simp only[Instr.alloc,newVar,Qc,XC G N];refine Jm λ b X=>?_;simp only[Qi];obtain⟨I,B,h⟩:=h b X;exact L _ _ _ B h
  .exact raw _ h
 |extract x i=>
  simp only[Zb,OX]at h;simp only[execOp,w];refine ZE ?_;split at h
  .rename_i vs e;split at h
   .rename_i v hv;rw[Q4]at h;simp only[e,Instr.extract,hv,Qi];exact h
   .exact h.elim
  .exact h.elim
 |field t x i=>
  simp only[Zb]at h;split at h
  .rename_i fs hu;split at h
   .rename_i fd hfd;split at h
    .rename_i d hd;split at h
     .rename_i hag;split at h
      .rename_i n B;obtain⟨H,G,E⟩:=Ga B;simp only[OX]at h;split at h
       .rename_i cs e;simp only[execOp,w,e];refine ZE ?_;simp only[Instr.field,Qc,Zi hu,hfd,asAgg,Qi,part,Hq hd,hag,if_true,Ji G,E];rw[Ag];exact h
       .exact h.elim
      .exact raw _ h
     .rename_i hag;simp only[OX]at h;split at h
      .rename_i cs e;split at h
       .rename_i v hv;rw[Q4]at h;simp only[execOp,w,e];refine ZE ?_;simp only[Instr.field,Qc,Zi hu,hfd,asAgg,Qi,part,Hq hd,hag,Bool.false_eq_true,if_false,hv];exact h
       .exact h.elim
      .exact h.elim
    .exact raw _ h
   .exact raw _ h
  .exact raw _ h
 |makeFunc fn first ah=>
  simp only[Zb,OX,Wa]at h;have e:a.eval=Zc f:=funext w;simp only[execOp,e];have e1:∀l:Array Operand,l.map (Zc f)=(l.toList.map (Zc f)).toArray:=λ l=>by grind
  rw[e1,e1];exact ZE h
 |nilCheck x=>
  simp only[Zb,OX]at h;simp only[execOp,w];split at h
  .rename_i ad e;simp only[e];exact ZE (s:=pure (.pointer (some ad))) h
  .exact h.elim
 |build t parts=>
  simp only[Zb]at h;split at h
  .rename_i fs z hu hz;split at h
   .rename_i hall;split at h
    .rename_i ps hps;obtain⟨H,G,N⟩:=P8 hz;simp only[OX,HL,Array.toArray_toList]at h;split at h
     .rename_i cells hc;simp only[execOp,w];refine ZE ?_;simp only[Instr.build,Qc,XC G N,Zi hu];refine Ie hall ?_
      have ab:Instr.fill ((fs.map λ fd=>(fd.offset,(Jw P fd.type).getD 0))[·]?) z.cells ((parts.map λ p=>(p.1,Zc f p.2)).toList)=some cells:=by
       rw[<- hc,Array.toList_map];refine O0 _ f parts.toList ps z.cells ?_;rw[<- hps];congr 1;funext p;simp only[Array.getElem?_map];grind
      simp only[ab,Qi];exact h
     .exact h.elim
    .exact raw _ h
   .exact raw _ h
  .exact raw _ h
 |buildSlice t len parts=>
  simp only[Zb]at h;split at h
  .rename_i e hu;split at h
   .rename_i n z B hz;split at h
    .rename_i hle;obtain⟨H,G,N⟩:=P8 hz;obtain⟨ai,ae,E⟩:=Ga B;simp only[OX,HL,Array.toArray_toList]at h;split at h
     .rename_i cells hc
      have ac:Instr.fill (λ i=>some (i*n,n)) (if len*n=0 then #[]else(Array.range (len*n)).map (z.cells[· % z.cells.size]!)) ((parts.map λ p=>(p.1,Zc f p.2)).toList)=some cells:=by
       rw[<- hc,Array.toList_map];refine O0 _ f parts.toList _ _ ?_;generalize parts.toList=l
       induction l with
       |nil=>rfl
       |cons p l ih=>simp_all
      simp only[execOp,w];refine ZE ?_;simp only[Instr.buildSlice,Qc,Zi hu,Ji ae,E];rw[if_neg O1]
      have last:∀(V:String)(F:Array Value),F=(if len*n=0 then #[]else(Array.range (len*n)).map (z.cells[· % z.cells.size]!)) ->
        Qw P (do
         let some cells:=Instr.fill (λ i=>some (i*n,n)) ((Array.range (len*n)).map (λ k=>(if len*n=0 then #[]else z.cells)[k % (if len*n=0 then #[]else z.cells).size]!)) ((parts.map λ p=>(p.1,Zc f p.2)).toList)|stuck V
         pure (.slice (some (<- newRow e cells)) len len):Sem Value) K U:=by
       intro V F _
       have Q:(Array.range (len*n)).map (λ k=>(if len*n=0 then #[]else z.cells)[k % (if len*n=0 then #[]else z.cells).size]!)=(if len*n=0 then #[]else(Array.range (len*n)).map (z.cells[· % z.cells.size]!)):=by
        split
        .rename_i W;simp[W]
        .rfl
       rw[Q,ac];simp only[Qc];refine Jm λ b X=>?_;simp only[Qi];obtain⟨I,af,h⟩:=h b X;exact L _ _ _ af h
      have:=λ V=>last V _ rfl;by_cases W:len*n=0
      .rw[if_pos W];simp only[W,if_true]at this;simp only[W,Qi];exact this _
      .rw[if_neg W];simp only[W,if_false]at this;simp only[Qc,XC G N,Qi];exact this _
     .exact h.elim
    .exact raw _ h
   .exact raw _ h
  .exact raw _ h
 |slice t x lo G mx=>
  cases mx with
  |some _=>exact raw _ h
  |none=>
   simp only[Zb]at h;split at h
   .rename_i e hu;split at h
    .rename_i n B;simp only[execOp,show a.eval=Zc f from funext w];exact ZE (Nb hu B h)
    .exact raw _ h
   .exact raw _ h
 |_=>exact raw _ h
