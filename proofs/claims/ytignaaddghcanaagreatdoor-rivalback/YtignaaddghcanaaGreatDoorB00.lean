/- Lemmas. No conditions. -/
import Derived.Conc.Own
import Derived.Orders
import Derived.KernelRfl
set_option linter.all false
theorem K1{α:Sort _}{a b:α}(h:a=b:=by kernel_rfl):a=b:=h
theorem R1{α:Sort _}{a:α}{p:Prop}(h:p):a=a/\p:=⟨rfl,h⟩
theorem O1{p:Prop}(h:p:=by omega):p:=h
theorem S1{p:Prop}(h:p:=by simp):p:=h
theorem T1{p:Prop}(h:p:=by trivial):p:=h
theorem D1{p:Prop}(h:p:=by decide):p:=h
theorem L1{p:Prop}(h:p:=by show _-_<_-_;omega):p:=h
theorem S2{p:Prop}(h:p:=by simp_all):p:=h
theorem S3{p:Prop}(h:p:=by simp;omega):p:=h
open List
namespace Go
abbrev Value.pb(b:Nat):Value:=.pointer (some ⟨b,0,none⟩)
abbrev Value.nl:Value:=.slice none 0 0
abbrev Gr:=Goroutine
def Value.single:Value->Bool
 |.agg _|.tuple _=>false
 |_=>true
end Go
namespace Go.TM
variable{T α β γ:Type}{ω:Os}{w w':World}{ξ:Loc}{l len n j cap:Nat}{δ ε:Obj}{φ:Event}{V:Addr}{v:Value}{args tmps:Array Value}{t e:TypeId}{P:Program}{m p:Bool}{g g':Gr}{b A:Frame}{a a_0 av ac:Act}{k u:List Item}{cs:List Frame}{c assign as:Code}{ops:Array Oper}{rest todo rl qs ts pre L:List Nat}{o:Oper}{fn:FuncId}{ro:Option Nat}{listed:Array Bool}{I:Nat->Value}{D E:Nat->Prop}{late:Nat->Bool}{fd:Func}{x y:Operand}{params:Array Tmp}{ζ η:Int}{d:TypeDesc}{θ:TypeInfo}{op:BinOp}{W k':IntKind}{π σ:ByteArray}{ψ:Array Operand}{ρ:Operand->Value}{code:BoundsCode}{κ H:Option Value}{lo z:Option Operand}{vs:List Value}
inductive Qw where
 |obj (b:Nat) (o:Obj)
 |cell (b i:Nat) (v:Value) (T:TypeId) (n:Nat)
variable{M M':List Qw}{r s:Qw}
abbrev Qw.cl(b:Nat)(l:List Value)(t:TypeId):Qw:=.obj b (.cells l.toArray t (0,0))
def Qw.blk:Qw->Nat
 |.obj b _=>b
 |.cell b _ _ _ _=>b
def Qw.ok(w:World):Qw->Prop
 |.obj b o=>w.heap[b]?=some o
 |.cell b i v T n=>∃c,w.heap[b]?=some (.cells c T (0,0))/\c.size=n/\c[i]?=some v
def Qw.apart:Qw->Qw->Prop
 |.cell b i _ _ _,.cell c j _ _ _=>b≠c\/i≠j
 |r,s=>r.blk≠s.blk
structure Qa(T:Type) where
 I:Nat->Option Obj
 M:List Qw
 tok:T
variable{U U' U₀:Qa T}{χ:α->Qa T->Prop}{K R':Value->Qa T->Prop}{N:Act->Qa T->Prop}{G:Qa T->Prop}{τ:Addr->Qa T->Prop}{Z:Unit->Qa T->Prop}{υ:Nat->Qa T->Prop}{F:Nat×Nat×Nat->Qa T->Prop}{μ:Array (Nat×Nat)->Qa T->Prop}{ν:Array Value->Qa T->Prop}
structure Qa.ok(U:Qa T)(w:World):Prop where
 imm:∀b o,U.I b=some o->w.heap[b]?=some o
 held:∀r∈U.M,r.ok w
 apart:U.M.Pairwise Qw.apart
 sep:∀r∈U.M,U.I r.blk=none
def Qa.canW(U:Qa T):Loc->Prop
 |.cell a=>(∃c t fr,Qw.obj a.block (.cells c t fr)∈U.M/\a.off<c.size)\/(∃v t n,Qw.cell a.block a.off v t n∈U.M)
 |.obj b=>∃o,Qw.obj b o∈U.M
 |_=>False
def Qa.canR(U:Qa T):Loc->Prop
 |.cell a=>U.canW (.cell a)\/∃c t fr,U.I a.block=some (.cells c t fr)/\a.off<c.size
 |.obj b=>U.canW (.obj b)\/∃o,U.I b=some o
 |_=>False
def Loc.new(w:World):Loc->Prop
 |.cell a=>w.heap.size<=a.block
 |.obj b=>w.heap.size<=b
 |_=>False
def Mark.still:Mark->Bool
 |.acquire _|.release _|.releaseMerge _|.disable|.enable|.read _|.write _=>false
 |_=>true
def JU(U:Qa T)(w:World)(e:Event):Prop:=
 match e.loc with
 |.cell a=>e.sync=false/\(if e.write then U.canW (.cell a)\/Loc.new w (.cell a)else U.canR (.cell a)\/Loc.new w (.cell a))
 |.obj b=>e.sync=false/\(if e.write then U.canW (.obj b)\/Loc.new w (.obj b)else U.canR (.obj b)\/Loc.new w (.obj b))
 |.mark m=>Mark.still m=true
 |_=>False
def JZ(o b:Os):Prop:=∃d:Nat,b={ o with wall:=o.wall+d,mono:=o.mono+d }
def JZ.refl(o:Os):JZ o o:=⟨0,rfl⟩
def JZ.trans{b c:Os}(h:JZ ω b)(k:JZ b c):JZ ω c:=by
 obtain⟨d,rfl⟩:=h;obtain⟨e,rfl⟩:=k;exact⟨d+e,by simp[Nat.add_assoc]⟩
structure ZQ(U:Qa T)(w w':World)(U':Qa T):Prop where
 os:JZ w.os w'.os
 tape:w'.tape=w.tape
 output:w'.output=w.output
 size:w.heap.size<=w'.heap.size
 cells:∀b c t fr,w.heap[b]?=some (.cells c t fr)->∃c' fr',w'.heap[b]?=some (.cells c' t fr')/\c'.size=c.size/\(∀i,¬U.canW (.cell ⟨b,i,none⟩)->c'[i]?=c[i]?)/\(fr'=fr\/(U.canW (.obj b)/\∀i,i<c.size->U.canW (.cell ⟨b,i,none⟩)))
 objs:∀b o,w.heap[b]?=some o->(∀c t fr,o≠.cells c t fr)->¬U.canW (.obj b)->w'.heap[b]?=some o
 cw:∀l,U'.canW l->U.canW l\/Loc.new w l
 cr:∀l,U'.canR l->U.canR l\/Loc.new w l
def ZQ.refl(U:Qa T)(w:World):ZQ U w w U:=
 ⟨.refl _,rfl,rfl,Nat.le_refl _,λ _ c _ fr h=>⟨c,fr,h,rfl,λ _ _=>rfl,.inl rfl⟩,λ _ _ h _ _=>h,λ _ h=>.inl h,λ _ h=>.inl h⟩
def Loc.new_mono(h:w.heap.size<=w'.heap.size)(b:Loc.new w' ξ):Loc.new w ξ:=by
 cases ξ <;> simp_all[Loc.new] <;> omega
def Dr(h:w.heap[l]?=some δ)(i:Nat):¬Loc.new w (.cell ⟨l,i,none⟩):=by
 have:=(Array.getElem?_eq_some_iff.1 h).1;simp[Loc.new];omega
def Dw(h:w.heap[l]?=some δ):¬Loc.new w (.obj l):=by
 have:=(Array.getElem?_eq_some_iff.1 h).1;simp[Loc.new];omega
def ZQ.trans{U U1 U2:Qa T}{w L N:World}(h:ZQ U w L U1)(k:ZQ U1 L N U2):ZQ U w N U2:=by
 refine⟨h.os.trans k.os,k.tape.trans h.tape,k.output.trans h.output,Nat.le_trans h.size k.size,?_,?_,?_,?_⟩
 .intro b c t fr hb;obtain⟨Q,V,F,E,G,H⟩:=h.cells b c t fr hb;obtain⟨S,W,X,K,Y,I⟩:=k.cells b Q t V F;refine⟨S,W,X,K.trans E,λ i P=>?_,?_⟩
  .rw[Y i λ f=>?_,G i P];rcases h.cw _ f with f|f
   .exact P f
   .exact Dr hb i f
  .rcases I with rfl|⟨ho,P⟩
   .exact H
   .refine .inr ⟨?_,λ i Z=>?_⟩
    .rcases h.cw _ ho with f|f
     .exact f
     .exact absurd f (Dw hb)
    .rcases h.cw _ (P i (by rw[E];exact Z))with f|f
     .exact f
     .exact absurd f (Dr hb i)
 .intro b o hb hne f;have F:=h.objs b o hb hne f;refine k.objs b o F hne λ B=>?_;rcases h.cw _ B with B|B
  .exact f B
  .exact Dw hb B
 .intro l z;rcases k.cw l z with z|z
  .exact h.cw l z
  .exact .inr (Loc.new_mono h.size z)
 .intro l z;rcases k.cr l z with z|z
  .exact h.cr l z
  .exact .inr (Loc.new_mono h.size z)
def JU.of{F:Qa T}(h:ZQ U w w' F)(z:JU F w' φ):JU U w φ:=by
 obtain⟨loc,wr,G⟩:=φ;cases loc with
 |cell a=>
  simp only[JU]at z ⊢;refine⟨z.1,?_⟩;have f:=z.2;split at f <;> rename_i B <;> simp only[B,if_true,if_false,Bool.false_eq_true]
  .rcases f with f|f
   .exact h.cw _ f
   .exact .inr (Loc.new_mono h.size f)
  .rcases f with f|f
   .exact h.cr _ f
   .exact .inr (Loc.new_mono h.size f)
 |obj b=>
  simp only[JU]at z ⊢;refine⟨z.1,?_⟩;have f:=z.2;split at f <;> rename_i B <;> simp only[B,if_true,if_false,Bool.false_eq_true]
  .rcases f with f|f
   .exact h.cw _ f
   .exact .inr (Loc.new_mono h.size f)
  .rcases f with f|f
   .exact h.cr _ f
   .exact .inr (Loc.new_mono h.size f)
 |output=>exact z
 |goroutines=>exact z
 |mark m=>exact z
def Qa.sees(U:Qa T)(a:Addr)(v:Value):Prop:=
 a.spot=none/\((∃c t fr,(U.I a.block=some (.cells c t fr)\/Qw.obj a.block (.cells c t fr)∈U.M)/\c[a.off]?=some v)\/(∃t n,Qw.cell a.block a.off v t n∈U.M))
def Qa.has(U:Qa T)(b:Nat)(o:Obj):Prop:=U.I b=some o\/Qw.obj b o∈U.M
inductive XD(a:Addr)(v:Value):List Qw->List Qw->Prop
 |obj {a1 a4 i}:a.spot=none->a.off<a1.size->XD a v (.obj a.block (.cells a1 a4 (0,0))::i) (.obj a.block (.cells (a1.setIfInBounds a.off v) a4 (0,0))::i)
 |cell {a5 a4 a2 i}:a.spot=none->XD a v (.cell a.block a.off a5 a4 a2::i) (.cell a.block a.off v a4 a2::i)
 |there {a3 i a0}:XD a v i a0->XD a v (a3::i) (a3::a0)
inductive J1(b:Nat)(o':Obj):Obj->List Qw->List Qw->Prop
 |here {a1 i}:J1 b o' a1 (.obj b a1::i) (.obj b o'::i)
 |there {a1 a2 i a0}:J1 b o' a1 i a0->J1 b o' a1 (a2::i) (a2::a0)
def Obj.shapeOf:Obj->Option (TypeId×Nat)
 |.cells c t _=>some (t,c.size)
 |_=>none
def Obj.isCells:Obj->Bool
 |.cells ..=>true
 |_=>false
def Qa.put(U:Qa T)(b:Nat)(o:Obj):Qa T:={ U with M:=.obj b o::U.M }
def Qa.free(U:Qa T)(b:Nat):Prop:=U.I b=none/\∀r∈U.M,r.blk≠b
def Qq(P:Program){α:Type}:Sem α->(α->Qa T->Prop)->Qa T->Prop
 |.pure a,Q,U=>Q a U
 |.load m a k,Q,U=>m=.plain/\∃v,U.sees a v/\Qq P (k v) Q U
 |.store m a v k,Q,U=>m=.plain/\v.single=true/\∃M',XD a v U.M M'/\Qq P k Q { U with M:=M' }
 |.new o k,Q,U=>∀b,U.free b->Qq P (k b) Q (U.put b o)
 |.shape r k,Q,U=>∃o,U.has r o/\Qq P (k (Obj.shapeOf o)) Q U
 |.freeze a n k,Q,U=>n≠0/\∃c t M',U.M=.obj a.block (.cells c t (0,0))::M'/\Qq P k Q { U with M:=.obj a.block (.cells c t (a.off,a.off+n))::M' }
 |.frozen a k,Q,U=>∃c t,U.has a.block (.cells c t (0,0))/\Qq P (k false) Q U
 |.getObj r k,Q,U=>∃o,U.has r o/\Obj.isCells o=false/\o.isChan=false/\Qq P (k o) Q U
 |.setObj r o k,Q,U=>∃f M',J1 r o f U.M M'/\Obj.isCells f=false/\Obj.isCells o=false/\o.isChan=false/\Qq P k Q { U with M:=M' }
 |.choose q k,Q,U=>if q.forced then Qq P (k 0) Q U else ∀t,Qq P (k (q.cut t)) Q U
 |.sys _ _,_,_=>False
 |.program k,Q,U=>Qq P (k P) Q U
 |.mark m k,Q,U=>Mark.still m=true/\Qq P k Q U
 |.halt _,_,_=>False
def Qa.sees_cell(h:U.ok w)(E:U.sees V v):w.cell? V=some v/\U.canR (.cell V):=by
 obtain⟨f,⟨c,t,fr,b,z⟩|⟨t,n,B⟩⟩:=E
 .have hlt:V.off<c.size:=(Array.getElem?_eq_some_iff.1 z).1;rcases b with b|b
  .exact⟨by simp[World.cell?,h.imm _ _ b,f,z],.inr ⟨c,t,fr,b,hlt⟩⟩
  .have:=h.held _ b;simp only[Qw.ok]at this;exact⟨by simp[World.cell?,this,f,z],.inl (.inl ⟨c,t,fr,b,hlt⟩)⟩
 .obtain⟨c,b,_,z⟩:=h.held _ B;exact⟨by simp[World.cell?,b,f,z],.inl (.inr ⟨v,t,n,B⟩)⟩
def Qa.has_heap(h:U.ok w)(f:U.has l δ):w.heap[l]?=some δ:=by
 rcases f with f|f
 .exact h.imm _ _ f
 .exact h.held _ f
def zM(w:World)(a:Addr)(v:Value)(c:Array Value)(t:TypeId)(fr:Nat×Nat)(b:a.spot=none)(h:w.heap[a.block]?=some (.cells c t fr)) :
  (w.setCell a v).heap[a.block]?=some (.cells (c.setIfInBounds a.off v) t fr):=by
 simp[World.setCell,Array.getElem?_modify,h,b]
def Ws(w:World)(a:Addr)(v:Value)(h:l≠a.block):(w.setCell a v).heap[l]?=w.heap[l]?:=by
 simp only[World.setCell,Array.getElem?_modify];rw[if_neg (λ e=>h e.symm)]
def zN(w:World)(a:Addr)(v:Value):(w.setCell a v).heap.size=w.heap.size:=by simp[World.setCell]
inductive WH(a:Addr)(v:Value):Qw->Qw->Prop
 |obj {a0 a1 a3}:a0=a.block->a.spot=none->a.off<a1.size->WH a v (.obj a0 (.cells a1 a3 (0,0))) (.obj a0 (.cells (a1.setIfInBounds a.off v) a3 (0,0)))
 |cell {a0 i a4 a3 a2}:a0=a.block->i=a.off->a.spot=none->WH a v (.cell a0 i a4 a3 a2) (.cell a0 i v a3 a2)
def XD.split(h:XD V v M M'):∃M₁ r f M₂,M=M₁++r::M₂/\M'=M₁++f::M₂/\WH V v r f:=by
 induction h with
 |obj b w=>exact⟨[],_,_,_,rfl,rfl,.obj rfl b w⟩
 |cell b=>exact⟨[],_,_,_,rfl,rfl,.cell rfl rfl b⟩
 |there _ B=>obtain⟨M₁,r,f,M₂,rfl,rfl,z⟩:=B;exact⟨_::M₁,r,f,M₂,rfl,rfl,z⟩
def J1.split(h:J1 l δ ε M M'):∃M₁ M₂,M=M₁++.obj l ε::M₂/\M'=M₁++.obj l δ::M₂:=by
 induction h with
 |here=>exact⟨[],_,rfl,rfl⟩
 |there _ w=>obtain⟨M₁,M₂,rfl,rfl⟩:=w;exact⟨_::M₁,M₂,rfl,rfl⟩
def WH.blk{a:Addr}{v:Value}{r s:Qw}(h:WH a v r s):s.blk=r.blk:=by cases h <;> rfl
def WH.blk'(h:WH V v r s):r.blk=V.block:=by cases h <;> simp_all[Qw.blk]
def WH.apart{a:Addr}{v:Value}{r s:Qw}(h:WH a v r s)(x:Qw):s.apart x↔r.apart x:=by
 cases h <;> cases x <;> simp[Qw.apart,Qw.blk]
def Qw.apart_symm(h:r.apart s):s.apart r:=by
 cases r <;> cases s <;> simp_all[Qw.apart,Qw.blk,eq_comm]
def WH.apart'(h:WH V v r s)(x:Qw):x.apart s↔x.apart r:=
 ⟨λ k=>Qw.apart_symm ((h.apart x).1 (Qw.apart_symm k)),λ k=>Qw.apart_symm ((h.apart x).2 (Qw.apart_symm k))⟩
def Qw.lets:Qw->Loc->Prop
 |.obj b (.cells c _ _),.cell a=>a.block=b/\a.off<c.size
 |.cell b i _ _ _,.cell a=>a.block=b/\a.off=i
 |.obj b _,.obj f=>f=b
 |_,_=>False
def Q4{l:Loc}:U.canW l↔∃r∈U.M,r.lets l:=by
 cases l with
 |cell a=>
  simp only[Qa.canW];constructor
  .rintro(⟨c,t,fr,hm,f⟩|⟨v,t,n,hm⟩)
   .exact⟨_,hm,rfl,f⟩
   .exact⟨_,hm,rfl,rfl⟩
  .rintro⟨r,hr,hl⟩;cases r with
   |obj b o=>
    cases o <;> simp only[Qw.lets]at hl;obtain⟨rfl,f⟩:=hl;exact .inl ⟨_,_,_,hr,f⟩
   |cell b i v t n=>
    simp only[Qw.lets]at hl;obtain⟨rfl,rfl⟩:=hl;exact .inr ⟨_,_,_,hr⟩
 |obj b=>
  simp only[Qa.canW];constructor
  .rintro⟨o,h⟩;exact⟨_,h,by cases o <;> rfl⟩
  .rintro⟨r,hr,hl⟩;cases r with
   |obj w o=>refine⟨o,?_⟩;cases o <;> (simp only[Qw.lets]at hl;exact hl▸hr)
   |cell w i v t n=>exact hl.elim
 |output=>simp[Qa.canW];intro r _ h;cases r with|obj b o=>cases o <;> exact h|cell=>exact h
 |goroutines=>simp[Qa.canW];intro r _ h;cases r with|obj b o=>cases o <;> exact h|cell=>exact h
 |mark _=>simp[Qa.canW];intro r _ h;cases r with|obj b o=>cases o <;> exact h|cell=>exact h
def WH.lets{a:Addr}{v:Value}{r s:Qw}(h:WH a v r s)(l:Loc):s.lets l↔r.lets l:=by
 cases h <;> cases l <;> simp[Qw.lets]
def WH.canAt(h:WH V v r s):r.lets (.cell V):=by
 cases h <;> simp_all[Qw.lets]
def Qx:U.canR ξ↔(∃r∈U.M,r.lets ξ)\/(match ξ with|.cell a=>∃c t fr,U.I a.block=some (.cells c t fr)/\a.off<c.size|.obj b=>∃o,U.I b=some o|_=>False):=by
 have:=Q4 (U:=U) (l:=ξ);cases ξ <;> simp only[Qa.canR,<- this] <;> simp[Qa.canW]
def zY(h:U.ok w){a:Addr}(hu:XD a v U.M M') :
  (∃u,w.cell? a=some u)/\w.frozen? a=false/\U.canW (.cell a)/\Qa.ok { U with M:=M' } (w.setCell a v)/\ZQ U w (w.setCell a v) { U with M:=M' }:=by
 obtain⟨M₁,r,r',M₂,Q,rfl,F⟩:=hu.split;have W:r∈U.M:=by rw[Q];simp
 have aa:U.canW (.cell a):=Q4.2 ⟨r,W,F.canAt⟩;have L:=h.held r W;have X:a.spot=none:=by cases F <;> assumption
 obtain⟨c,t,H,P⟩:∃c t,w.heap[a.block]?=some (.cells c t (0,0))/\a.off<c.size:=by
  cases F with
  |obj e _ P=>subst e;exact⟨_,_,L,P⟩
  |cell e e' _=>subst e;subst e';obtain⟨c,H,_,hc⟩:=L;exact⟨c,_,H,(Array.getElem?_eq_some_iff.1 hc).1⟩
 have G:=zM w a v c t (0,0) X H
 have K:∀l,(∃s∈M₁++r'::M₂,s.lets l)↔∃s∈U.M,s.lets l:=by
  intro l;rw[Q];simp only[mem_append,mem_cons];constructor
  .rintro⟨s,z|rfl|z,hl'⟩
   .exact⟨s,.inl z,hl'⟩
   .exact⟨r,.inr (.inl rfl),(F.lets l).1 hl'⟩
   .exact⟨s,.inr (.inr z),hl'⟩
  .rintro⟨s,z|rfl|z,hl'⟩
   .exact⟨s,.inl z,hl'⟩
   .exact⟨r',.inr (.inl rfl),(F.lets l).2 hl'⟩
   .exact⟨s,.inr (.inr z),hl'⟩
 have f:=h.apart;rw[Q]at f;refine⟨⟨c[a.off],by simp[World.cell?,H,X,P]⟩,by simp[World.frozen?,H],aa,⟨?_,?_,?_,?_⟩,?_⟩
 .intro b o hI
  have B:b≠a.block:=by
   intro e;have:=h.sep r W;rw[F.blk',<- e,hI]at this;cases this
  rw[Ws _ _ _ B];exact h.imm b o hI
 .intro s z;simp only[mem_append,mem_cons]at z
  have N:∀s,s∈U.M->r.apart s->s.ok (w.setCell a v):=by
   intro s z f;have V:=h.held s z;cases s with
   |obj b o=>
    have B:b≠a.block:=by
     cases F <;> simp_all[Qw.apart,Qw.blk] <;> exact λ e=>f e.symm
    simp only[Qw.ok]at V ⊢;rw[Ws _ _ _ B];exact V
   |cell b i u t' n=>
    obtain⟨Y,E,Z,S⟩:=V;by_cases B:b=a.block
    .subst B;cases F with
     |obj e _ _=>exact absurd e.symm (by simpa[Qw.apart,Qw.blk]using λ e=>f e.symm)
     |cell e e' _=>
      have hi:i≠a.off:=by
       simp[Qw.apart]at f;rcases f with f|f
       .exact absurd e f
       .exact λ x=>f (e'.trans x.symm)
      rw[H]at E;cases E;refine⟨c.setIfInBounds a.off v,G,by simpa using Z,?_⟩;rw[Array.getElem?_setIfInBounds_ne (λ x=>hi x.symm)];exact S
    .exact⟨Y,by rw[Ws _ _ _ B];exact E,Z,S⟩
  rw[pairwise_append,pairwise_cons]at f;rcases z with z|rfl|z
  .exact N s (by rw[Q];simp[z]) (Qw.apart_symm (f.2.2 s z r S1))
  .cases F with
   |obj e _ _=>subst e;simp only[Qw.ok]at L ⊢;rw[L]at H;cases H;exact G
   |cell e e' _=>
    subst e;subst e';obtain⟨Y,E,Z,S⟩:=L;rw[H]at E;cases E;exact⟨_,G,by simpa using Z,by rw[Array.getElem?_setIfInBounds_self_of_lt P]⟩
  .exact N s (by rw[Q];simp[z]) (f.2.1.1 s z)
 .show Pairwise Qw.apart (M₁++r'::M₂);rw[pairwise_append,pairwise_cons]at f ⊢;refine⟨f.1,⟨λ s z=>(F.apart s).2 (f.2.1.1 s z),f.2.1.2⟩,λ s z x hx=>?_⟩;rcases mem_cons.1 hx with rfl|hx
  .exact(F.apart' s).2 (f.2.2 s z r S1)
  .exact f.2.2 s z x (by simp[hx])
 .intro s z;show U.I s.blk=none;simp only[mem_append,mem_cons]at z;rcases z with z|rfl|z
  .exact h.sep s (by rw[Q];simp[z])
  .rw[F.blk];exact h.sep r W
  .exact h.sep s (by rw[Q];simp[z])
 .refine⟨.refl _,rfl,rfl,by rw[zN];exact Nat.le_refl _,?_,?_,?_,?_⟩
  .intro b Y t' fr E;by_cases B:b=a.block
   .subst B;rw[H]at E;cases E;refine⟨_,_,G,S1,λ i hi=>?_,.inl rfl⟩;rw[Array.getElem?_setIfInBounds_ne];rintro rfl;refine hi (Q4.2 ⟨r,W,?_⟩);have:=F.canAt;cases F <;> simp_all[Qw.lets]
   .exact⟨Y,fr,by rw[Ws _ _ _ B];exact E,rfl,λ _ _=>rfl,.inl rfl⟩
  .intro b o ho B _;by_cases e:b=a.block
   .subst e;rw[H]at ho;cases ho;exact absurd rfl (B _ _ _)
   .rw[Ws _ _ _ e];exact ho
  .intro l hl';rw[Q4]at hl' ⊢;exact .inl ((K l).1 hl')
  .intro l hl';rw[Qx]at hl' ⊢;exact .inl (hl'.imp (K l).1 id)
def World.plus(w:World)(o:Obj):World:={ w with heap:=w.heap.push o }
def kX(h:U.ok w)(o:Obj) :
  U.free w.heap.size/\Qa.ok (U.put w.heap.size o) (World.plus w o)/\ZQ U w (World.plus w o) (U.put w.heap.size o):=by
 have z:∀b,b<w.heap.size->(World.plus w o).heap[b]?=w.heap[b]?:=λ b F=>by
  simp only[World.plus,Array.getElem?_push];rw[if_neg O1]
 have G:∀r∈U.M,r.blk<w.heap.size:=by
  intro r f;have:=h.held r f;cases r with
  |obj b o=>exact(Array.getElem?_eq_some_iff.1 this).1
  |cell b i v t n=>obtain⟨c,F,_⟩:=this;exact(Array.getElem?_eq_some_iff.1 F).1
 have B:U.free w.heap.size:=by
  refine⟨?_,λ r f e=>by have:=G r f;omega⟩;cases e:U.I w.heap.size with
  |none=>rfl
  |some x=>have:=(Array.getElem?_eq_some_iff.1 (h.imm _ _ e)).1;omega
 have K:∀b H,U.I b=some H->b<w.heap.size:=λ b H e=>(Array.getElem?_eq_some_iff.1 (h.imm _ _ e)).1;refine⟨B,⟨λ b H e=>by rw[z _ (K b H e)];exact h.imm b H e,?_,?_,?_⟩,?_⟩
 .intro r f;rcases mem_cons.1 f with rfl|f
  .simp[Qw.ok,World.plus]
  .have:=h.held r f;cases r with
   |obj b H=>exact(z b (G _ f)).trans this
   |cell b i v t n=>obtain⟨c,F,x⟩:=this;exact⟨c,(z b (G _ f)).trans F,x⟩
 .refine pairwise_cons.2 ⟨λ r f=>?_,h.apart⟩;have:=G r f;cases r <;> simp_all[Qw.apart,Qw.blk] <;> omega
 .intro r f;rcases mem_cons.1 f with rfl|f
  .exact B.1
  .exact h.sep r f
 .refine⟨.refl _,rfl,rfl,by simp[World.plus],?_,?_,?_,?_⟩
  .intro b c t fr F;exact⟨c,fr,by rw[z _ (Array.getElem?_eq_some_iff.1 F).1];exact F,rfl,λ _ _=>rfl,.inl rfl⟩
  .intro b H F _ _;rw[z _ (Array.getElem?_eq_some_iff.1 F).1];exact F
  .intro l E;rw[Q4]at E ⊢;obtain⟨r,f,E⟩:=E;rcases mem_cons.1 f with rfl|f
   .refine .inr ?_;cases l <;> cases o <;> simp_all[Qw.lets,Loc.new]
   .exact .inl ⟨r,f,E⟩
  .intro l E;rw[Qx]at E ⊢;rcases E with⟨r,f,E⟩|E
   .rcases mem_cons.1 f with rfl|f
    .refine .inr ?_;cases l <;> cases o <;> simp_all[Qw.lets,Loc.new]
    .exact .inl (.inl ⟨r,f,E⟩)
   .exact .inl (.inr E)
def wP(h:U.ok w)(hu:J1 len δ ε U.M M')(h1:Obj.isCells ε=false)(h2:Obj.isCells δ=false) :
  w.heap[len]?=some ε/\U.canW (.obj len)/\Qa.ok { U with M:=M' } { w with heap:=w.heap.setIfInBounds len δ }/\ZQ U w { w with heap:=w.heap.setIfInBounds len δ } { U with M:=M' }:=by
 obtain⟨M₁,M₂,N,rfl⟩:=hu.split;have W:Qw.obj len ε∈U.M:=by rw[N];simp
 have Y:w.heap[len]?=some ε:=h.held _ W;have aa:=(Array.getElem?_eq_some_iff.1 Y).1;have Q:U.canW (.obj len):=⟨ε,W⟩;have f:=h.apart;rw[N]at f
 have B:∀x,x≠len->(w.heap.setIfInBounds len δ)[x]?=w.heap[x]?:=λ x V=>by
  rw[Array.getElem?_setIfInBounds_ne (λ e=>V e.symm)]
 have H:∀l,(Qw.obj len δ).lets l↔(Qw.obj len ε).lets l:=by
  intro l;cases ε <;> cases δ <;> simp_all[Obj.isCells] <;> cases l <;> simp[Qw.lets]
 have L:∀l,(∃s∈M₁++Qw.obj len δ::M₂,s.lets l)↔∃s∈U.M,s.lets l:=by
  intro l;rw[N];simp only[mem_append,mem_cons];constructor
  .rintro⟨s,z|rfl|z,hl'⟩
   .exact⟨s,.inl z,hl'⟩
   .exact⟨_,.inr (.inl rfl),(H l).1 hl'⟩
   .exact⟨s,.inr (.inr z),hl'⟩
  .rintro⟨s,z|rfl|z,hl'⟩
   .exact⟨s,.inl z,hl'⟩
   .exact⟨_,.inr (.inl rfl),(H l).2 hl'⟩
   .exact⟨s,.inr (.inr z),hl'⟩
 have P:∀x,(Qw.obj len δ).apart x↔(Qw.obj len ε).apart x:=λ x=>by cases x <;> simp[Qw.apart,Qw.blk]
 refine⟨Y,Q,⟨?_,?_,?_,?_⟩,?_⟩
 .intro x ox hI;have F:x≠len:=by rintro rfl;have:=h.sep _ W;simp only[Qw.blk]at this;rw[hI]at this;cases this
  show(w.heap.setIfInBounds len δ)[x]?=_;rw[B x F];exact h.imm x ox hI
 .intro s z
  have K:∀s,s∈U.M->(Qw.obj len ε).apart s->s.ok { w with heap:=w.heap.setIfInBounds len δ }:=by
   intro s z f;have S:=h.held s z;cases s with
   |obj x ox=>
    have F:x≠len:=by simp[Qw.apart,Qw.blk]at f;exact λ e=>f e.symm
    show(w.heap.setIfInBounds len δ)[x]?=_;rw[B x F];exact S
   |cell x i u t n=>
    have F:x≠len:=by simp[Qw.apart,Qw.blk]at f;exact λ e=>f e.symm
    obtain⟨X,G,hn,Z⟩:=S;exact⟨X,(B x F).trans G,hn,Z⟩
  simp only[mem_append,mem_cons]at z;rw[pairwise_append,pairwise_cons]at f;rcases z with z|rfl|z
  .exact K s (by rw[N];simp[z]) (Qw.apart_symm (f.2.2 s z _ S1))
  .show(w.heap.setIfInBounds len δ)[len]?=_;rw[Array.getElem?_setIfInBounds_self_of_lt aa]
  .exact K s (by rw[N];simp[z]) (f.2.1.1 s z)
 .show Pairwise Qw.apart (M₁++Qw.obj len δ::M₂);rw[pairwise_append,pairwise_cons]at f ⊢;refine⟨f.1,⟨λ s z=>(P s).2 (f.2.1.1 s z),f.2.1.2⟩,λ s z x V=>?_⟩;rcases mem_cons.1 V with rfl|V
  .exact Qw.apart_symm ((P s).2 (Qw.apart_symm (f.2.2 s z _ S1)))
  .exact f.2.2 s z x (by simp[V])
 .intro s z;show U.I s.blk=none;simp only[mem_append,mem_cons]at z;rcases z with z|rfl|z
  .exact h.sep s (by rw[N];simp[z])
  .exact(h.sep _ W:U.I len=none)
  .exact h.sep s (by rw[N];simp[z])
 .refine⟨.refl _,rfl,rfl,S1,?_,?_,?_,?_⟩
  .intro x X t' fr G;by_cases e:x=len
   .subst e;rw[Y]at G;cases G;simp[Obj.isCells]at h1
   .exact⟨X,fr,(B x e).trans G,rfl,λ _ _=>rfl,.inl rfl⟩
  .intro x ox ho F hw;by_cases e:x=len
   .subst e;exact absurd Q hw
   .exact(B x e).trans ho
  .intro l hl';rw[Q4]at hl' ⊢;exact .inl ((L l).1 hl')
  .intro l hl';rw[Qx]at hl' ⊢;exact .inl (hl'.imp (L l).1 id)
def Eb(w:World)(a:Addr)(n:Nat)(b:n≠0)(c:Array Value)(t:TypeId)(h:w.heap[a.block]?=some (.cells c t (0,0))):(w.freeze a n).heap[a.block]?=some (.cells c t (a.off,a.off+n)):=by
 simp[World.freeze,b,Array.getElem?_modify,h]
def W0(w:World)(a:Addr)(n:Nat)(h:l≠a.block):(w.freeze a n).heap[l]?=w.heap[l]?:=by
 unfold World.freeze;split
 .rfl
 .simp only[Array.getElem?_modify];rw[if_neg (λ e=>h e.symm)]
def MT(w:World)(a:Addr)(n:Nat):(w.freeze a n).heap.size=w.heap.size:=by unfold World.freeze;split <;> simp
def Oj(w:World)(a:Addr)(n:Nat):(w.freeze a n).os=w.os/\(w.freeze a n).tape=w.tape/\(w.freeze a n).output=w.output:=by unfold World.freeze;split <;> exact⟨rfl,rfl,rfl⟩
def wO(h:U.ok w){a:Addr}(Q:n≠0)(G:U.M=.obj a.block (.cells args t (0,0))::M') :
  Qa.ok { U with M:=.obj a.block (.cells args t (a.off,a.off+n))::M' } (w.freeze a n)/\ZQ U w (w.freeze a n) { U with M:=.obj a.block (.cells args t (a.off,a.off+n))::M' }:=by
 have H:Qw.obj a.block (.cells args t (0,0))∈U.M:=by rw[G];simp
 have L:w.heap[a.block]?=some (.cells args t (0,0)):=h.held _ H;have E:=h.apart;rw[G,pairwise_cons]at E;have z:∀l,(Qw.obj a.block (.cells args t (a.off,a.off+n))).lets l↔(Qw.obj a.block (.cells args t (0,0))).lets l:=λ l=>by cases l <;> rfl
 have B:∀l,(∃s∈Qw.obj a.block (.cells args t (a.off,a.off+n))::M',s.lets l)↔∃s∈U.M,s.lets l:=by
  intro l;rw[G];constructor
  .rintro⟨s,f,hl⟩;rcases mem_cons.1 f with rfl|f
   .exact⟨_,mem_cons_self ..,(z l).1 hl⟩
   .exact⟨s,mem_cons_of_mem _ f,hl⟩
  .rintro⟨s,f,hl⟩;rcases mem_cons.1 f with rfl|f
   .exact⟨_,mem_cons_self ..,(z l).2 hl⟩
   .exact⟨s,mem_cons_of_mem _ f,hl⟩
 have ne:∀r∈M',r.blk≠a.block:=λ r F e=>by
  have:=E.1 r F;cases r <;> simp_all[Qw.apart,Qw.blk]
 refine⟨⟨λ b o P=>?_,λ s f=>?_,?_,λ s f=>?_⟩,?_⟩
 .have:b≠a.block:=by rintro rfl;have:=h.sep _ H;simp only[Qw.blk]at this;rw[P]at this;cases this
  rw[W0 _ _ _ this];exact h.imm b o P
 .rcases mem_cons.1 f with rfl|f
  .exact Eb w a n Q args t L
  .have hne:=ne s f;have K:=h.held s (by rw[G];simp[f]);cases s with
   |obj b o=>exact(W0 w a n hne).trans K
   |cell b i v t n'=>obtain⟨N,S,V⟩:=K;exact⟨N,(W0 w a n hne).trans S,V⟩
 .show Pairwise Qw.apart (_::M');rw[pairwise_cons];refine⟨λ r F=>?_,E.2⟩;have:=ne r F;cases r <;> simp_all[Qw.apart,Qw.blk] <;> exact λ e=>this e.symm
 .rcases mem_cons.1 f with rfl|f
  .exact(h.sep _ H:U.I a.block=none)
  .exact h.sep s (by rw[G];simp[f])
 .refine⟨by rw[(Oj w a n).1];exact .refl _,(Oj w a n).2.1,(Oj w a n).2.2,by rw[MT];exact Nat.le_refl _,?_,?_,?_,?_⟩
  .intro b N t' fr hb';by_cases e:b=a.block
   .subst e;rw[L]at hb';cases hb';exact⟨args,_,Eb w a n Q args t L,rfl,λ _ _=>rfl,.inr ⟨Q4.2 ⟨_,H,rfl⟩,λ i W=>Q4.2 ⟨_,H,rfl,W⟩⟩⟩
   .exact⟨N,fr,by rw[W0 _ _ _ e];exact hb',rfl,λ _ _=>rfl,.inl rfl⟩
  .intro b o ho hne _;by_cases e:b=a.block
   .subst e;rw[L]at ho;cases ho;exact absurd rfl (hne _ _ _)
   .rw[W0 _ _ _ e];exact ho
  .intro l hl;rw[Q4]at hl ⊢;exact .inl ((B l).1 hl)
  .intro l hl;rw[Qx]at hl ⊢;exact .inl (hl.imp (B l).1 id)
def D7(h:U.ok w)(d:Nat):U.ok { w with drawn:=d }:=⟨h.imm,h.held,h.apart,h.sep⟩
def YQ(U:Qa T)(w:World)(d:Nat):ZQ U w { w with drawn:=d } U:=
 ⟨.refl _,rfl,rfl,Nat.le_refl _,λ _ c _ fr h=>⟨c,fr,h,rfl,λ _ _=>rfl,.inl rfl⟩,λ _ _ h _ _=>h,λ _ h=>.inl h,λ _ h=>.inl h⟩
def XR(w:World)(e:Event):Prop:=
 match e.loc with
 |.cell a=>a.block<w.heap.size
 |.obj b=>b<w.heap.size
 |_=>True
def XR.mono(h:XR w φ)(b:w.heap.size<=w'.heap.size):XR w' φ:=by
 obtain⟨loc,wr,f⟩:=φ;cases loc <;> simp only[XR]at h ⊢ <;> omega
def IQ(h:w.cell? V=some v):V.block<w.heap.size:=by
 apply Classical.byContradiction;intro b;have:w.heap[V.block]?=none:=Array.getElem?_eq_none (Nat.le_of_not_lt b);simp[World.cell?,this]at h
def Qq.sound(s:Sem α):∀{Q:α->Qa T->Prop}{U:Qa T}{w:World}{es₀:Array Event},Qq P s Q U->U.ok w ->
  ∃a w' es U',s.runT P w es₀=(.ok a w',es₀++es)/\(∀e∈es,JU U w e/\XR w' e)/\ZQ U w w' U'/\U'.ok w'/\Q a U'/\U'.tok=U.tok:=by
 induction s with
 |pure a=>exact λ{Q U w es₀}h ok=>⟨a,w,#[],U,by simp[Sem.runT],S1,.refl _ _,ok,h,rfl⟩
 |load m a k I=>
  intro Q U w es₀ h ok;obtain⟨rfl,v,hs,h⟩:=h;obtain⟨W,hr⟩:=Qa.sees_cell ok hs;obtain⟨x,w',es,U',b,f,E,z,G⟩:=I v (es₀:=es₀.push ⟨.cell a,false,false⟩) h ok;refine⟨x,w',#[⟨.cell a,false,false⟩]++es,U',?_,?_,E,z,G⟩
  .simp only[Sem.runT,W];rw[show(Mode.plain==Mode.atomic)=false from rfl,b];simp
  .intro e B;rcases Array.mem_append.1 B with B|B
   .simp at B;subst B;exact⟨⟨rfl,.inl hr⟩,Nat.lt_of_lt_of_le (IQ W) E.size⟩
   .exact f e B
 |store m a v k I=>
  intro Q U w es₀ h ok;obtain⟨rfl,hv,M',hu,h⟩:=h;obtain⟨⟨u,W⟩,X,S,H,F⟩:=zY ok hu;obtain⟨x,w',es,U',b,f,E,z,G⟩:=I (es₀:=es₀.push ⟨.cell a,true,false⟩) h H;refine⟨x,w',#[⟨.cell a,true,false⟩]++es,U',?_,?_,F.trans E,z,G⟩
  .have:Sem.runT P (.store .plain a v k) w es₀=k.runT P (w.setCell a v) (es₀.push ⟨.cell a,true,false⟩):=by
    cases v <;> first|(simp[Value.single]at hv;done)|(simp only[Sem.runT,W,X];rfl)
   rw[this,b];simp
  .intro e B;rcases Array.mem_append.1 B with B|B
   .simp at B;subst B;exact⟨⟨rfl,.inl S⟩,Nat.lt_of_lt_of_le (IQ W) (F.trans E).size⟩
   .exact⟨JU.of F (f e B).1,(f e B).2⟩
 |new o k I=>
  intro Q U w es₀ h ok;obtain⟨X,H,F⟩:=kX ok o;obtain⟨x,w',es,U',b,f,E,z,G⟩:=I w.heap.size (es₀:=es₀) (h _ X) H;exact⟨x,w',es,U',b,λ e B=>⟨JU.of F (f e B).1,(f e B).2⟩,F.trans E,z,G⟩
 |shape r k I=>
  intro Q U w es₀ h ok;obtain⟨o,L,h⟩:=h;have K:=Qa.has_heap ok L
  have Z:w.shape? r=Obj.shapeOf o:=by
   simp only[World.shape?,K];cases o <;> rfl
  obtain⟨x,w',es,U',b,f,E,z,G⟩:=I _ (es₀:=es₀) h ok;exact⟨x,w',es,U',by simp only[Sem.runT];rw[Z];exact b,f,E,z,G⟩
 |freeze a n k I=>
  intro Q U w es₀ h ok;obtain⟨hn,c,t,M',hM,h⟩:=h;obtain⟨H,F⟩:=wO ok hn hM;obtain⟨x,w',es,U',b,f,E,z,G⟩:=I (es₀:=es₀) h H;exact⟨x,w',es,U',by simpa only[Sem.runT]using b,λ e B=>⟨JU.of F (f e B).1,(f e B).2⟩,F.trans E,z,G⟩
 |frozen a k I=>
  intro Q U w es₀ h ok;obtain⟨c,t,K,h⟩:=h;have K:=Qa.has_heap ok K;obtain⟨x,w',es,U',b,f,E,z,G⟩:=I false (es₀:=es₀) h ok;have Y:w.frozen? a=false:=by simp[World.frozen?,K]
  exact⟨x,w',es,U',by simp only[Sem.runT,Y];exact b,f,E,z,G⟩
 |getObj r k I=>
  intro Q U w es₀ h ok;obtain⟨o,L,W,N,h⟩:=h;have K:=Qa.has_heap ok L;obtain⟨x,w',es,U',b,f,E,z,G⟩:=I o (es₀:=es₀.push ⟨.obj r,false,false⟩) h ok;refine⟨x,w',#[⟨.obj r,false,false⟩]++es,U',?_,?_,E,z,G⟩
  .have:Sem.runT P (.getObj r k) w es₀=(k o).runT P w (es₀.push ⟨.obj r,false,o.isChan⟩):=by
    simp only[Sem.runT,K];cases o <;> simp_all[Obj.isCells]
   rw[this,N,b];simp
  .intro e B;rcases Array.mem_append.1 B with B|B
   .simp at B;subst B;refine⟨⟨rfl,.inl ?_⟩,Nat.lt_of_lt_of_le (Array.getElem?_eq_some_iff.1 K).1 E.size⟩;rcases L with L|L
    .exact .inr ⟨o,L⟩
    .exact .inl ⟨o,L⟩
   .exact f e B
 |setObj r o k I=>
  intro Q U w es₀ h ok;obtain⟨o0,M',hu,h1,h2,N,h⟩:=h;obtain⟨K,S,H,F⟩:=wP ok hu h1 h2;obtain⟨x,w',es,U',b,f,E,z,G⟩:=I (es₀:=es₀.push ⟨.obj r,true,false⟩) h H;refine⟨x,w',#[⟨.obj r,true,false⟩]++es,U',?_,?_,F.trans E,z,G⟩
  .have:Sem.runT P (.setObj r o k) w es₀=k.runT P { w with heap:=w.heap.setIfInBounds r o } (es₀.push ⟨.obj r,true,o.isChan⟩):=by
    simp only[Sem.runT,K];cases o0 <;> simp_all[Obj.isCells]
   rw[this,N,b];simp
  .intro e B;rcases Array.mem_append.1 B with B|B
   .simp at B;subst B;exact⟨⟨rfl,.inl S⟩,Nat.lt_of_lt_of_le (Array.getElem?_eq_some_iff.1 K).1 (F.trans E).size⟩
   .exact⟨JU.of F (f e B).1,(f e B).2⟩
 |choose q k I=>
  intro Q U w es₀ h ok;simp only[Qq]at h;by_cases G:q.forced=true
  .rw[if_pos G]at h;obtain⟨x,w',es,U',b,f,E,z,V⟩:=I 0 (es₀:=es₀) h ok;exact⟨x,w',es,U',by simp only[Sem.runT,G,if_true];exact b,f,E,z,V⟩
  .rw[if_neg G]at h;obtain⟨x,w',es,U',b,f,E,z,V⟩:=I _ (es₀:=es₀) (h (w.tape w.drawn q)) (D7 ok (w.drawn+1));exact⟨x,w',es,U',by simp only[Sem.runT,G];exact b,λ e B=>⟨JU.of (YQ U w _) (f e B).1,(f e B).2⟩,(YQ U w _).trans E,z,V⟩
 |sys c k I=>exact λ{Q U w es₀}h ok=>h.elim
 |program k I=>
  intro Q U w es₀ h ok;obtain⟨x,w',es,U',b,f,E,z,G⟩:=I P (es₀:=es₀) h ok;exact⟨x,w',es,U',by simpa only[Sem.runT]using b,f,E,z,G⟩
 |mark m k I=>
  intro Q U w es₀ h ok;obtain⟨hm,h⟩:=h;obtain⟨x,w',es,U',b,f,E,z,G⟩:=I (es₀:=es₀.push ⟨.mark m,false,true⟩) h ok;refine⟨x,w',#[⟨.mark m,false,true⟩]++es,U',?_,?_,E,z,G⟩
  .simp only[Sem.runT];rw[b];simp
  .intro e B;rcases Array.mem_append.1 B with B|B
   .simp at B;subst B;exact⟨hm,trivial⟩
   .exact f e B
 |halt h=>exact λ{Q U w es₀}h ok=>h.elim
def Qq.mono(s:Sem α):∀{Q w:α->Qa T->Prop}{U:Qa T},Qq P s Q U->(∀a U,Q a U->w a U)->Qq P s w U:=by
 induction s with
 |pure a=>exact λ h q=>q _ _ h
 |load m a k f=>exact λ⟨e,v,H,h⟩q=>⟨e,v,H,f v h q⟩
 |store m a v k f=>exact λ⟨e,e',M',I,h⟩q=>⟨e,e',M',I,f h q⟩
 |new o k f=>exact λ h q b z=>f b (h b z) q
 |shape r k f=>exact λ⟨o,G,h⟩q=>⟨o,G,f _ h q⟩
 |freeze a n k f=>exact λ⟨x,c,t,M',E,h⟩q=>⟨x,c,t,M',E,f h q⟩
 |frozen a k f=>exact λ⟨c,t,z,h⟩q=>⟨c,t,z,f _ h q⟩
 |getObj r k f=>exact λ⟨o,a,b,c,h⟩q=>⟨o,a,b,c,f _ h q⟩
 |setObj r o k f=>exact λ⟨K,M',a,b,c,d,h⟩q=>⟨K,M',a,b,c,d,f h q⟩
 |choose q k f=>
  intro Q w U h B;simp only[Qq]at h ⊢;split <;> rename_i F <;> simp only[F,if_true,if_false,Bool.false_eq_true]at h
  .exact f 0 h B
  .exact λ t=>f _ (h t) B
 |sys c k f=>exact λ h _=>h
 |program k f=>exact λ h q=>f _ h q
 |mark m k f=>exact λ⟨a,h⟩q=>⟨a,f h q⟩
 |halt h=>exact λ h _=>h
def O8(s:Sem α)(f:α->Sem β):∀{Q:β->Qa T->Prop}{U:Qa T},Qq P (s.bind f) Q U↔Qq P s (λ a U=>Qq P (f a) Q U) U:=by
 induction s with
 |pure a=>exact λ{_ _}=>Iff.rfl
 |load m a k b=>intro Q U;simp only[Sem.bind,Qq,b]
 |store m a v k b=>intro Q U;simp only[Sem.bind,Qq,b]
 |new o k b=>intro Q U;simp only[Sem.bind,Qq,b]
 |shape r k b=>intro Q U;simp only[Sem.bind,Qq,b]
 |freeze a n k b=>intro Q U;simp only[Sem.bind,Qq,b]
 |frozen a k b=>intro Q U;simp only[Sem.bind,Qq,b]
 |getObj r k b=>intro Q U;simp only[Sem.bind,Qq,b]
 |setObj r o k b=>intro Q U;simp only[Sem.bind,Qq,b]
 |choose q k b=>intro Q U;simp only[Sem.bind,Qq,b]
 |sys c k b=>intro Q U;simp only[Sem.bind,Qq]
 |program k b=>intro Q U;simp only[Sem.bind,Qq,b]
 |mark m k b=>intro Q U;simp only[Sem.bind,Qq,b]
 |halt h=>intro Q U;simp only[Sem.bind,Qq]
structure Sys(P:Program)(T:Type) where
 syn:(Bool->Gr->Qa T->Prop)->Bool->Gr->Qa T->Prop
 mono:∀{X Y:Bool->Gr->Qa T->Prop},(∀m g U,X m g U->Y m g U)->∀m g U,syn X m g U->syn Y m g U
variable{S:Sys P T}
def Qv(U U':Qa T):Prop:=U'.tok=U.tok/\∀w,U.ok w->U'.ok w/\(∀l,U'.canW l->U.canW l)/\(∀l,U'.canR l->U.canR l)
def Qv.refl(U:Qa T):Qv U U:=⟨rfl,λ _ h=>⟨h,λ _ h=>h,λ _ h=>h⟩⟩
def Qv.trans{U f z:Qa T}(h:Qv U f)(k:Qv f z):Qv U z:=
 ⟨k.1.trans h.1,λ w ok=>let ⟨a,b,c⟩:=h.2 w ok;let ⟨a',b',c'⟩:=k.2 w a;⟨a',λ l x=>b l (b' l x),λ l x=>c l (c' l x)⟩⟩
abbrev QH(T:Type):=Bool->Gr->Qa T->Prop
variable{X Y Stop:QH T}
def Gv(P:Program)(X:QH T)(m:Bool)(g:Gr)(U:Qa T):Prop:=
 g.status=.running/\∀w,U.ok w->∃g' w' es U',stepG P m g w=.go g' w' es/\(∀e∈es,JU U w e/\XR w' e)/\ZQ U w w' U'/\U'.ok w'/\U'.tok=U.tok/\X m g' U'
def FJ(S:Sys P T)(Stop:QH T)(X:QH T)(m:Bool)(g:Gr)(U:Qa T):Prop:=
 ∃b,Qv U b/\(Stop m g b\/Gv P X m g b\/S.syn X m g b)
def J(S:Sys P T)(Stop:QH T)(m:Bool)(g:Gr)(U:Qa T):Prop:=
 ∀X:QH T,(∀m g U,FJ S Stop X m g U->X m g U)->X m g U
def Gv.mono(h:∀m g U,X m g U->Y m g U)(k:Gv P X m g U):Gv P Y m g U:=
 ⟨k.1,λ w ok=>let ⟨g',w',es,U',a,b,c,d,e,f⟩:=k.2 w ok;⟨g',w',es,U',a,b,c,d,e,h _ _ _ f⟩⟩
def FJ.mono{S:Sys P T}{Stop X Y:QH T}(h:∀m g U,X m g U->Y m g U){m:Bool}{g:Gr}{U:Qa T}(k:FJ S Stop X m g U):FJ S Stop Y m g U:=by
 obtain⟨b,f,k|k|k⟩:=k
 .exact⟨b,f,.inl k⟩
 .exact⟨b,f,.inr (.inl (k.mono h))⟩
 .exact⟨b,f,.inr (.inr (S.mono h _ _ _ k))⟩
def J.fold(h:FJ S Stop (J S Stop) m g U):J S Stop m g U:=
 λ X b=>b _ _ _ (h.mono λ _ _ _ k=>k X b)
def J.ind(b:∀m g U,FJ S Stop (λ m g U=>X m g U/\J S Stop m g U) m g U->X m g U)(h:J S Stop m g U):X m g U:=
 (h (λ m g U=>X m g U/\J S Stop m g U) λ m g U k=>⟨b m g U k,J.fold (k.mono λ _ _ _ x=>x.2)⟩).1
def J.unfold(h:J S Stop m g U):FJ S Stop (J S Stop) m g U:=
 J.ind (X:=FJ S Stop (J S Stop)) (λ _ _ _ k=>k.mono λ _ _ _ x=>x.2) h
def J.stop(h:Stop m g U):J S Stop m g U:=.fold ⟨U,.refl _,.inl h⟩
def J.priv(h:Gv P (J S Stop) m g U):J S Stop m g U:=.fold ⟨U,.refl _,.inr (.inl h)⟩
def J.syn{g:Gr}{U:Qa T}(h:S.syn (J S Stop) m g U):J S Stop m g U:=.fold ⟨U,.refl _,.inr (.inr h)⟩
def J.still(b:g.status=.running)(h:∀w,stepG P m g w=.go g' w)(k:J S Stop m g' U):J S Stop m g U:=
 .priv ⟨b,λ w ok=>⟨g',w,#[],U,h w,S1,.refl _ _,ok,rfl,k⟩⟩
def Jm(P:Program)(fn:FuncId)(es:Array Event):∀e∈seen P fn es,e∈es:=by
 dsimp only[seen]
 rw[<- Array.foldl_toList]
 have key:∀(l:List Event)(x:Bool×Array Event),(∀e∈x.2,e∈es)->(∀e∈l,e∈es) ->
   ∀e∈(l.foldl (λ(x:Bool×Array Event)e=>match e.loc with|.mark (.extern f)=>((P.funcs[f]?).any (·.norace),x.2)|_=>(x.1,if x.1&&!e.sync then x.2 else x.2.push e)) x).2,e∈es:=by
  intro l
  induction l with
  |nil=>exact λ x h _=>h
  |cons a l z=>
   intro x h w;simp only[foldl_cons];refine z _ ?_ λ e b=>w e (mem_cons_of_mem _ b);split
   .exact h
   .dsimp only
    split
    .exact h
    .intro e b;rcases Array.mem_push.1 b with b|rfl
     .exact h e b
     .exact w _ (mem_cons_self ..)
 exact key es.toList _ S1 S1
def J.sem(s:Sem α)(N:g.status=.running)(h:Qq P s χ U)
  (f:∀w x w' es,s.runT P w #[]=(.ok x w',es)->(∃U',χ x U')->∃g' b,stepG P m g w=.go g' w' b/\(∀e∈b,e∈es)/\(∀U',χ x U'->J S Stop m g' U')):J S Stop m g U:=by
 refine .priv ⟨N,λ w ok=>?_⟩;obtain⟨x,w',es,U',L,B,I,E,G,V⟩:=Qq.sound s (es₀:=#[]) h ok;obtain⟨g',b,F,z,K⟩:=f w x w' es (by simpa using L) ⟨U',G⟩;exact⟨g',w',b,U',F,λ e H=>B e (z e H),I,E,V,K U' G⟩
def fr(b:Frame)(a:Act)(todo:List Item):Frame:={ b with tmps:=a.tmps,todo:=todo,defers:=a.defers,mode:=.run }
def R(b:Frame)(a:Act)(todo:List Item)(cs:List Frame):Gr:={ frame:=fr b a todo,callers:=cs,status:=.running,dying:=none }
def Rf(f:Frame)(cs:List Frame):Gr:={ frame:=f,callers:=cs,status:=.running,dying:=none }
def KO(b:Frame)(a:Act)(todo:List Item):(fr b a todo).eval=a.eval:=by funext x;cases x <;> rfl
def kp:stepG P m (R b a (.code .skip::k) cs) w=.go (R b a k cs) w:=by simp[R,stepG,stepG.exec,fr]
def vj:stepG P m (R b a (.code (.label l)::k) cs) w=.go (R b a k cs) w:=by simp[R,stepG,stepG.exec,fr]
def je:stepG P m (R b a (.inBlock l::k) cs) w=.go (R b a k cs) w:=by simp[R,stepG,stepG.exec,fr]
def jf:stepG P m (R b a (.inScope c::k) cs) w=.go (R b a k cs) w:=by simp[R,stepG,stepG.exec,fr]
def kL:stepG P m (R b a (.code (.seq c assign)::k) cs) w=.go (R b a (.code c::.code assign::k) cs) w:=by simp[R,stepG,stepG.exec,fr]
def ki{c:Operand}(h:a.eval c=.bool p) :
  stepG P m (R b a (.code (.cond c assign as)::k) cs) w=.go (R b a (.code (if p then assign else as)::k) cs) w:=by
 have f:(fr b a (.code (.cond c assign as)::k)).eval c=.bool p:=by rw[KO];exact h
 simp only[fr]at f;simp[R,stepG,stepG.exec,fr,f]
def vh:stepG P m (R b a (.code (.block l c)::k) cs) w=.go (R b a (.code c::.inBlock l::k) cs) w:=by simp[R,stepG,stepG.exec,fr]
def kn:stepG P m (R b a (.code (.loop c)::k) cs) w=.go (R b a (.code c::.inLoop c::k) cs) w:=by simp[R,stepG,stepG.exec,fr]
def xR:stepG P m (R b a (.inLoop c::k) cs) w=.go (R b a (.code c::.inLoop c::k) cs) w:=by simp[R,stepG,stepG.exec,fr]
def vk:stepG P m (R b a (.code (.scope c)::k) cs) w=.go (R b a (.code c::.inScope c::k) cs) w:=by simp[R,stepG,stepG.exec,fr]
def km(h:exitTo l k=some u):stepG P m (R b a (.code (.exit l)::k) cs) w=.go (R b a u cs) w:=by simp[R,stepG,stepG.exec,fr,h]
def xS:stepG P m (R b a (.code (.region l ops false)::k) cs) w=.go (R b a (.inRegion ops (range ops.size)::k) cs) w:=by simp[R,stepG,stepG.exec,fr]
def qT:stepG P m (R b a (.inRegion ops []::k) cs) w=.go (R b a k cs) w:=by simp[R,stepG,stepG.exec,fr]
def Nb(h:ops[l]?=some o)(z:Region.wanted o (yielded ops a.tmps)=false) :
  stepG P m (R b a (.inRegion ops (l::rest)::k) cs) w=.go (R b (a.put o.dst undef) (.inRegion ops rest::k) cs) w:=by
 cases f:o.dst <;> simp[R,stepG,stepG.exec,fr,h,z,Frame.finish,Act.put,f]
def ko(B:ops[n]?=some o)(E:Region.wanted o (yielded ops a.tmps)=true)
  (f:b.roundOf=none\/∀c,o.op≠.defer c) :
  stepG P m (R b a (.inRegion ops (n::rest)::k) cs) w=stepG.apply P true (fr b a (.inRegion ops (n::rest)::k)) cs none (execOp a.eval o) w:=by
 have h:=KO b a (.inRegion ops (n::rest)::k);simp only[fr]at h;rcases f with f|f
 .rw[f]at h;simp[R,stepG,stepG.exec,stepG.oper,Frame.oper?,fr,B,E,f];rw[h]
 .simp only[R,stepG,stepG.exec,stepG.oper,Frame.oper?,fr,B,Option.map_some,E,Option.getD_some,if_true,h];cases F:b.roundOf with
  |none=>simp
  |some l=>cases z:o.op <;> first|rfl|exact absurd z (f _)
def HW(f:ops[l]?=some o)(v:Value) :
  (fr b a (.inRegion ops (l::rest)::k)).finish v=fr b (a.put o.dst v) (.inRegion ops rest::k):=by
 cases h:o.dst <;> simp[Frame.finish,fr,Act.put,f,h]
inductive Ex where
 |normal
 |exit (id:Nat)
 |ret
variable{Q:Ex->Act->Qa T->Prop}
def Xn(S:Sys P T)(Stop:QH T)(m:Bool)(b:Frame)(cs:List Frame)(f:Option Code)(a:Act)(U:Qa T):Prop:=
 match b.roundOf with
 |none=>(f=none\/f=some .ret)/\∀todo,J S Stop m (Rf { fr b a todo with mode:=.returning } cs) U
 |some l=>∃c rest,cs=c::rest/\Qq P (Instr.endRound l f) (λ v U'=>J S Stop m (Rf (c.finish v) rest) U') U
def Xm(S:Sys P T)(Stop:QH T)(m:Bool)(b:Frame)(k:List Item)(cs:List Frame):Ex->Act->Qa T->Prop
 |.normal,a,U=>J S Stop m (R b a k cs) U
 |.exit id,a,U=>(∃k',exitTo id k=some k'/\J S Stop m (R b a k' cs) U)\/(exitTo id k=none/\Xn S Stop m b cs (some (.exit id)) a U)
 |.ret,a,U=>Xn S Stop m b cs (some .ret) a U
def Fr(fn:FuncId)(ro:Option Nat)(b:Frame):Prop:=b.fn=fn/\b.roundOf=ro/\b.kind≠.early/\(ro.isSome->b.kind=.normal)
def Zs(S:Sys P T)(fn:FuncId)(ro:Option Nat)(c:Code)(Q:Ex->Act->Qa T->Prop)(a:Act)(U:Qa T):Prop:=
 ∀(Stop:QH T)(m:Bool)(b:Frame)(k:List Item)(cs:List Frame),Fr fn ro b->(∀e a' U',Q e a' U'->Xm S Stop m b k cs e a' U')->J S Stop m (R b a (.code c::k) cs) U
def QT(S:Sys P T)(fn:FuncId)(ro:Option Nat)(ops:Array Oper)(todo:List Nat)(Q:Ex->Act->Qa T->Prop)(a:Act)(U:Qa T):Prop:=
 ∀(Stop:QH T)(m:Bool)(b:Frame)(k:List Item)(cs:List Frame),Fr fn ro b->(∀e a' U',Q e a' U'->Xm S Stop m b k cs e a' U')->J S Stop m (R b a (.inRegion ops todo::k) cs) U
def Qb(S:Sys P T)(f:FuncId)(args:Array Value)(Q:Value->Qa T->Prop)(U:Qa T):Prop:=
 ∀(Stop:QH T)(m:Bool)(c:Frame)(cs:List Frame),(∀v U',Q v U'->J S Stop m (Rf (c.finish v) cs) U')->J S Stop m (Rf (Frame.enter P f args .normal) (c::cs)) U
def J_(S:Sys P T)(l:Nat)(f:FuncId)(tmps:Array Value)(assign body:Code)(Q:Value->Qa T->Prop)(U:Qa T):Prop:=
 ∀(Stop:QH T)(m:Bool)(c:Frame)(cs:List Frame),(∀v U',Q v U'->J S Stop m (Rf (c.finish v) cs) U')->J S Stop m (Rf (Frame.round l f tmps assign body .normal) (c::cs)) U
def Xm.push{x:Item}{e:Ex}(w:∀id k,exitTo id (x::k)=exitTo id k)(f:e≠.normal)
  (h:Xm S Stop m b k cs e a U):Xm S Stop m b (x::k) cs e a U:=by
 cases e with
 |normal=>exact absurd rfl f
 |exit id=>simpa only[Xm,w]using h
 |ret=>exact h
def Zs.mono{f:Ex->Act->Qa T->Prop}(h:Zs S fn ro c Q a U)(B:∀e a U,Q e a U->f e a U):Zs S fn ro c f a U:=
 λ Stop m b k cs w z=>h Stop m b k cs w λ e a' U' q=>z e a' U' (B e a' U' q)
def Qb.mono(h:Qb S fn args K U)(b:∀v U,K v U->R' v U):Qb S fn args R' U:=
 λ Stop m c cs k=>h Stop m c cs λ v U' r=>k v U' (b v U' r)
def J_.mono(h:J_ S l fn tmps as assign K U)(w:∀v U,K v U->R' v U):J_ S l fn tmps as assign R' U:=
 λ Stop m c cs k=>h Stop m c cs λ v U' r=>k v U' (w v U' r)
def J.shift(w:Qv U U')(h:J S Stop m g U'):J S Stop m g U:=by
 obtain⟨b,f,h⟩:=h.unfold;exact .fold ⟨b,w.trans f,h⟩
def pI(z:Qv U U')(h:Zs S fn ro c Q a U'):Zs S fn ro c Q a U:=λ Stop m b k cs f w=>.shift z (h Stop m b k cs f w)
def G0(z:Qv U U')(h:QT S fn ro ops todo Q a U'):QT S fn ro ops todo Q a U:=λ Stop m b k cs f w=>.shift z (h Stop m b k cs f w)
def Qb.shift{f:FuncId}{args:Array Value}{R:Value->Qa T->Prop}{U':Qa T}(b:Qv U U')(h:Qb S f args R U'):Qb S f args R U:=λ Stop m c cs k=>.shift b (h Stop m c cs k)
def J_.shift{l:Nat}{f:FuncId}{tmps:Array Value}{as b:Code}{R:Value->Qa T->Prop}{U':Qa T}(w:Qv U U')(h:J_ S l f tmps as b R U'):J_ S l f tmps as b R U:=λ Stop m c cs k=>.shift w (h Stop m c cs k)
def Qb.post{R:Value->Qa T->Prop}(h:Qb S fn args R U)(b:∀v U,R v U->∃U',Qv U U'/\R' v U'):Qb S fn args R' U:=
 λ Stop m c cs k=>h Stop m c cs λ v U' r=>let ⟨_,hs,r'⟩:=b v U' r;.shift hs (k v _ r')
def vO(h:Q .normal a U):Zs S fn ro .skip Q a U:=λ _ _ _ _ _ _ b=>.still rfl (λ _=>kp) (b _ _ _ h)
def pF(h:Q .normal a U):Zs S fn ro (.label l) Q a U:=λ _ _ _ _ _ _ b=>.still rfl (λ _=>vj) (b _ _ _ h)
def kT(h:Zs S fn ro c (λ e a' U'=>match e with|.normal=>Zs S fn ro assign Q a' U'|e=>Q e a' U') a U):Zs S fn ro (.seq c assign) Q a U:=by
 intro Stop m b k cs w f;refine .still rfl (λ _=>kL) (h Stop m b (.code assign::k) cs w λ e a' U' q=>?_);cases e with
 |normal=>exact q Stop m b k cs w f
 |exit id=>exact(f _ _ _ q).push (λ _ _=>rfl) S1
 |ret=>exact(f _ _ _ q).push (x:=.code assign) (λ _ _=>rfl) S1
def vN{c:Operand}(t:Bool)(w:a.eval c=.bool t)(h:Zs S fn ro (if t then assign else as) Q a U):Zs S fn ro (.cond c assign as) Q a U:=
 λ Stop m b k cs f z=>.still rfl (λ _=>ki w) (h Stop m b k cs f z)
def pE(h:Zs S fn ro c (λ e a' U'=>match e with|.normal=>Q .normal a' U'|.exit f=>if f=l then Q .normal a' U' else Q (.exit f) a' U'|.ret=>Q .ret a' U') a U) :
  Zs S fn ro (.block l c) Q a U:=by
 intro Stop m b k cs E z;refine .still rfl (λ _=>vh) (h Stop m b (.inBlock l::k) cs E λ e a' U' q=>?_);cases e with
 |normal=>exact .still rfl (λ _=>je) (z _ _ _ q)
 |exit f=>
  by_cases w:f=l
  .simp only[w,if_true]at q;exact .inl ⟨k,by simp[exitTo,w],z _ _ _ q⟩
  .simp only[w,if_false]at q;have B:(l==f)=false:=by simp;exact λ h=>w h.symm
   simpa only[Xm,exitTo,B,Bool.false_eq_true,if_false]using z _ _ _ q
 |ret=>exact z _ _ _ q
def pH(h:Zs S fn ro c Q a U):Zs S fn ro (.scope c) Q a U:=by
 intro Stop m b k cs w f;refine .still rfl (λ _=>vk) (h Stop m b (.inScope c::k) cs w λ e a' U' q=>?_);cases e with
 |normal=>exact .still rfl (λ _=>jf) (f _ _ _ q)
 |exit id=>exact(f _ _ _ q).push (λ _ _=>rfl) S1
 |ret=>exact(f _ _ _ q).push (x:=.inScope c) (λ _ _=>rfl) S1
def IU(h:Q (.exit n) a U):Zs S fn ro (.exit n) Q a U:=by
 intro Stop m b k cs F G;rcases G _ _ _ h with⟨k',B,I⟩|⟨B,z⟩
 .exact .still rfl (λ _=>km B) I
 .cases hro:b.roundOf with
  |none=>simp only[Xn,hro]at z;simp at z
  |some l=>
   simp only[Xn,hro]at z;obtain⟨c,rest,rfl,L⟩:=z;have E:b.kind=.normal:=F.2.2.2 (by rw[<- F.2.1,hro];rfl);refine .sem _ rfl L λ w x w' es f _=>⟨Rf (c.finish x) rest,seen P b.fn es,?_,Jm P _ es,λ _ h=>h⟩;obtain⟨K,H⟩:Sem.run P (Instr.endRound l (some (.exit n))) w=.ok x w'/\Sem.events P (Instr.endRound l (some (.exit n))) w #[]=es:=by simpa using f
   simp[R,stepG,stepG.exec,fr,hro,B,K,H,doReturn,E,GStep.after,Rf]
def Lq(h:Q .ret a U):Zs S fn ro .ret Q a U:=by
 intro Stop m b k cs F G;have B:=G _ _ _ h;cases f:b.roundOf with
 |none=>
  simp only[Xm,Xn,f]at B;refine .still rfl (λ w=>?_) (B.2 (.code .ret::k));simp[R,Rf,stepG,stepG.exec,fr,f]
 |some l=>
  simp only[Xm,Xn,f]at B;obtain⟨c,rest,rfl,K⟩:=B;have E:b.kind=.normal:=F.2.2.2 (by rw[<- F.2.1,f];rfl);refine .sem _ rfl K λ w x w' es z _=>⟨Rf (c.finish x) rest,seen P b.fn es,?_,Jm P _ es,λ _ h=>h⟩;obtain⟨I,H⟩:Sem.run P (Instr.endRound l (some .ret)) w=.ok x w'/\Sem.events P (Instr.endRound l (some .ret)) w #[]=es:=by simpa using z
  simp[R,stepG,stepG.exec,fr,f,I,H,doReturn,E,GStep.after,Rf]
def FE(h:QT S fn ro ops (range ops.size) Q a U):Zs S fn ro (.region l ops false) Q a U:=
 λ Stop m b k cs f w=>.still rfl (λ _=>xS) (h Stop m b k cs f w)
def Ll(h:Q .normal a U):QT S fn ro ops [] Q a U:=λ _ _ _ _ _ _ b=>.still rfl (λ _=>qT) (b _ _ _ h)
def Ye(S:Sys P T)(ro:Option Nat)(o:Oper)(a:Act)(K:Act->Qa T->Prop):Next->Qa T->Prop
 |.value v,U=>K (a.put o.dst v) U
 |.skip,U=>K (a.put o.dst undef) U
 |.defer d,U=>ro=none/\K ({ a with defers:=d::a.defers }.put o.dst undef) U
 |.enter f args,U=>Qb S f args (λ v U'=>K (a.put o.dst v) U') U
 |.round l f tmps assign body,U=>J_ S l f tmps assign body (λ v U'=>K (a.put o.dst v) U') U
 |_,_=>False
def HP(S:Sys P T)(ro:Option Nat)(o:Oper)(a:Act)(K:Act->Qa T->Prop)(U:Qa T):Prop:=Qq P (execOp a.eval o) (Ye S ro o a K) U
def XP(F:ops[n]?=some o)(N:Region.wanted o (yielded ops a.tmps)=true)(K:ro=none\/∀c,o.op≠.defer c)
  (h:HP S ro o a (QT S fn ro ops rest Q) U):QT S fn ro ops (n::rest) Q a U:=by
 intro Stop m b k cs E G;have B:(b.kind==CallKind.early)=false:=by simpa using E.2.2.1
 have H:b.roundOf=none\/∀c,o.op≠.defer c:=by rw[E.2.1];exact K
 refine .sem _ rfl h λ w x w' es z I=>?_;rw[ko F N H];have T:(execOp a.eval o).run P w=.ok x w':=by have:=Sem.runT_fst P (execOp a.eval o) w #[];rw[z]at this;exact this.symm
 cases x with
 |value v=>
  refine⟨R b (a.put o.dst v) (.inRegion ops rest::k) cs,seen P b.fn es,?_,Jm P _ es,λ U' q=>q Stop m b k cs E G⟩;have:=HW (b:=b) (a:=a) (k:=k) (rest:=rest) F v;simp only[stepG.apply,if_true,z];simp[fr,B,GStep.after,R]at this ⊢;exact this
 |skip=>
  refine⟨R b (a.put o.dst undef) (.inRegion ops rest::k) cs,seen P b.fn es,?_,Jm P _ es,λ U' q=>q Stop m b k cs E G⟩;have:=HW (b:=b) (a:=a) (k:=k) (rest:=rest) F undef;simp only[stepG.apply,if_true,z];simp[fr,B,GStep.after,R]at this ⊢;exact this
 |defer d=>
  refine⟨R b ({ a with defers:=d::a.defers }.put o.dst undef) (.inRegion ops rest::k) cs,seen P b.fn es,?_,Jm P _ es,λ U' q=>q.2 Stop m b k cs E G⟩;have:=HW (b:=b) (a:={ a with defers:=d::a.defers }) (k:=k) (rest:=rest) F undef;simp only[stepG.apply,if_true,z];simp[fr,B,GStep.after,R]at this ⊢;exact this
 |enter f args=>
  refine⟨Rf (Frame.enter P f args .normal) (fr b a (.inRegion ops (n::rest)::k)::cs),seen P b.fn es,?_,Jm P _ es,λ U' q=>?_⟩
  .simp only[stepG.apply,if_true,z];simp[fr,B,GStep.after,Rf]
  .refine q Stop m _ cs λ v U'' q'=>?_;have:=q' Stop m b k cs E G;rw[HW F];exact this
 |round l f tmps assign body=>
  refine⟨Rf (Frame.round l f tmps assign body .normal) (fr b a (.inRegion ops (n::rest)::k)::cs),seen P b.fn es,?_,Jm P _ es,λ U' q=>?_⟩
  .simp only[stepG.apply,if_true,z];simp[fr,B,GStep.after,Rf]
  .refine q Stop m _ cs λ v U'' q'=>?_;have:=q' Stop m b k cs E G;rw[HW F];exact this
 |_=>obtain⟨_,L⟩:=I;exact L.elim
def GS(z:ops[l]?=some o)(B:Region.wanted o (yielded ops a.tmps)=false)
  (h:QT S fn ro ops rest Q (a.put o.dst undef) U):QT S fn ro ops (l::rest) Q a U:=
 λ Stop m b k cs f w=>.still rfl (λ _=>Nb z B) (h Stop m b k cs f w)
def QT.mono{f:Ex->Act->Qa T->Prop}(h:QT S fn ro ops todo Q a U)(B:∀e a U,Q e a U->f e a U):QT S fn ro ops todo f a U:=
 λ Stop m b k cs w z=>h Stop m b k cs w λ e a' U' q=>z e a' U' (B e a' U' q)
def Z_(I:Nat->Option Obj)(b:Nat)(o:Obj):Nat->Option Obj:=λ x=>if x=b then some o else I x
def VR(h:∀r,r∈M'->r∈M):(∃r∈M',r.lets ξ)->∃r∈M,r.lets ξ:=λ⟨r,f,b⟩=>⟨r,h r f,b⟩
def In(h:∃M₀,Perm U.M (M'++M₀)):Qv U { U with M:=M' }:=by
 obtain⟨M₀,B⟩:=h;have b:∀r,r∈M'->r∈U.M:=λ r z=>B.mem_iff.2 (mem_append_left _ z);refine⟨rfl,λ w ok=>⟨⟨ok.imm,λ r z=>ok.held r (b r z),?_,λ r z=>ok.sep r (b r z)⟩,λ l f=>?_,λ l f=>?_⟩⟩
 .have:=(B.pairwise_iff (λ{x y}h=>Qw.apart_symm h)).1 ok.apart;exact(pairwise_append.1 this).1
 .rw[Q4]at f ⊢;exact VR b f
 .rw[Qx]at f ⊢;exact f.imp (VR b) id
def Wa{b:Nat}{o:Obj}(h:Perm U.M (.obj b o::M')):Qv U { U with I:=Z_ U.I b o,M:=M' }:=by
 have z:∀r,r∈M'->r∈U.M:=λ r G=>h.mem_iff.2 (mem_cons_of_mem _ G);have L:Qw.obj b o∈U.M:=h.mem_iff.2 (mem_cons_self ..);refine⟨rfl,λ w ok=>?_⟩;have F:=(h.pairwise_iff (λ{x y}h=>Qw.apart_symm h)).1 ok.apart;rw[pairwise_cons]at F;refine⟨⟨?_,λ r G=>ok.held r (z r G),F.2,?_⟩,λ l B=>?_,λ l B=>?_⟩
 .intro x P E;simp only[Z_]at E;split at E
  .rename_i e;cases E;subst e;exact ok.held _ L
  .exact ok.imm x P E
 .intro r G
  have N:r.blk≠b:=by
   have:=F.1 r G;cases r <;> simp_all[Qw.apart,Qw.blk] <;> exact λ e=>this e.symm
  simp only[Z_,if_neg N];exact ok.sep r (z r G)
 .rw[Q4]at B ⊢;exact VR z B
 .rw[Qx]at B ⊢;rcases B with B|B
  .exact .inl (VR z B)
  .cases l with
   |cell a=>
    obtain⟨c,t,f,K,H⟩:=B;simp only[Z_]at K;split at K
    .rename_i e;cases K;exact .inl ⟨_,L,e,H⟩
    .exact .inr ⟨c,t,f,K,H⟩
   |obj x=>
    obtain⟨P,E⟩:=B;simp only[Z_]at E;split at E
    .rename_i e;cases E;exact .inl ⟨_,L,by cases o <;> simp[Qw.lets,e]⟩
    .exact .inr ⟨P,E⟩
   |output=>exact B.elim
   |goroutines=>exact B.elim
   |mark _=>exact B.elim
structure Qa.le(U U':Qa T):Prop where
 imm:∀b o,U.I b=some o->U'.I b=some o
 own:U'.M=U.M
 tok:U'.tok=U.tok
def Qa.le.refl(U:Qa T):U.le U:=⟨λ _ _ h=>h,rfl,rfl⟩
def Qa.le.trans{a b c:Qa T}(h:a.le b)(k:b.le c):a.le c:=⟨λ x o e=>k.imm x o (h.imm x o e),k.own.trans h.own,k.tok.trans h.tok⟩
def kj:
  stepG P m (R b a (.code (.region l ops true)::k) cs) w =
   .go (R b a (.inRegion ops (Region.schedule (P.follows .mixedOrders) ops (w.tape w.drawn (.order b.fn l)))::k) cs) { w with drawn:=w.drawn+1 }:=by
 simp[R,stepG,stepG.exec,fr,choose,Sem.run,Question.forced,Question.cut]
def IT(h:∀t,QT S fn ro ops (Region.schedule (P.follows .mixedOrders) ops t) Q a U) :
  Zs S fn ro (.region l ops true) Q a U:=by
 intro Stop m b k cs f z;refine .priv ⟨rfl,λ w ok=>⟨_,_,#[],U,kj,S1,YQ U w _,D7 ok _,rfl,h _ Stop m b k cs f z⟩⟩
def ZF(S:Sys P T)(K:Value->Qa T->Prop):Next->Qa T->Prop
 |.value v,U=>K v U
 |.skip,U=>K undef U
 |.enter f args,U=>Qb S f args K U
 |.round l f tmps assign body,U=>J_ S l f tmps assign body K U
 |_,_=>False
def QJ(S:Sys P T)(o:Oper)(a:Act)(K:Value->Qa T->Prop)(U:Qa T):Prop:=Qq P (execOp a.eval o) (ZF S K) U
def QJ.mono{o:Oper}{a:Act}{K w:Value->Qa T->Prop}{U:Qa T}(h:QJ S o a K U)(f:∀v U,K v U->w v U):QJ S o a w U:=
 Qq.mono _ h λ n U b=>by
  cases n <;> first|exact f _ _ b|exact Qb.mono b f|exact J_.mono b f|exact b
def QJ.opV(h:QJ S o a (λ v U=>N (a.put o.dst v) U) U):HP S ro o a N U:=
 Qq.mono _ h λ n U b=>by cases n <;> first|exact b|exact b.elim
def Xz(F:Qa T->Prop):Prop:=∀U U',F U->U.le U'->F U'
inductive ZS(S:Sys P T)(ops:Array Oper)(rl:List Nat)(B:Nat->Nat->Prop)(late:Nat->Bool)(G:Qa T->Prop)(U:Qa T)(Fin:Act->Qa T->Prop):List Nat->(Qa T->Prop)->Act->Prop
 |nil {C a0}:(∀U',U.le U'->C U'->Fin a0 U')->ZS S ops rl B late G U Fin [] C a0
 |un {i a2 C a0 a1}:i∉rl->ops[i]?=some a1->Region.wanted a1 (yielded ops a0.tmps)=false->ZS S ops rl B late G U Fin a2 C (a0.put a1.dst undef)->ZS S ops rl B late G U Fin (i::a2) C a0
 |det {i a2 C a0 a1} (v:Value):i∉rl->ops[i]?=some a1->Region.wanted a1 (yielded ops a0.tmps)=true ->
   (∀U',U.le U'->C U'->QJ S a1 a0 (λ v' U2=>v'=v/\∃U1,Qv U2 U1/\U'.le U1) U') ->
   (late i=true->∀U',G U'->QJ S a1 a0 (λ v' U2=>v'=v/\∃U1,Qv U2 U1/\U'.le U1) U') ->
   ZS S ops rl B late G U Fin a2 C (a0.put a1.dst v)->ZS S ops rl B late G U Fin (i::a2) C a0
 |rel {i a2 C a0 a1} (F:Value->Qa T->Prop):i∈rl->(∀v,Xz (F v))->ops[i]?=some a1->Region.wanted a1 (yielded ops a0.tmps)=true ->
   (∀U',U.le U'->C U'->QJ S a1 a0 (λ v' U2=>∃U1,Qv U2 U1/\F v' U1/\U'.le U1) U') ->
   (∀v,(∃U',U.le U'/\C U'/\F v U')->ZS S ops rl B late G U Fin a2 (λ U'=>C U'/\F v U') (a0.put a1.dst v))->ZS S ops rl B late G U Fin (i::a2) C a0
 |last {i C a0 a1}:i∈rl->Xz G->(∀j,late j=false->B j i)->ops[i]?=some a1->Region.wanted a1 (yielded ops a0.tmps)=true ->
   (∀U',U.le U'->C U'->QJ S a1 a0 (λ v' U2=>v'=undef/\∃U1,Qv U2 U1/\G U1) U')->((∃U',U.le U'/\C U')->∀U',G U'->Fin (a0.put a1.dst undef) U')->ZS S ops rl B late G U Fin [i] C a0
def Wr(ops:Array Oper)(i:Nat):List Nat:=((ops[i]?).map λ o=>(o.after.toList.filter (Region.binds .any)).map (·.on)).getD []
inductive ZX(ops:Array Oper):Nat->Nat->Prop
 |edge {i a0}:a0∈Wr ops i->ZX ops a0 i
 |trans {i a0 a1}:ZX ops a1 a0->a0∈Wr ops i->ZX ops a1 i
def W_(ops:Array Oper):Nat->List Nat
 |0=>[]
 |n+1=>let acc:=W_ ops n;acc++[(Wr ops n).foldl (λ s j=>s||| 2^j||| acc.getD j 0) 0]
def V2(ops:Array Oper):∀n,(W_ ops n).length=n
 |0=>rfl
 |n+1=>by simp[W_,V2 ops n]
def F4(acc:List Nat)(j:Nat):∀(l:List Nat)(s:Nat),(l.foldl (λ s j=>s||| 2^j||| acc.getD j 0) s).testBit j=true->s.testBit j=true\/∃k∈l,k=j\/(acc.getD k 0).testBit j=true
 |[],s,h=>.inl h
 |k::l,s,h=>by
  simp only[foldl_cons]at h;rcases F4 acc j l _ h with h|⟨x,b,h⟩
  .simp only[Nat.testBit_or,Bool.or_eq_true]at h;rcases h with(h|h)|h
   .exact .inl h
   .refine .inr ⟨k,mem_cons_self ..,.inl ?_⟩;rw[Nat.testBit_two_pow]at h;exact of_decide_eq_true h
   .exact .inr ⟨k,mem_cons_self ..,.inr h⟩
  .exact .inr ⟨x,mem_cons_of_mem _ b,h⟩
def Wm(ops:Array Oper):∀n i j,((W_ ops n).getD i 0).testBit j=true->ZX ops j i:=by
 intro n
 induction n with
 |zero=>intro i j h;simp[W_]at h
 |succ n f=>
  intro i j h;simp only[W_]at h;by_cases w:i<n
  .rw[getD_eq_getElem?_getD,getElem?_append_left (by rw[V2];exact w),<- getD_eq_getElem?_getD]at h;exact f i j h
  .rw[getD_eq_getElem?_getD,getElem?_append_right (by rw[V2];omega),V2,<- getD_eq_getElem?_getD]at h;by_cases e:i=n
   .subst e;simp only[Nat.sub_self,getD_cons_zero]at h;rcases F4 _ j _ 0 h with h|⟨k,b,rfl|h⟩
    .simp at h
    .exact .edge b
    .exact .trans (f k j h) b
   .have:i-n=(i-n-1)+1:=O1
    rw[this]at h;simp at h
def WE(ops:Array Oper)(i:Nat):Option Tmp:=(ops[i]?).bind (·.dst)
def looks(ops:Array Oper)(i:Nat):List Tmp:=((ops[i]?).map (Oper.looksAt ops)).getD []
def PK(ops:Array Oper)(rl qs ts:List Nat):Bool:=
 let n:=ops.size
 let b:=W_ ops n
 let bf (j i:Nat):Bool:=(b.getD i 0).testBit j
 let all:=qs++ts
 (range n).all (λ i=>all.contains i)&&(decide all.Nodup&&all.all (λ i=>decide (i<n))) &&
 (ops.toList.all λ o=>!(o.op matches .select ..)) &&
 (range n).all (λ i=>(range n).all λ j=>i==j|| (match WE ops i with|some d=>WE ops j != some d|none=>true)) &&
 qs.all (λ i=>(range n).all λ j=>i==j|| (match WE ops j with|some d=>!(looks ops i).contains d|| bf j i|| bf i j|none=>true)) &&
 (range all.length).all (λ p=>(Wr ops (all.getD p 0)).all λ j=>(all.take p).contains j) &&
 (range qs.length).all (λ p=>!rl.contains (qs.getD p 0)|| ((all.drop (p+1)).all λ j=>bf (qs.getD p 0) j)) &&
 (range ts.length).all (λ p=>(qs++ts.take p).all λ j=>bf j (ts.getD p 0))
structure Ju(ops:Array Oper)(rl qs ts:List Nat):Prop where
 mem:∀i,i<ops.size↔i∈qs++ts
 nodup:(qs++ts).Nodup
 nosel:∀(i:Nat)o,ops[i]?=some o->∀cs b,o.op≠.select cs b
 once:∀i j d,WE ops i=some d->WE ops j=some d->i=j
 look:∀i,i∈qs->∀j d,i≠j->WE ops j=some d->d∈looks ops i->ZX ops j i\/ZX ops i j
 order:∀p i,(qs++ts)[p]?=some i->∀j∈Wr ops i,j∈(qs++ts).take p
 behind:∀p i,qs[p]?=some i->i∈rl->∀j∈(qs++ts).drop (p+1),ZX ops i j
 tail:∀p i,ts[p]?=some i->∀j∈qs++ts.take p,ZX ops j i
def Sg{d:Tmp}(h:WE ops l=some d):l<ops.size:=by
 simp only[WE]at h;cases b:ops[l]? with
 |none=>simp[b]at h
 |some o=>exact(Array.getElem?_eq_some_iff.1 b).1
def E_(h:PK ops rl qs ts=true):Ju ops rl qs ts:=by
 simp only[PK,Bool.and_eq_true]at h;obtain⟨⟨⟨⟨⟨⟨⟨G,F⟩,H⟩,I⟩,K⟩,L⟩,N⟩,P⟩:=h
 have z:∀i,i<ops.size->i∈qs++ts:=λ i w=>by
  have:=all_eq_true.1 G i (mem_range.2 w);simpa using this
 obtain⟨E,B⟩:(qs++ts).Nodup/\∀i∈qs++ts,i<ops.size:=by
  exact⟨of_decide_eq_true F.1,λ i w=>of_decide_eq_true (all_eq_true.1 F.2 i w)⟩
 refine⟨λ i=>⟨z i,B i⟩,E,?_,?_,?_,?_,?_,?_⟩
 .intro i o ho cs b e;have:=all_eq_true.1 H o (Array.mem_toList_iff.2 (Array.mem_of_getElem? ho));simp[e]at this
 .intro i j d w hj;have:=all_eq_true.1 (all_eq_true.1 I i (mem_range.2 (Sg w))) j (mem_range.2 (Sg hj));simp only[w,hj,Bool.or_eq_true,beq_iff_eq]at this;rcases this with h|h
  .exact h
  .simp at h
 .intro i w j d hne hj hd;have:=all_eq_true.1 (all_eq_true.1 K i w) j (mem_range.2 (Sg hj));simp only[hj,Bool.or_eq_true,beq_iff_eq]at this;rcases this with h|(h|h)|h
  .exact absurd h hne
  .simp[hd]at h
  .exact .inl (Wm _ _ _ _ h)
  .exact .inr (Wm _ _ _ _ h)
 .intro p i hp j hj;have f:=(List.getElem?_eq_some_iff.1 hp).1;have:=all_eq_true.1 L p (mem_range.2 f);rw[getD_eq_getElem?_getD,hp,Option.getD_some]at this;simpa using all_eq_true.1 this j hj
 .intro p i hp hr j hj;have f:=(List.getElem?_eq_some_iff.1 hp).1;have:=all_eq_true.1 N p (mem_range.2 f);rw[getD_eq_getElem?_getD,hp,Option.getD_some]at this;simp only[Bool.or_eq_true]at this;rcases this with h|h
  .simp[hr]at h
  .exact Wm _ _ _ _ (all_eq_true.1 h j hj)
 .intro p i hp j hj;have f:=(List.getElem?_eq_some_iff.1 hp).1;have:=all_eq_true.1 P p (mem_range.2 f);have e:ts.getD p 0=i:=by rw[getD_eq_getElem?_getD,hp];rfl
  rw[e]at this;exact Wm _ _ _ _ (all_eq_true.1 this j hj)
def J2:l∈Region.ready .any ops listed↔l<ops.size/\listed.getD l true=false/\∀j∈Wr ops l,listed.getD j false=true:=by
 simp only[Region.ready,mem_filter,mem_range,Bool.and_eq_true,Bool.not_eq_true'];constructor
 .rintro⟨hi,h1,h2⟩;refine⟨hi,h1,λ j w=>?_⟩;obtain⟨o,b⟩:∃o,ops[l]?=some o:=⟨ops[l],by simp[hi]⟩;simp only[b,Option.map_some,Option.getD_some]at h2;simp only[Wr,b,Option.map_some,Option.getD_some,mem_map,mem_filter,Array.mem_toList_iff]at w;obtain⟨e,⟨h,f⟩,rfl⟩:=w;have:=(Array.all_eq_true'.1 h2) e h;simpa[f]using this
 .rintro⟨hi,h1,h2⟩;refine⟨hi,h1,?_⟩;obtain⟨o,b⟩:∃o,ops[l]?=some o:=⟨ops[l],by simp[hi]⟩;simp only[b,Option.map_some,Option.getD_some];rw[Array.all_eq_true'];intro e h;by_cases f:Region.binds .any e=true
  .have:=h2 e.on (by simp only[Wr,b,Option.map_some,Option.getD_some,mem_map,mem_filter,Array.mem_toList_iff];exact⟨e,⟨h,f⟩,rfl⟩);rw[this];simp
  .simp[f]
structure Ji(ops:Array Oper)(val:Nat->Value)(D:Nat->Prop)(a_0 a:Act):Prop where
 defers:a.defers=a_0.defers
 size:a.tmps.size=a_0.tmps.size
 wr:∀(s:Nat)(j:Nat),WE ops j=some s->D j->s<a_0.tmps.size->a.tmps[s]?=some (val j)
 not:∀s:Nat,(∀j,WE ops j=some s->¬D j)->a.tmps[s]?=a_0.tmps[s]?
def Ji.put{ops:Array Oper}{rl qs ts:List Nat}(E:Ju ops rl qs ts){val:Nat->Value}{D:Nat->Prop}{a_0 a:Act}(h:Ji ops val D a_0 a){i:Nat}{o:Oper}(F:ops[i]?=some o) :
  Ji ops val (λ j=>D j\/j=i) a_0 (a.put o.dst (val i)):=by
 have B:WE ops i=o.dst:=by simp[WE,F]
 cases z:o.dst with
 |none=>
  rw[z]at B;refine⟨h.defers,h.size,λ s j b f w=>?_,λ s w=>h.not s λ j b f=>w j b (.inl f)⟩;rcases f with f|rfl
  .exact h.wr s j b f w
  .rw[B]at b;cases b
 |some d=>
  rw[z]at B;refine⟨h.defers,by simp[Act.put,h.size],λ s j b f w=>?_,λ s w=>?_⟩
  .by_cases e:d=s
   .subst e;obtain rfl:=E.once _ _ _ b B;simp only[Act.put];rw[Array.getElem?_setIfInBounds_self_of_lt (by rw[h.size];exact w)]
   .rcases f with f|rfl
    .simp only[Act.put];rw[Array.getElem?_setIfInBounds_ne e];exact h.wr s j b f w
    .rw[B]at b;cases b;exact absurd rfl e
  .have e:d≠s:=λ e=>w i (e▸B) (.inr rfl);simp only[Act.put];rw[Array.getElem?_setIfInBounds_ne e];exact h.not s λ j b f=>w j b (.inl f)
def Ji.val{ops:Array Oper}{val b:Nat->Value}{D:Nat->Prop}{a_0 a:Act}(h:Ji ops val D a_0 a)(B:∀j,D j->b j=val j):Ji ops b D a_0 a:=
 ⟨h.defers,h.size,λ s j w f z=>by rw[B j f];exact h.wr s j w f z,h.not⟩
def Ji.slot(h:Ji ops I D a_0 a)(z:Ji ops I E a_0 av){s:Nat}(F:∀j,WE ops j=some s->(D j↔E j)):a.tmps[s]?=av.tmps[s]?:=by
 by_cases B:∃j,WE ops j=some s/\D j
 .obtain⟨j,b,f⟩:=B;by_cases w:s<a_0.tmps.size
  .rw[h.wr s j b f w,z.wr s j b ((F j b).1 f) w]
  .rw[Array.getElem?_eq_none (by rw[h.size];omega),Array.getElem?_eq_none (by rw[z.size];omega)]
 .rw[h.not s λ j b f=>B ⟨j,b,f⟩,z.not s λ j b f=>B ⟨j,b,(F j b).2 f⟩]
def PE{a':Act}(F:ops[l]?=some o)(f:∀cs b,o.op≠.select cs b)(h:∀s∈looks ops l,a.tmps[s]?=a'.tmps[s]?) :
  execOp a.eval o=execOp a'.eval o/\Region.wanted o (yielded ops a.tmps)=Region.wanted o (yielded ops a'.tmps):=by
 have E:looks ops l=Oper.looksAt ops o:=by simp[looks,F]
 rw[E]at h;constructor
 .refine execOp_congr o f λ x G=>?_;cases x with
  |tmp t=>
   have:=h t (by simp only[Oper.looksAt,mem_append,mem_filterMap,Array.mem_toList_iff];exact .inl ⟨.tmp t,G,rfl⟩);simp only[Act.eval,Array.getD_eq_getD_getElem?,this]
  |_=>rfl
 .unfold Region.wanted;cases z:o.guard with
  |none=>rfl
  |some p=>
   obtain⟨j,w⟩:=p;simp only[]
   have:yielded ops a.tmps j=yielded ops a'.tmps j:=by
    unfold yielded;cases B:(ops[j]?).bind (·.dst)with
    |none=>rfl
    |some t=>
     have:=h t (by simp only[Oper.looksAt,z,mem_append];exact .inr (by simp[B]));simp only[Option.bind_some,this]
   rw[this]
def Li(listed:Array Bool)(i:Nat):Prop:=listed.getD i false=true
def Y0(h:l<listed.size):Li (listed.setIfInBounds l true) j↔Li listed j\/j=l:=by
 simp only[Li,Array.getD_eq_getD_getElem?,Array.getElem?_setIfInBounds];by_cases e:l=j
 .subst e;simp[h]
 .have:¬j=l:=λ x=>e x.symm;simp[e,this]
def ED(z:Ju ops rl qs ts)(h:ZX ops j l):∀p,(qs++ts)[p]?=some l->j∈(qs++ts).take p:=by
 induction h with
 |edge f=>exact λ p w=>z.order p _ w _ f
 |trans _ f B=>
  intro p w;have:=z.order p _ w _ f;obtain⟨p',b⟩:=mem_iff_getElem?.1 this;rw[getElem?_take]at b;split at b
  .have h2:=B p' b;have:(qs++ts).take p' ⊆ (qs++ts).take p:=take_subset_take_left _ O1;exact this h2
  .cases b
def DJ(down:∀l,Li listed l->∀j∈Wr ops l,Li listed j)(h:ZX ops j l):Li listed l->Li listed j:=by
 induction h with
 |edge b=>exact λ f=>down _ f _ b
 |trans _ b w=>exact λ f=>w (down _ f _ b)
def J9(down:∀l,Li listed l->∀j∈Wr ops l,Li listed j)(h:ZX ops j l)(f:∀j∈Wr ops l,Li listed j):Li listed j:=by
 cases h with
 |edge b=>exact f _ b
 |trans h b=>exact DJ down h (f _ b)
def Hx(f:Ju ops rl qs ts)(h:(qs++ts)[l]?=some len)(b:(qs++ts)[n]?=some len):l=n:=by
 have w:=(List.getElem?_eq_some_iff.1 h).1;have z:=(List.getElem?_eq_some_iff.1 b).1;exact(getElem?_inj w f.nodup).1 (h.trans b.symm)
structure Inv(S:Sys P T)(ops:Array Oper)(rl qs:List Nat)(late:Nat->Bool)(G:Qa T->Prop)(U₀:Qa T)(a_0:Act)(Fin:Act->Qa T->Prop)(listed:Array Bool)(ac:Act)(U:Qa T)
  (pre L:List Nat) (C:Qa T->Prop) (av:Act) (val:Nat->Value):Prop where
 split:qs=pre++L
 der:ZS S ops rl (ZX ops) late G U₀ Fin L C av
 mono:Xz C
 base:U₀.le U
 c:C U
 av:Ji ops val (·∈pre) a_0 av
 ac:Ji ops val (Li listed) a_0 ac
 sub:∀i,Li listed i->i∈pre
 size:listed.size=ops.size
 down:∀i,Li listed i->∀j∈Wr ops i,Li listed j
 rels:∀i∈pre,i∈rl->Li listed i
 pend:∀i∈pre,¬Li listed i->∃o ai p,qs[p]?=some i/\ops[i]?=some o/\Ji ops val (·∈qs.take p) a_0 ai /\
  ((Region.wanted o (yielded ops ai.tmps)=false/\val i=undef) \/
   (Region.wanted o (yielded ops ai.tmps)=true/\(∀U',U.le U'->QJ S o ai (λ v' U2=>v'=val i/\∃U1,Qv U2 U1/\U'.le U1) U')/\(late i=true->∀U',G U'->QJ S o ai (λ v' U2=>v'=val i/\∃U1,Qv U2 U1/\U'.le U1) U')))
def ZR(val:Nat->Value)(i:Nat)(v:Value):Nat->Value:=λ j=>if j=i then v else val j
def Hc(h:j≠l):ZR I l v j=I j:=by simp[ZR,h]
def Hw(val:Nat->Value)(i:Nat)(v:Value):ZR val i v i=v:=by simp[ZR]
def PA(b:Ju ops rl qs ts)(h:qs=pre++l::rest):l∉pre:=by
 intro f;have:=(nodup_append.1 b.nodup).1;rw[h]at this;exact(nodup_append.1 this).2.2 l f l (mem_cons_self ..) rfl
def W5(h:qs=pre++l::rest):qs.take pre.length=pre/\qs[pre.length]?=some l:=by
 subst h;exact⟨S1,S1⟩
def W7{p i:Nat}(b:qs[p]?=some i):(qs++ts)[p]?=some i:=by
 rw[getElem?_append_left (List.getElem?_eq_some_iff.1 b).1];exact b
section
variable{Fin:Act->Qa T->Prop}{C:Qa T->Prop}{val:Nat->Value}
def Inv.note(H:Ju ops rl qs ts)(h:Inv S ops rl qs late G U₀ a_0 Fin listed ac U pre (l::rest) C av val)(v:Value) :
  Ji ops (ZR val l v) (·∈pre) a_0 av/\Ji ops (ZR val l v) (Li listed) a_0 ac /\
  (∀i∈pre,¬Li listed i->∃o f p,qs[p]?=some i/\ops[i]?=some o/\Ji ops (ZR val l v) (·∈qs.take p) a_0 f /\
   ((Region.wanted o (yielded ops f.tmps)=false/\ZR val l v i=undef) \/
    (Region.wanted o (yielded ops f.tmps)=true/\(∀U',U.le U'->QJ S o f (λ P E=>P=ZR val l v i/\∃w,Qv E w/\U'.le w) U')/\(late i=true->∀U',G U'->QJ S o f (λ P E=>P=ZR val l v i/\∃w,Qv E w/\U'.le w) U')))):=by
 have N:=PA H h.split;refine⟨h.av.val λ j z=>Hc (λ e=>N (e▸z)),h.ac.val λ j z=>Hc (λ e=>N (e▸h.sub j z)),λ i I W=>?_⟩;obtain⟨o,f,p,Q,X,F,V⟩:=h.pend i I W;have K:i≠l:=λ e=>N (e▸I);refine⟨o,f,p,Q,X,F.val λ j z=>Hc λ e=>?_,by rw[Hc K];exact V⟩;subst e;obtain⟨p',b⟩:=mem_iff_getElem?.1 z;rw[getElem?_take]at b;split at b
 .rename_i hlt;have Y:=Hx H (W7 (ts:=ts) b) (W7 (W5 h.split).2);obtain⟨T,B⟩:=mem_iff_getElem?.1 I;have L:T<pre.length:=(List.getElem?_eq_some_iff.1 B).1;have Z:=Hx H (W7 (ts:=ts) Q) (W7 (ts:=ts) (p:=T) (i:=i) (by rw[h.split,getElem?_append_left L];exact B));omega
 .cases b
end
section
variable{Fin:Act->Qa T->Prop}{C:Qa T->Prop}{val:Nat->Value}
def Inv.adv(I:Ju ops rl qs ts)(h:Inv S ops rl qs late G U₀ a_0 Fin listed ac U pre (l::rest) C av val)(K:ops[l]?=some o)(F:l∉rl)
  (N:ZS S ops rl (ZX ops) late G U₀ Fin rest C (av.put o.dst v))
  (z:(Region.wanted o (yielded ops av.tmps)=false/\v=undef)\/(Region.wanted o (yielded ops av.tmps)=true/\(∀U',U₀.le U'->C U'->QJ S o av (λ H E=>H=v/\∃w,Qv E w/\U'.le w) U')/\(late l=true->∀U',G U'->QJ S o av (λ H E=>H=v/\∃w,Qv E w/\U'.le w) U'))) :
  Inv S ops rl qs late G U₀ a_0 Fin listed ac U (pre++[l]) rest C (av.put o.dst v) (ZR val l v):=by
 obtain⟨L,T,V⟩:=h.note I v;have f:=Ji.put I L K;rw[Hw]at f;refine⟨by rw[h.split];simp,N,h.mono,h.base,h.c,?_,T,λ i b=>mem_append_left _ (h.sub i b),h.size,h.down,?_,?_⟩
 .have e:(λ j=>j∈pre\/j=l)=(·∈pre++[l]):=by funext j;simp
  rw[<- e];exact f
 .intro i b hr;rcases mem_append.1 b with b|b
  .exact h.rels i b hr
  .simp at b;subst b;exact absurd hr F
 .intro i b hl;rcases mem_append.1 b with b|b
  .exact V i b hl
  .simp at b;subst b;refine⟨o,av,pre.length,(W5 h.split).2,K,by rw[(W5 h.split).1];exact L,?_⟩;rw[Hw];rcases z with z|⟨Q,z,P⟩
   .exact .inl z
   .exact .inr ⟨Q,λ U' B=>z U' (h.base.trans B) (h.mono _ _ h.c B),P⟩
end
def GX(B:Ju ops rl qs ts)(down:∀n,Li listed n->∀j∈Wr ops n,Li listed j)(F:qs[l]?=some n)(G:¬Li listed n)(K:∀j∈Wr ops n,Li listed j)
   (L:len∈looks ops n) (H:WE ops j=some len):Li listed j↔j∈qs.take l:=by
 have w:=W7 (ts:=ts) F;have I:=(List.getElem?_eq_some_iff.1 F).1;by_cases e:n=j
 .subst e;refine⟨λ h=>absurd h G,λ h=>?_⟩;obtain⟨p',b⟩:=mem_iff_getElem?.1 h;rw[getElem?_take]at b;split at b
  .have:=Hx B (W7 (ts:=ts) b) w;omega
  .cases b
 .rcases B.look n (mem_of_getElem? F) j len e H L with z|z
  .have h1:=J9 down z K;have E:=ED B z l w;rw[take_append_of_le_length O1]at E;exact⟨λ _=>E,λ _=>h1⟩
  .refine⟨λ h=>absurd (DJ down z h) G,λ h=>?_⟩;obtain⟨p',b⟩:=mem_iff_getElem?.1 h;rw[getElem?_take]at b;split at b
   .have E:=ED B z p' (W7 (ts:=ts) b);obtain⟨N,f⟩:=mem_iff_getElem?.1 E;rw[getElem?_take]at f;split at f
    .have:=Hx B f w;omega
    .cases f
   .cases b
section
variable{Fin:Act->Qa T->Prop}{C:Qa T->Prop}{val:Nat->Value}
def Inv.reach(E:Ju ops rl qs ts)(b:l∈qs)(Z:∀j∈Wr ops l,Li listed j) :
  ∀(L pre:List Nat)(C:Qa T->Prop)(av:Act)(val:Nat->Value),Inv S ops rl qs late G U₀ a_0 Fin listed ac U pre L C av val ->
   ∃f Q W H B,Inv S ops rl qs late G U₀ a_0 Fin listed ac U f Q W H B/\(l∈f\/∃rest,Q=l::rest/\l∈rl):=by
 intro L
 induction L with
 |nil=>
  intro pre C av val h;exact⟨pre,[],C,av,val,h,.inl (by have:=h.split;simp at this;exact this▸b)⟩
 |cons x rest V=>
  intro pre C av val h;by_cases w:x∈rl
  .by_cases e:x=l
   .subst e;exact⟨pre,_,C,av,val,h,.inr ⟨rest,rfl,w⟩⟩
   .by_cases hpre:l∈pre
    .exact⟨pre,_,C,av,val,h,.inl hpre⟩
    .exfalso
     have z:l∈rest:=by
      rw[h.split]at b;simp at b;rcases b with b|b|b
      .exact absurd b hpre
      .exact absurd b.symm e
      .exact b
     have X:ZX ops x l:=by
      refine E.behind pre.length x (W5 h.split).2 w l ?_;rw[h.split];simp[z]
     exact PA E h.split (h.sub x (J9 h.down X Z))
  .have hder:=h.der;cases hder with
   |un _ K P I=>exact V _ _ _ _ (h.adv E K w I (.inl ⟨P,rfl⟩))
   |det v _ K P N Y I=>exact V _ _ _ _ (h.adv E K w I (.inr ⟨P,N,Y⟩))
   |rel F z=>exact absurd z w
   |last z=>exact absurd z w
end
def Pa(h:QJ S o a K U)(f:∀v U,K v U->N (a.put o.dst v) U):HP S ro o a N U:=
 QJ.opV (h.mono f)
def P9(h:QJ S o a K U):∀c,o.op≠.defer c:=by
 intro c e;unfold QJ at h;simp only[execOp,e]at h;have z:=(O8 (P:=P) (resolve a.eval c o.type) (λ d=>(pure (.defer d):Sem Next))).1 h;have b:Qq P (resolve a.eval c o.type) (λ _ _=>False) U:=Qq.mono _ z λ d U B=>B;obtain⟨callee,args,w⟩:=c;cases callee with
 |value f=>cases E:a.eval f <;> simp[resolve,Deferred.ofValue,E,Qq,pure,stuck]at b
 |invoke r F=>simp[resolve,Qq,pure]at b
 |builtin bb=>simp[resolve,Qq,pure]at b
def Kg{k t:Nat}(h:Region.ready .any ops listed≠[]):∃i∈Region.ready .any ops listed,∃t',Region.linearise.go .any ops (k+1) t listed []=i::Region.linearise.go .any ops k t' (listed.setIfInBounds i true) []:=by
 have b:t % (Region.ready .any ops listed).length<(Region.ready .any ops listed).length:=Nat.mod_lt _ (length_pos_iff.2 h);refine⟨(Region.ready .any ops listed)[t % (Region.ready .any ops listed).length],getElem_mem _,t / (Region.ready .any ops listed).length,?_⟩;have f:(Region.ready .any ops listed)[t % (Region.ready .any ops listed).length]?=some (Region.ready .any ops listed)[t % (Region.ready .any ops listed).length]:=getElem?_eq_getElem b;simp only[Region.linearise.go]
 change(match(Region.ready .any ops listed)[t % (Region.ready .any ops listed).length]? with
   |some i=>Region.linearise.go .any ops k (t / (Region.ready .any ops listed).length) (listed.setIfInBounds i true) [i]
   |none=>[].reverse)=_
 rw[f];simp only[];rw[linearise_go_acc,reverse_singleton,singleton_append]
def Vv(f:Ju ops rl qs ts)(H:listed.size=ops.size):∀(p i:Nat),(qs++ts)[p]?=some i->¬Li listed i->∃x,x∈Region.ready .any ops listed:=by
 intro p
 induction p using Nat.strongRecOn with
 |ind p I=>
  intro i B F;by_cases E:∀j∈Wr ops i,Li listed j
  .refine⟨i,J2.2 ⟨(f.mem i).2 (mem_of_getElem? B),?_,E⟩⟩;have z:i<listed.size:=by rw[H];exact(f.mem i).2 (mem_of_getElem? B)
   simp only[Li,Array.getD_eq_getD_getElem?,Array.getElem?_eq_getElem z,Option.getD_some,Bool.not_eq_true]at F ⊢;exact F
  .obtain⟨j,h,w⟩:∃j∈Wr ops i,¬Li listed j:=by
    apply Classical.byContradiction;intro G;exact E λ j h=>Classical.byContradiction λ w=>G ⟨j,h,w⟩
   obtain⟨p',b⟩:=mem_iff_getElem?.1 (f.order p i B j h);rw[getElem?_take]at b;split at b
   .exact I p' (by assumption) j b w
   .cases b
def KH(h:l∈Region.ready .any ops listed):¬Li listed l:=by
 have:=(J2.1 h).2.1;simp only[Li,Array.getD_eq_getD_getElem?]at this ⊢;cases b:listed[l]? <;> simp_all
def xC(h:Ju ops rl qs ts)(z:∀i,Li listed i↔i∈(qs++ts).take l):∀i,Li listed i->∀j∈Wr ops i,Li listed j:=by
 intro i f j w;rw[z]at f ⊢;obtain⟨B,b⟩:=mem_iff_getElem?.1 f;rw[getElem?_take]at b;split at b
 .have:=h.order B i b j w;exact take_subset_take_left _ O1 this
 .cases b
def II(z:Ju ops rl qs ts):∀(q:Nat)(p t:Nat)(listed:Array Bool),p+q=ts.length->listed.size=ops.size->(∀i,Li listed i↔i∈(qs++ts).take (qs.length+p)) ->
  Region.linearise.go .any ops q t listed []=ts.drop p:=by
 intro q
 induction q with
 |zero=>intro p t listed T _ _;simp[Region.linearise.go,drop_of_length_le (show ts.length<=p by omega)]
 |succ q X=>
  intro p t listed T P H;have B:p<ts.length:=O1
  have V:ts[p]?=some ts[p]:=getElem?_eq_getElem B;have f:(qs++ts)[qs.length+p]?=some ts[p]:=by rw[getElem?_append_right O1];simp
  have E:¬Li listed ts[p]:=by
   rw[H];intro h;obtain⟨F,b⟩:=mem_iff_getElem?.1 h;rw[getElem?_take]at b;split at b
   .have:=Hx z b f;omega
   .cases b
  obtain⟨y,W⟩:=Vv z P _ _ f E;obtain⟨i,G,t',I⟩:=Kg (k:=q) (t:=t) (ne_nil_of_mem W);have w:=xC z H
  have K:i=ts[p]:=by
   have L:=KH G;have U:=(J2.1 G).2.2;have S:=(z.mem i).1 (J2.1 G).1;obtain⟨F,b⟩:=mem_iff_getElem?.1 S;by_cases Q:F<qs.length+p
   .exfalso;apply L;rw[H];exact mem_iff_getElem?.2 ⟨F,by rw[getElem?_take,if_pos Q];exact b⟩
   .by_cases h2:F=qs.length+p
    .subst h2;rw[f]at b;cases b;rfl
    .exfalso;have N:ts[F-qs.length]?=some i:=by rw[getElem?_append_right O1]at b;exact b
     refine E (J9 w (z.tail _ i N ts[p] ?_) U);refine mem_append_right _ (mem_iff_getElem?.2 ⟨p,?_⟩);rw[getElem?_take,if_pos O1];exact V
  subst K;rw[I,X (p+1) t' _ O1 (by simpa using P),drop_eq_getElem_cons B];intro j;rw[Y0 (by rw[P];exact(J2.1 G).1),H]
  have:(qs++ts).take (qs.length+(p+1))=(qs++ts).take (qs.length+p)++[ts[p]]:=by
   rw[<- Nat.add_assoc,take_add_one,f];rfl
  rw[this];simp
def Ji.eq{b:Nat->Prop}(h:Ji ops I D a_0 a)(f:Ji ops I b a_0 av)(F:∀j,D j↔b j):a=av:=by
 obtain⟨G,w⟩:=a;obtain⟨H,z⟩:=av;have B:w=z:=h.defers.trans f.defers.symm
 have E:G=H:=by
  apply Array.ext_getElem?;intro s;exact h.slot f (s:=s) λ j _=>F j
 rw[B,E]
section
variable{C:Qa T->Prop}{val:Nat->Value}
def vP(Y:Ju ops rl qs ts):∀(r t:Nat)(listed:Array Bool)(ac:Act)(U:Qa T)(pre L:List Nat)(C:Qa T->Prop)(av:Act)(val:Nat->Value),
  Inv S ops rl qs late G U₀ a_0 (λ a U=>QT S fn ro ops ts Q a U) listed ac U pre L C av val->(qs.filter λ i=>!listed.getD i false).length=r ->
  QT S fn ro ops (Region.linearise.go .any ops (r+ts.length) t listed []) Q ac U:=by
 intro r
 induction r generalizing U₀ with
 |zero=>
  intro t listed ac U pre L C av val h hr
  have ag:∀i∈qs,Li listed i:=by
   intro i hi;have:=filter_eq_nil_iff.1 (length_eq_zero_iff.1 hr) i hi;simpa[Li]using this
  have hL:L=[]:=by
   cases L with
   |nil=>rfl
   |cons x rest=>exact absurd (h.sub x (ag x (by rw[h.split];simp))) (PA Y h.split)
  subst hL;have Z:pre=qs:=by have:=h.split;simp at this;exact this.symm
  subst Z;have aj:=h.der;cases aj with
  |nil ak=>
   have e:av=ac:=h.av.eq h.ac λ j=>⟨ag j,h.sub j⟩;have:=ak U h.base h.c;rw[e]at this;rw[Nat.zero_add,II Y ts.length 0 t listed O1 h.size λ i=>?_]
   .simpa using this
   .rw[Nat.add_zero,take_left']
    .exact⟨h.sub i,ag i⟩
    .rfl
 |succ r ih=>
  intro t listed ac U pre L C av val h hr;obtain⟨q,hq⟩:∃q,q∈qs.filter λ i=>!listed.getD i false:=exists_mem_of_length_pos O1;have a0:=(mem_filter.1 hq).1;have az:¬Li listed q:=by have:=(mem_filter.1 hq).2;simpa[Li]using this
  obtain⟨pq,a5⟩:=mem_iff_getElem?.1 a0;obtain⟨y,hy⟩:=Vv Y h.size _ _ (W7 (ts:=ts) a5) az;obtain⟨i,hi,t',a2⟩:=Kg (k:=r+ts.length) (t:=t) (ne_nil_of_mem hy);have am:=KH hi;have N:=(J2.1 hi).2.2;have ay:=(J2.1 hi).1
  have ax:i∈qs:=by
   rcases mem_append.1 ((Y.mem i).1 ay)with hm|hm
   .exact hm
   .obtain⟨p1,hp1⟩:=mem_iff_getElem?.1 hm;exact absurd (J9 h.down (Y.tail p1 i hp1 q (mem_append_left _ a0)) N) az
  rw[show r+1+ts.length=(r+ts.length)+1 by omega,a2];have E:∀j,Li (listed.setIfInBounds i true) j↔Li listed j\/j=i:=λ j=>Y0 (by rw[h.size];exact ay)
  have I:(qs.filter λ x=>!(listed.setIfInBounds i true).getD x false).length=r:=by
   have a4:=(nodup_append.1 Y.nodup).1
   have e:(qs.filter λ x=>!(listed.setIfInBounds i true).getD x false)=(qs.filter λ x=>!listed.getD x false).filter (λ x=>x != i):=by
    rw[filter_filter];refine filter_congr λ x _=>?_;have:=E x;simp only[Li]at this;cases hx:(listed.setIfInBounds i true).getD x false <;> cases a6:listed.getD x false <;> by_cases e:x=i <;> simp_all
   rw[e,<- Nodup.erase_eq_filter (a4.filter _),length_erase_of_mem (mem_filter.2 ⟨ax,by simpa[Li]using am⟩),hr];rfl
  obtain⟨H,L',C',ad,ab,w,ao⟩:=h.reach Y ax N
  have V:∀j,Li (listed.setIfInBounds i true) j->∀k∈Wr ops j,Li (listed.setIfInBounds i true) k:=by
   intro j f k hk;rw[E]at f ⊢;rcases f with f|rfl
   .exact .inl (h.down j f k hk)
   .exact .inl (N k hk)
  have X:∀{val:Nat->Value}{o:Oper},ops[i]?=some o->Ji ops val (Li listed) a_0 ac->Ji ops val (Li (listed.setIfInBounds i true)) a_0 (ac.put o.dst (val i)):=by
   intro val o W ha;have:=Ji.put Y ha W;have e:Li (listed.setIfInBounds i true)=λ j=>Li listed j\/j=i:=by funext j;exact propext (E j)
   rw[e];exact this
  by_cases Z:i∈H
  ·
   obtain⟨o,ai,p,hp,W,a1,hh⟩:=w.pend i Z am;have B:=PE W (Y.nosel i o W) (a:=ac) (a':=ai) λ s hs=>w.ac.slot a1 λ j f=>GX Y w.down hp am N hs f
   have next:∀P,U.le P->Inv S ops rl qs late G U₀ a_0 (λ a U=>QT S fn ro ops ts Q a U) (listed.setIfInBounds i true) (ac.put o.dst (ab i)) P H L' C' ad ab:=λ P K=>
    ⟨w.split,w.der,w.mono,w.base.trans K,w.mono _ _ w.c K,w.av,X W w.ac,λ j f=>((E j).1 f).elim (w.sub j) (λ e=>e▸Z),by simpa using w.size,V,λ j f hr=>(E j).2 (.inl (w.rels j f hr)),
     λ j f hl=>by
      obtain⟨o,ai,p,a,b,c,d⟩:=w.pend j f λ hx=>hl ((E j).2 (.inl hx));exact⟨o,ai,p,a,b,c,d.imp id λ⟨x,y,z⟩=>⟨x,λ U' hU=>y U' (K.trans hU),z⟩⟩⟩
   rcases hh with⟨hw,hv⟩|⟨hw,an,hg⟩
   .refine GS W (by rw[B.2];exact hw) ?_;have:=ih t' _ _ _ _ _ _ _ _ (next U (.refl U)) I;rw[hv]at this;exact this
   .have aa:QJ S o ac (λ v' U2=>v'=ab i/\∃P,Qv U2 P/\U.le P) U:=by have:=an U (.refl U);unfold QJ at this ⊢;rw[B.1];exact this
    refine XP W (by rw[B.2];exact hw) (.inr (P9 aa)) (Pa aa λ v U2 hv=>?_);obtain⟨rfl,P,hs,K⟩:=hv;exact G0 hs (ih t' _ _ _ _ _ _ _ _ (next P K) I)
  .obtain⟨rest,rfl,hrl⟩:=ao.resolve_left Z;have aj:=w.der;cases aj with
   |un hx _ _ _=>exact absurd hrl hx
   |det _ hx _ _ _ _ _=>exact absurd hrl hx
   |@rel _ _ _ _ o F _ hF W hw an hd=>
    obtain⟨aq,al⟩:=W5 w.split
    have B:=PE W (Y.nosel i o W) (a:=ac) (a':=ad) λ s hs=>w.ac.slot w.av λ j f=>by
     have:=GX Y w.down al am N hs f;rw[aq]at this;exact this
    have aa:QJ S o ac (λ v' U2=>∃P,Qv U2 P/\F v' P/\U.le P) U:=by have:=an U w.base w.c;unfold QJ at this ⊢;rw[B.1];exact this
    refine XP W (by rw[B.2];exact hw) (.inr (P9 aa)) (Pa aa λ v U2 hv=>?_);obtain⟨P,hs,au,K⟩:=hv;refine G0 hs ?_;obtain⟨n1,n2,n3⟩:=w.note Y v;have ah:=Ji.put Y n1 W;have ae:=X W n2;rw[Hw]at ah ae;refine ih t' _ _ P (H++[i]) rest (λ U'=>C' U'/\F v U') (ad.put o.dst v) (ZR ab i v) ⟨by rw[w.split];simp,hd v ⟨P,w.base.trans K,w.mono _ _ w.c K,au⟩,λ a b⟨x,y⟩hl=>⟨w.mono a b x hl,hF v a b y hl⟩,w.base.trans K,⟨w.mono _ _ w.c K,au⟩,?_,ae,?_,by simpa using w.size,V,?_,?_⟩ I
    .have e:(λ j=>j∈H\/j=i)=(·∈H++[i]):=by funext j;simp
     rw[<- e];exact ah
    .intro j f;rcases(E j).1 f with f|rfl
     .exact mem_append_left _ (w.sub j f)
     .simp
    .intro j f hr;rw[E];rcases mem_append.1 f with f|f
     .exact .inl (w.rels j f hr)
     .exact .inr (by simpa using f)
    .intro j f hl;rcases mem_append.1 f with f|f
     .obtain⟨o,ai,p,a,b,c,d⟩:=n3 j f λ hx=>hl ((E j).2 (.inl hx));exact⟨o,ai,p,a,b,c,d.imp id λ⟨x,y,z⟩=>⟨x,λ U' hU=>y U' (K.trans hU),z⟩⟩
     .exact absurd ((E j).2 (.inr (by simpa using f))) hl
   |@last _ _ _ o _ hG ap W hw an ak=>
    obtain⟨aq,al⟩:=W5 w.split
    have B:=PE W (Y.nosel i o W) (a:=ac) (a':=ad) λ s hs=>w.ac.slot w.av λ j f=>by
     have:=GX Y w.down al am N hs f;rw[aq]at this;exact this
    have aa:QJ S o ac (λ v' U2=>v'=undef/\∃P,Qv U2 P/\G P) U:=by have:=an U w.base w.c;unfold QJ at this ⊢;rw[B.1];exact this
    refine XP W (by rw[B.2];exact hw) (.inr (P9 aa)) (Pa aa λ v U2 hv=>?_);obtain⟨rfl,P,hs,aw⟩:=hv;refine G0 hs ?_;obtain⟨n1,n2,n3⟩:=w.note Y undef;have ah:=Ji.put Y n1 W;have ae:=X W n2;rw[Hw]at ah ae;refine ih (U₀:=P) t' _ _ P (H++[i]) [] G (ad.put o.dst undef) (ZR ab i undef) ⟨by rw[w.split];simp,.nil λ U' _ hg=>ak ⟨U,w.base,w.c⟩ U' hg,hG,.refl P,aw,?_,ae,?_,by simpa using w.size,V,?_,?_⟩ I
    .have e:(λ j=>j∈H\/j=i)=(·∈H++[i]):=by funext j;simp
     rw[<- e];exact ah
    .intro j f;rcases(E j).1 f with f|rfl
     .exact mem_append_left _ (w.sub j f)
     .simp
    .intro j f hr;rw[E];rcases mem_append.1 f with f|f
     .exact .inl (w.rels j f hr)
     .exact .inr (by simpa using f)
    .intro j f hl;rcases mem_append.1 f with f|f
     .have hnj:¬Li listed j:=λ hx=>hl ((E j).2 (.inl hx));obtain⟨o,ai,p,a,b,c,d⟩:=n3 j f hnj;refine⟨o,ai,p,a,b,c,d.imp id λ⟨x,y,z⟩=>?_⟩
      have a3:late j=true:=by
       cases hb:late j with
       |true=>rfl
       |false=>exact absurd (J9 h.down (ap j hb) N) hnj
      exact⟨x,λ U' hU=>z a3 U' (hG _ _ aw hU),z⟩
     .exact absurd ((E j).2 (.inr (by simpa using f))) hl
end
def UX(rl qs ts:List Nat)(F:P.follows .mixedOrders=true)(z:PK ops rl qs ts=true)
  (h:ZS S ops rl (ZX ops) late G U (λ a U=>QT S fn ro ops ts Q a U) qs (λ _=>True) a):Zs S fn ro (.region l ops true) Q a U:=by
 have w:=E_ z;refine IT λ t=>?_;simp only[Region.schedule,F,Bool.true_or,if_true,Region.linearise]
 have E:(qs.filter λ i=>!(Array.replicate ops.size false).getD i false).length=qs.length:=by
  congr 1;rw[filter_eq_self];intro x _;simp[Array.getElem?_replicate];split <;> rfl
 have f:ops.size=qs.length+ts.length:=by
  have B:(qs++ts).Perm (range ops.size):=by
   refine(perm_ext_iff_of_nodup w.nodup nodup_range).2 λ x=>?_;rw[mem_range];exact(w.mem x).symm
  have:=B.length_eq;simp at this;omega
 have b:∀i,¬Li (Array.replicate ops.size false) i:=by
  intro i h;simp only[Li,Array.getD_eq_getD_getElem?,Array.getElem?_replicate]at h;split at h <;> simp at h
 have:=vP (S:=S) (fn:=fn) (ro:=ro) (Q:=Q) w qs.length t (Array.replicate ops.size false) a U [] qs (λ _=>True) a (λ _=>undef)
  ⟨rfl,h,λ _ _ _ _=>trivial,.refl U,trivial,⟨rfl,rfl,λ _ _ _ h=>by simp at h,λ _ _=>rfl⟩,⟨rfl,rfl,λ _ j _ h=>absurd h (b j),λ _ _=>rfl⟩,λ i h=>absurd h (b i),S1,λ i h=>absurd h (b i),S1,S1⟩ E
 rw[<- f]at this;exact this
def J.body(z:Fr fn none b)(h:Zs S fn none c Q a U)
  (F:∀e a' U',Q e a' U'->(e=.normal\/e=.ret)/\∀todo,J S Stop m (Rf { fr b a' todo with mode:=.returning } cs) U'):J S Stop m (R b a [.code c] cs) U:=by
 refine h Stop m b [] cs z λ e a' U' q=>?_;obtain⟨E,B⟩:=F e a' U' q;have f:=z.2.1;rcases E with rfl|rfl
 .refine .still (g':=Rf { fr b a' []with mode:=.returning } cs) rfl (λ w=>?_) (B []);simp[R,Rf,stepG,stepG.exec,fr,f]
 .simp only[Xm,Xn,f];exact⟨.inr trivial,B⟩
def X0(P:Program)(f:Func)(Q:Value->Qa T->Prop)(tmps:Array Value):List Deferred->Qa T->Prop
 |[],U=>Qq P (results f tmps) Q U
 |{ target:=.collected blk,.. }::ds,U=>Qq P (Instr.takeDeferred blk) (λ calls U'=>calls=[]/\X0 P f Q tmps ds U') U
 |_,_=>False
def X0.step(H:P.funcs[b.fn]?=some fd)(B:b.kind=.normal\/b.kind=.wrapped)(I:∀v U',R' v U'->J S Stop m (Rf (A.finish v) cs) U') :
  ∀(ds:List Deferred)(todo:List Item)(U:Qa T),X0 P fd R' tmps ds U->J S Stop m (Rf { fr b ⟨tmps,ds⟩ todo with mode:=.returning } (A::cs)) U:=by
 intro ds
 induction ds with
 |nil=>
  intro todo U h;refine .sem _ rfl h λ w x w' es z _=>⟨Rf (A.finish x) cs,seen P b.fn es,?_,Jm P _ es,λ U' q=>I _ _ q⟩;obtain⟨F,E⟩:Sem.run P (results fd tmps) w=.ok x w'/\Sem.events P (results fd tmps) w #[]=es:=by simpa using z
  rcases B with B|B <;> simp[Rf,stepG,unwind,fr,H,F,E,doReturn,B,GStep.after]
 |cons d ds K=>
  intro todo U h;obtain⟨L,args⟩:=d;cases L with
  |collected blk=>
   simp only[X0]at h;refine .sem _ rfl h λ w x w' es z G=>⟨Rf { fr b ⟨tmps,x++ds⟩ todo with mode:=.returning } (A::cs),seen P b.fn es,?_,Jm P _ es,λ U' q=>?_⟩
   .obtain⟨F,E⟩:Sem.run P (Instr.takeDeferred blk) w=.ok x w'/\Sem.events P (Instr.takeDeferred blk) w #[]=es:=by simpa using z
    simp[Rf,stepG,unwind,fr,F,E,GStep.after]
   .obtain⟨rfl,q⟩:=q;exact K todo U' q
  |_=>exact h.elim
def SQ(P:Program)(f:Func)(Q:Value->Qa T->Prop):Ex->Act->Qa T->Prop
 |.normal,a,U=>X0 P f Q a.tmps a.defers U
 |.ret,a,U=>X0 P f Q a.tmps a.defers U
 |.exit _,_,_=>False
def Qb.of_body{f:FuncId}(B:P.funcs[f]?=some fd)(F:fd.body=some c)
  (h:Zs S f none c (SQ P fd K) { tmps:=args++Array.replicate (fd.ntmps-args.size) undef,defers:=[] } U):Qb S f args K U:=by
 intro Stop m w cs E
 let b:Frame:={ (default:Frame)with fn:=f,kind:=.normal }
 have z:Rf (Frame.enter P f args .normal) (w::cs)=R b { tmps:=args++Array.replicate (fd.ntmps-args.size) undef,defers:=[] } [.code c] (w::cs):=by
  simp[Rf,R,Frame.enter,fr,B,F,b];rfl
 rw[z];refine J.body (fn:=f) ⟨rfl,rfl,by simp[b],S1⟩ h λ e a' U' q=>?_;cases e with
 |normal=>exact⟨.inl rfl,λ todo=>X0.step B (.inl rfl) E a'.defers todo U' q⟩
 |ret=>exact⟨.inr rfl,λ todo=>X0.step B (.inl rfl) E a'.defers todo U' q⟩
 |exit id=>exact q.elim
def SJ:Ex->Option Code
 |.normal=>none
 |.ret=>some .ret
 |.exit id=>some (.exit id)
def Lu(P:Program)(l:Nat)(Q:Value->Qa T->Prop)(e:Ex)(_:Act)(U:Qa T):Prop:=Qq P (Instr.endRound l (SJ e)) Q U
def J_.of_body{f:FuncId}
  (h:Zs S f (some l) assign (λ e a' U'=>e=.normal/\Qq P (Instr.beginRound l) (λ _ F=>Zs S f (some l) as (Lu P l R') a' F) U') ⟨tmps,[]⟩ U):J_ S l f tmps assign as R' U:=by
 intro Stop m c cs W
 let b:Frame:={ (default:Frame)with fn:=f,kind:=.normal,roundOf:=some l }
 have K:Fr f (some l) b:=⟨rfl,rfl,by simp[b],by simp[b]⟩;have E:b.roundOf=some l:=rfl
 have B:Rf (Frame.round l f tmps assign as .normal) (c::cs)=R b ⟨tmps,[]⟩ [.code assign,.beginRound,.code as] (c::cs):=by
  simp[Rf,R,Frame.round,fr,b]
 rw[B];refine h Stop m b [.beginRound,.code as] (c::cs) K λ e a' U' q=>?_;obtain⟨rfl,q⟩:=q;show J S Stop m (R b a' [.beginRound,.code as] (c::cs)) U'
 have q':Qq P (do Instr.beginRound l;pure Next.skip:Sem Next) (λ n F=>n=.skip/\Zs S f (some l) as (Lu P l R') a' F) U':=
  (O8 _ _).2 (Qq.mono _ q λ _ _ h=>⟨rfl,h⟩)
 refine .sem _ rfl q' λ w x w' es z H=>⟨R b a' [.code as] (c::cs),seen P f es,?_,Jm P _ es,λ F q=>?_⟩
 .obtain⟨_,rfl,_⟩:=H;have I:(b.kind==CallKind.early)=false:=rfl;show stepG.apply P true (fr b a' [.beginRound,.code as]) (c::cs) none (do (Instr.beginRound l);pure .skip) w=_;simp only[stepG.apply,if_true,z];simp[fr,I,GStep.after,R,Frame.finish,b]
 .obtain⟨_,q⟩:=q;refine q Stop m b [] (c::cs) K λ e G L q=>?_
  have leave:Xn S Stop m b (c::cs) (SJ e) G L:=by
   simp only[Xn,E];exact⟨c,cs,rfl,Qq.mono _ q λ v N Z=>W v N Z⟩
  cases e with
  |normal=>
   simp only[Xn,E,SJ]at leave;obtain⟨c',rest,e,Y⟩:=leave;cases e;refine .sem _ rfl Y λ w x w' es z _=>⟨Rf (c.finish x) cs,seen P f es,?_,Jm P _ es,λ _ h=>h⟩;obtain⟨X,V⟩:Sem.run P (Instr.endRound l none) w=.ok x w'/\Sem.events P (Instr.endRound l none) w #[]=es:=by simpa using z
   simp[R,stepG,stepG.exec,fr,b,X,V,doReturn,GStep.after,Rf]
  |exit id=>exact .inr ⟨rfl,leave⟩
  |ret=>exact leave
def Vz(f:Operand)(l:Nat):Call:={ callee:=.value f,args:=#[.const (.func (.yield l) #[] #[])],argTypes:=#[] }
def zy(h:Qq P (Instr.enterLoop fn a.tmps params assign as ro) (λ lm U1=>
   Qq P (do let d <- resolve a.eval (Vz x lm.1) 0;invoke d.target d.args:Sem Next) (λ nx U2=>match nx with
    |.enter f' args=>Qb S f' args (λ _ U3=>Qq P (Instr.endLoop lm.1) (λ j U4=>match j with
      |none=>Q .normal { a with defers:=lm.2++a.defers } U4
      |some c=>Zs S fn ro c Q { a with defers:=lm.2++a.defers } U4) U3) U2
    |_=>False) U1) U):Zs S fn ro (.rangeFunc x params assign as) Q a U:=by
 intro Stop m b k cs hb hc;have ad:(b.kind==CallKind.early)=false:=by simpa using hb.2.2.1
 refine .priv ⟨rfl,λ w ok=>?_⟩;obtain⟨⟨l,mark⟩,ab,H,U1,V,B,F,aa,h,Y⟩:=Qq.sound _ (es₀:=#[]) h ok;obtain⟨nx,ac,I,U2,W,E,G,ae,h,Z⟩:=Qq.sound _ (es₀:=#[]) h aa;have L:(Instr.enterLoop b.fn a.tmps params assign as b.roundOf).runT P w #[]=(.ok (l,mark) ab,H):=by rw[hb.1,hb.2.1];simpa using V
 have N:(do let d <- resolve a.eval (Vz x l) 0;invoke d.target d.args:Sem Next).runT P ab #[]=(.ok nx ac,I):=by simpa using W
 cases nx with
 |enter f' args=>
  refine⟨Rf (Frame.enter P f' args .normal) (fr b { a with defers:=mark++a.defers } (.inRangeFunc l::k)::cs),ac,seen P b.fn H++seen P b.fn I,U2,?_,?_,F.trans G,ae,Z.trans Y,?_⟩
  .have z:(fr b { a with defers:=mark++a.defers } (.inRangeFunc l::k)).eval=a.eval:=by rw[KO];rfl
   show GStep.after (seen P b.fn ((Instr.enterLoop b.fn a.tmps params assign as b.roundOf).runT P w #[]).2) (match((Instr.enterLoop b.fn a.tmps params assign as b.roundOf).runT P w #[]).1 with
    |.ok (l,mark) w=>stepG.apply P true (fr b { a with defers:=mark++a.defers } (.inRangeFunc l::k)) cs none (do let d <- resolve (fr b { a with defers:=mark++a.defers } (.inRangeFunc l::k)).eval (Vz x l) 0;invoke d.target d.args) w
    |.halt _ w=>_)=_
   rw[L];simp only[z];simp only[stepG.apply,if_true,N];simp[fr,ad,GStep.after,Rf]
  .intro e z;rcases Array.mem_append.1 z with z|z
   .exact⟨(B e (Jm P _ _ e z)).1,(B e (Jm P _ _ e z)).2.mono G.size⟩
   .exact⟨JU.of F (E e (Jm P _ _ e z)).1,(E e (Jm P _ _ e z)).2⟩
  .refine h Stop m _ cs λ v U3 h=>?_;have K:(fr b { a with defers:=mark++a.defers } (.inRangeFunc l::k)).finish v=fr b { a with defers:=mark++a.defers } (.endRangeFunc l::k):=by simp[Frame.finish,fr]
   rw[K];refine .sem (g:=R b { a with defers:=mark++a.defers } (.endRangeFunc l::k) cs) _ rfl h λ w j w' es X _=>⟨R b { a with defers:=mark++a.defers } ((j.map Item.code).toList++k) cs,seen P b.fn es,?_,Jm P _ es,λ U4 q=>?_⟩
   .obtain⟨hr,z⟩:Sem.run P (Instr.endLoop l) w=.ok j w'/\Sem.events P (Instr.endLoop l) w #[]=es:=by simpa using X
    simp[R,stepG,stepG.exec,fr,hr,z,GStep.after]
   .cases j with
    |none=>exact hc _ _ _ q
    |some c=>exact q Stop m b k cs hb hc
 |_=>exact h.elim
def JP(U:Qa T):Prop:=∀r∈U.M,U.I r.blk=none
def Qb.sep{f:FuncId}{args:Array Value}{R R':Value->Qa T->Prop}{U:Qa T}(h:Qb S f args R U)(z:∀v U',JP U'->R v U'->∃U'',Qv U' U''/\R' v U''):Qb S f args R' U:=by
 intro Stop m c cs k;refine h Stop m c cs λ v U' r=>?_;by_cases b:JP U'
 .obtain⟨U'',h1,h2⟩:=z v U' b r;exact .shift h1 (k v _ h2)
 .exact .priv ⟨rfl,λ w ok=>absurd ok.sep b⟩
def Qb.sep0(h:JP U->Qb S fn args K U):Qb S fn args K U:=by
 intro Stop m c cs k;by_cases b:JP U
 .exact h b Stop m c cs k
 .exact .priv ⟨rfl,λ w ok=>absurd ok.sep b⟩
def Zp(S:Sys P T)(l:Nat)(vs:List Value)(K:Value->Qa T->Prop)(U:Qa T):Prop:=Qq P (Instr.yield l vs.toArray) (ZF S K) U
abbrev Fm:=Nat->Value
variable{f:Fm}
def JE(f:Fm)(d:Nat)(v:Value):Fm:=λ t=>bif Nat.beq t d then v else f t
def ZB(f:Fm):Option Nat->Value->Fm
 |some d,v=>JE f d v
 |none,_=>f
def Zg(f:Fm):Operand->Value
 |.tmp t=>f t
 |.const v=>v
 |.global g=>.pb g
 |.func g=>.func (.func g) #[] #[]
inductive O where
 |mv (x:Operand)
 |pick (c a b:Operand)
 |add (x y:Operand)|sub (x y:Operand)|mul (x y:Operand)
 |cmp (op:BinOp) (x y:Operand)
 |beq (op:BinOp) (x y:Operand)
 |ar (op:BinOp) (x y:Operand)
 |teq (op:BinOp) (x y:Operand)
 |not (x:Operand)
 |len (x:Operand)
 |lenT (x:Operand)
 |lenM (x:Operand)
 |conv (k:IntKind) (x:Operand)
 |off (n:Nat) (x:Operand)
 |idx (sz:Nat) (x i:Operand)
 |aidx (n sz:Nat) (x i:Operand)
 |sidx (x i:Operand)
 |ld (x:Operand)
 |ldn (n:Nat) (x:Operand)
 |st (n:Nat) (x v:Operand)
 |box (t:TypeId) (x:Operand)
 |boxM (t:TypeId) (x:Operand)
 |alloc (t:TypeId) (zero:Array Value)
 |ext (x:Operand) (i:Nat)
 |part (off n:Nat) (x:Operand)
 |part1 (off:Nat) (x:Operand)
 |mkf (fn:Fn) (first capt:Array Operand)
 |call (f:Operand) (args:Array Operand)
 |nilc (x:Operand)
 |sub3 (sz:Nat) (x:Operand) (lo hi:Option Operand)
 |build (zero:Array Value) (parts:List (Nat×Nat×Operand))
 |bsl (t:TypeId) (len:Nat) (zero:Array Value) (parts:List (Nat×Nat×Operand))
 |raw (o:Oper)
def WL(v:Value)(K:Value->Prop):Prop:=
 match v with
 |.bool b=>K (.bool b)|.int k n=>K (.int k n)|.float k n=>K (.float k n)|.complex k a b=>K (.complex k a b)|.string s=>K (.string s)
 |.pointer a=>K (.pointer a)|.slice a l c=>K (.slice a l c)|.map r=>K (.map r)|.chan r=>K (.chan r)|.func f a b=>K (.func f a b)
 |.nilFunc=>K .nilFunc|.iface t x=>K (.iface t x)|.nilIface=>K .nilIface|.agg c=>K (.agg c)|.tuple c=>K (.tuple c)
def Qy(v:Value)(K:Value->Prop):WL v K=K v:=by cases v <;> rfl
def WX(l:List Value):(List Value->Prop)->Prop:=List.rec (motive:=λ _=>(List Value->Prop)->Prop) (λ K=>K []) (λ v _ b K=>WL v λ v=>b λ r=>K (v::r)) l
def J4:∀(l:List Value)(K:List Value->Prop),WX l K=K l
 |[],_=>rfl
 |v::r,K=>by
  show(WL v λ v=>WX r λ r=>K (v::r))=_;rw[Qy];exact J4 r _
def PL(v:Value)(K:Array Value->Prop):Prop:=WL v λ v=>match v with|.agg cs=>K cs|v=>K #[v]
def Oi(v:Value)(K:Array Value->Prop):PL v K=K v.cells:=by unfold PL;rw[Qy];cases v <;> rfl
def Zj(U:Qa T)(b:Nat)(c:Array Value):Prop:=∃t fr,U.I b=some (.cells c t fr)
def Zj.new:Zj { U with I:=Z_ U.I l (.cells args t) } l args:=⟨t,(0,0),by simp[Z_]⟩
def Gj{o:Obj}(h:U.free l):U.le { U with I:=Z_ U.I l o }:=by
 refine⟨λ x w f=>?_,rfl,rfl⟩;show Z_ U.I l o x=_;unfold Z_;rw[if_neg]
 .exact f
 .intro e;rw[e,h.1]at f;cases f
def Ja(n:Int):Prop:=-9223372036854775808<=n/\n<9223372036854775808
theorem I1(h:-9223372036854775808<=ζ/\ζ<9223372036854775808:=by omega):Ja ζ:=h
def Ga(h:Ja ζ):IntKind.wrap .i64 ζ=ζ:=by
 unfold Ja at h;have b:(2:Int)^64=18446744073709551616:=D1
 have f:(2:Int)^(64-1)=9223372036854775808:=D1
 simp only[IntKind.wrap,IntKind.bits,IntKind.signed,Bool.true_and,b,f];split <;> rename_i w <;> simp only[decide_eq_true_eq]at w <;> omega
def Jj(U:Qa T)(a:Addr)(vs:List Value):Prop:=∀i v,vs[i]?=some v->U.sees (a.add i) v
def QZ(a:Addr)(l:List Value):Nat->(Qa T->Prop)->Qa T->Prop:=
 List.rec (motive:=λ _=>Nat->(Qa T->Prop)->Qa T->Prop) (λ _ K U=>K U) (λ v _ b i K U=>v.single=true/\∃M',XD (a.add i) v U.M M'/\b (i+1) K { U with M:=M' }) l
def QZ.mono{a:Addr}{K b:Qa T->Prop}(f:∀U,K U->b U):∀(vs:List Value)(i:Nat)(U:Qa T),QZ a vs i K U->QZ a vs i b U
 |[],_,_,h=>f _ h
 |_::vs,i,_,⟨w,M',z,h⟩=>⟨w,M',z,QZ.mono f vs (i+1) _ h⟩
def Ot(len:Nat)(lo b:Option Value):Option (Int×Int):=
 match lo,b with
 |none,none=>some (0,len)
 |some (.int _ l),none=>some (l,len)
 |none,some (.int _ h)=>some (0,h)
 |some (.int _ l),some (.int _ h)=>some (l,h)
 |_,_=>none
def JS(cells:Array Value)(off:Nat):List Value->Nat->Array Value
 |[],_=>cells
 |v::r,j=>JS (cells.setIfInBounds (off+j) v) off r (j+1)
def GL(f:Fm)(cells:Array Value):List (Nat×Nat×Operand)->Option (Array Value)
 |[]=>some cells
 |(off,size,x)::r=>
  if(Zg f x).cells.size≠size|| off+(Zg f x).cells.size > cells.size then none
  else GL f (JS cells off (Zg f x).cells.toList 0) r
def Vu:∀(vs:List Value)(c:Array Value)(off j:Nat),(JS c off vs j).size=c.size
 |[],_,_,_=>rfl
 |v::vs,c,off,j=>by simp[JS,Vu vs]
def P8:∀(vs:List Value)(c:Array Value)(off j k:Nat),off+j+vs.length<=c.size->(JS c off vs j)[k]?=if off+j<=k/\k<off+j+vs.length then vs[k-(off+j)]? else c[k]?
 |[],c,off,j,k,_=>by simp[JS];omega
 |v::vs,c,off,j,k,h=>by
  simp only[length_cons]at h;simp only[JS];rw[P8 vs _ off (j+1) k S3];by_cases e:k=off+j
  .subst e;rw[if_neg O1,if_pos S1];rw[Array.getElem?_setIfInBounds_self_of_lt O1];simp
  .by_cases h1:off+(j+1)<=k/\k<off+(j+1)+vs.length
   .rw[if_pos h1,if_pos S3];have:k-(off+j)=(k-(off+(j+1)))+1:=O1
    rw[this,getElem?_cons_succ]
   .rw[if_neg h1,if_neg S3,Array.getElem?_setIfInBounds_ne O1]
def zV(vs:List Value)(c:Array Value)(off:Nat)(h:off+vs.length<=c.size):(JS c off vs 0).toList=c.toList.take off++vs++c.toList.drop (off+vs.length):=by
 apply ext_getElem?;intro k;have w:=P8 vs c off 0 k O1;rw[Array.getElem?_toList,w];have b:(c.toList.take off).length=off:=S3
 by_cases f:k<off
 .rw[if_neg O1,append_assoc,getElem?_append_left O1,getElem?_take,if_pos f,Array.getElem?_toList]
 .by_cases h2:k<off+vs.length
  .rw[if_pos O1,append_assoc,getElem?_append_right O1,getElem?_append_left O1,b];rfl
  .rw[if_neg O1,append_assoc,getElem?_append_right O1,getElem?_append_right O1,b,getElem?_drop,Array.getElem?_toList];congr 1;omega
def SM(off:Nat)(vs cs:List Value):List Value:=cs.take off++vs++cs.drop (off+vs.length)
def Yf(f:Fm)(w:List (Nat×Nat×Operand)):List Value->(List Value->Prop)->Prop:=
 List.rec (motive:=λ _=>List Value->(List Value->Prop)->Prop) (λ cs K=>WX cs K)
  (λ p _ h cs K=>PL (Zg f p.2.2) λ vs=>WX vs.toList λ vl=>
   bif (Nat.beq vl.length p.2.1&&Nat.ble (p.1+vl.length) cs.length)then WX (SM p.1 vl cs) (λ b=>h b K)else False) w
def Hy(f:Fm):∀(B:List (Nat×Nat×Operand))(cs:List Value)(K:List Value->Prop),Yf f B cs K=(match GL f cs.toArray B with|some c=>K c.toList|none=>False)
 |[],cs,K=>by
  show WX cs K=_;rw[J4];rfl
 |(off,size,x)::r,cs,K=>by
  show(PL (Zg f x) λ vs=>WX vs.toList λ vl=>bif (Nat.beq vl.length size&&Nat.ble (off+vl.length) cs.length)then WX (SM off vl cs) (λ b=>Yf f r b K)else False)=_;rw[Oi,J4,GL];simp only[Array.length_toList,size_toArray];by_cases h:(Zg f x).cells.size=size/\off+(Zg f x).cells.size<=cs.length
  .have e1:(Nat.beq (Zg f x).cells.size size&&Nat.ble (off+(Zg f x).cells.size) cs.length)=true:=by
    rw[Bool.and_eq_true];exact⟨Nat.beq_eq.symm▸h.1,Nat.ble_eq.symm▸h.2⟩
   rw[e1,cond_true,J4,Hy f r];rw[if_neg S3];have E:=zV (Zg f x).cells.toList cs.toArray off (by simpa using h.2)
   have F:(SM off (Zg f x).cells.toList cs).toArray=JS cs.toArray off (Zg f x).cells.toList 0:=by
    apply Array.ext';rw[E];rfl
   rw[F]
  .have e1:(Nat.beq (Zg f x).cells.size size&&Nat.ble (off+(Zg f x).cells.size) cs.length)=false:=by
    rw[Bool.and_eq_false_iff];by_cases z:(Zg f x).cells.size=size
    .right;rw[Bool.eq_false_iff];intro w;exact h ⟨z,Nat.le_of_ble_eq_true w⟩
    .left;rw[Bool.eq_false_iff];intro w;exact z (Nat.eq_of_beq_eq_true w)
   rw[e1,cond_false,if_pos];simp;omega
def OX(S:Sys P T):O->Fm->(Value->Qa T->Prop)->Qa T->Prop
 |.mv x,f,K,U=>WL (Zg f x) λ v=>K v U
 |.pick c a b,f,K,U=>match Zg f c with
  |.bool true=>WL (Zg f a) λ v=>K v U
  |.bool false=>WL (Zg f b) λ v=>K v U
  |_=>False
 |.add x y,f,K,U=>match Zg f x,Zg f y with|.int .i64 a,.int .i64 b=>Ja (a+b)/\K (.int .i64 (a+b)) U|_,_=>False
 |.sub x y,f,K,U=>match Zg f x,Zg f y with|.int .i64 a,.int .i64 b=>Ja (a-b)/\K (.int .i64 (a-b)) U|_,_=>False
 |.mul x y,f,K,U=>match Zg f x,Zg f y with|.int .i64 a,.int .i64 b=>Ja (a*b)/\K (.int .i64 (a*b)) U|_,_=>False
 |.cmp op x y,f,K,U=>match Zg f x,Zg f y with
  |.int k a,.int k' b=>k=k'/\(match op with
   |.eql=>K (.bool (a==b)) U|.neq=>K (.bool (a != b)) U|.lss=>K (.bool (decide (a<b))) U
   |.leq=>K (.bool (decide (a<=b))) U|.gtr=>K (.bool (decide (a > b))) U|.geq=>K (.bool (decide (a ≥ b))) U|_=>False)
  |_,_=>False
 |.beq op x y,f,K,U=>match Zg f x,Zg f y with
  |.bool a,.bool b=>(match op with|.eql=>K (.bool (a==b)) U|.neq=>K (.bool (!(a==b))) U|_=>False)
  |_,_=>False
 |.ar op x y,f,K,U=>match Zg f x,Zg f y with
  |.int k a,.int k' b=>(match op with
   |.add=>k=k'/\K (.int k (k.wrap (a+b))) U|.sub=>k=k'/\K (.int k (k.wrap (a-b))) U|.mul=>k=k'/\K (.int k (k.wrap (a*b))) U
   |.quo=>k=k'/\b≠0/\K (.int k (k.wrap (a.tdiv b))) U|.rem=>k=k'/\b≠0/\K (.int k (a.tmod b)) U
   |.and=>k=k'/\K (.int k (k.wrap (BitVec.ofInt k.bits a&&&BitVec.ofInt k.bits b).toNat)) U
   |.or=>k=k'/\K (.int k (k.wrap (BitVec.ofInt k.bits a||| BitVec.ofInt k.bits b).toNat)) U
   |.xor=>k=k'/\K (.int k (k.wrap (BitVec.ofInt k.bits a ^^^ BitVec.ofInt k.bits b).toNat)) U
   |.andNot=>k=k'/\K (.int k (k.wrap (BitVec.ofInt k.bits a&&&~~~ BitVec.ofInt k.bits b).toNat)) U
   |.shl=>0<=b/\K (.int k (k.wrap (a*2^(min b.toNat k.bits)))) U
   |.shr=>0<=b/\K (.int k (a.fdiv (2^(min b.toNat k.bits)))) U
   |_=>False)
  |_,_=>False
 |.teq op x y,f,K,U=>match Zg f x,Zg f y with
  |.string a,.string b=>(match op with|.eql=>K (.bool (a.toList==b.toList)) U|.neq=>K (.bool (!(a.toList==b.toList))) U|_=>False)
  |_,_=>False
 |.not x,f,K,U=>match Zg f x with|.bool b=>K (.bool (!b)) U|_=>False
 |.len x,f,K,U=>match Zg f x with|.slice _ n _=>K (.int .i64 n) U|_=>False
 |.lenT x,f,K,U=>match Zg f x with|.string s=>K (.int .i64 s.size) U|_=>False
 |.lenM x,f,K,U=>match Zg f x with
  |.map none=>K (.int .i64 0) U
  |.map (some r)=>∃es B,U.has r (.map es B)/\K (.int .i64 es.size) U
  |_=>False
 |.conv k x,f,K,U=>match Zg f x with|.int _ n=>K (.int k (k.wrap n)) U|_=>False
 |.off n x,f,K,U=>match Zg f x with|.pointer (some a)=>K (.pointer (some (a.add n))) U|_=>False
 |.idx sz x i,f,K,U=>match Zg f x,Zg f i with
  |.slice a len _,.int _ n=>∃(F:Addr)(j:Nat),(a=some F/\n=j/\j<len)/\K (.pointer (some (F.add (j*sz)))) U
  |_,_=>False
 |.aidx len sz x i,f,K,U=>match Zg f x,Zg f i with
  |.pointer (some a),.int _ n=>∃j:Nat,(n=j/\j<len)/\K (.pointer (some (a.add (j*sz)))) U
  |_,_=>False
 |.sidx x i,f,K,U=>match Zg f x,Zg f i with
  |.string s,.int _ n=>∃(j:Nat)(b:UInt8),(n=j/\s[j]?=some b)/\K (.int .u8 b.toNat) U
  |_,_=>False
 |.ld x,f,K,U=>match Zg f x with|.pointer (some a)=>∃v,U.sees a v/\WL v λ v=>K v U|_=>False
 |.ldn n x,f,K,U=>match Zg f x with|.pointer (some a)=>∃vs:List Value,(vs.length=n/\Jj U a vs)/\K (.agg vs.toArray) U|_=>False
 |.st n x v,f,K,U=>match Zg f x with|.pointer (some a)=>(Zg f v).cells.size=n/\QZ a (Zg f v).cells.toList 0 (λ U'=>∃w,Qv U' w/\K undef w) U|_=>False
 |.box _ x,f,K,U=>PL (Zg f x) λ cs=>∀b w,U.le w->Zj w b cs->K (.pb b) w
 |.boxM t x,f,K,U=>∀b,U.free b->K (.pb b) (U.put b (.cells (Zg f x).cells t))
 |.alloc t zero,_,K,U=>∀b,U.free b->∃w,Qv (U.put b (.cells zero t)) w/\K (.pb b) w
 |.ext x i,f,K,U=>match Zg f x with|.tuple vs=>(match vs[i]? with|some v=>WL v λ v=>K v U|none=>False)|_=>False
 |.part off n x,f,K,U=>match Zg f x with|.agg cs=>K (.agg ((cs.toList.drop off).take n).toArray) U|_=>False
 |.part1 off x,f,K,U=>match Zg f x with|.agg cs=>(match cs[off]? with|some v=>WL v λ v=>K v U|none=>False)|_=>False
 |.mkf fn first z,f,K,U=>WX (first.toList.map (Zg f)) λ a=>WX (z.toList.map (Zg f)) λ c=>K (.func fn a.toArray c.toArray) U
 |.call c args,f,K,U=>match Zg f c with
  |.func (.func g) first z=>(P.funcs[g]?.any λ fd=>fd.body.isSome&&fd.name != "runtime.NumGoroutine")=true/\WX (args.toList.map (Zg f)) λ vs=>Qb S g (first.toList++vs++z.toList).toArray (λ v U'=>JP U'->K v U') U
  |.func (.yield l) first _=>WX (args.toList.map (Zg f)) λ vs=>Zp S l (first.toList++vs) K U
  |_=>False
 |.nilc x,f,K,U=>match Zg f x with|.pointer (some a)=>K (.pointer (some a)) U|_=>False
 |.sub3 sz x lo E,f,K,U=>match Zg f x with
  |.slice a len cap=>(match Ot len (lo.map (Zg f)) (E.map (Zg f))with
   |some (G,E)=>∃l h:Nat,(G=l/\E=h/\l<=h/\h<=cap)/\K (.slice (if cap=l then a else a.map (·.add (l*sz))) (h-l) (cap-l)) U
   |none=>False)
  |_=>False
 |.build zero parts,f,K,U=>Yf f parts zero.toList λ l=>K (.agg l.toArray) U
 |.bsl t len zero parts,f,K,U=>Yf f parts zero.toList λ l=>∀b,U.free b->∃w,Qv (U.put b (.cells l.toArray t)) w/\K (.slice (some ⟨b,0,none⟩) len len) w
 |.raw o,f,K,U=>∀a:Act,(∀x,a.eval x=Zg f x)->Qq P (execOp a.eval o) (ZF S λ v U'=>∃w,Qv U' w/\K v w) U
def qS(s:Sem α):s.bind Sem.pure=s:=by
 induction s with
 |pure a=>rfl
 |load m a k b=>simp only[Sem.bind];congr 1;funext v;exact b v
 |store m a v k b=>simp only[Sem.bind,b]
 |new o k b=>simp only[Sem.bind];congr 1;funext v;exact b v
 |shape r k b=>simp only[Sem.bind];congr 1;funext v;exact b v
 |freeze a n k b=>simp only[Sem.bind,b]
 |frozen a k b=>simp only[Sem.bind];congr 1;funext v;exact b v
 |getObj r k b=>simp only[Sem.bind];congr 1;funext v;exact b v
 |setObj r o k b=>simp only[Sem.bind,b]
 |choose q k b=>simp only[Sem.bind];congr 1;funext v;exact b v
 |sys c k b=>simp only[Sem.bind];congr 1;funext v;exact b v
 |program k b=>simp only[Sem.bind];congr 1;funext v;exact b v
 |mark m k b=>simp only[Sem.bind,b]
 |halt h=>rfl
def qC(s:Sem α)(g:α->Sem β)(h:β->Sem γ):(s.bind g).bind h=s.bind λ a=>(g a).bind h:=by
 induction s with
 |pure a=>rfl
 |load m a k b=>simp only[Sem.bind];congr 1;funext v;exact b v
 |store m a v k b=>simp only[Sem.bind,b]
 |new o k b=>simp only[Sem.bind];congr 1;funext v;exact b v
 |shape r k b=>simp only[Sem.bind];congr 1;funext v;exact b v
 |freeze a n k b=>simp only[Sem.bind,b]
 |frozen a k b=>simp only[Sem.bind];congr 1;funext v;exact b v
 |getObj r k b=>simp only[Sem.bind];congr 1;funext v;exact b v
 |setObj r o k b=>simp only[Sem.bind,b]
 |choose q k b=>simp only[Sem.bind];congr 1;funext v;exact b v
 |sys c k b=>simp only[Sem.bind];congr 1;funext v;exact b v
 |program k b=>simp only[Sem.bind];congr 1;funext v;exact b v
 |mark m k b=>simp only[Sem.bind,b]
 |halt h=>rfl
theorem F7:LawfulMonad Sem:=LawfulMonad.mk' Sem (id_map:=λ s=>qS s) (pure_bind:=λ _ _=>rfl) (bind_assoc:=λ s g h=>qC s g h)
def WZ{α β:Type}(g:α->Sem β):List α->Array β->Sem (Array β)
 |[],acc=>pure acc
 |x::r,acc=>do let y <- g x;WZ g r (acc.push y)
def py(g:α->Sem β):∀(l:List α)(acc:Array β),WZ g l acc=(do let r <- l.mapM g;pure (acc++r.toArray)):=by
 have:=F7;intro l
 induction l with
 |nil=>intro acc;simp[WZ]
 |cons x l b=>intro acc;simp[WZ,b,mapM_cons]
def So(g:α->Sem β)(l:List α):Array.mapM g l.toArray=WZ g l #[]:=by
 have:=F7;rw[py];simp
def Qd(s:Sem α)(g:α->Sem β)(Q:β->Qa T->Prop)(U:Qa T):Qq P (s >>= g) Q U=Qq P s (λ a U=>Qq P (g a) Q U) U:=propext (O8 s g)
def Qk(a:α)(Q:α->Qa T->Prop)(U:Qa T):Qq P (pure a:Sem α) Q U=Q a U:=rfl
def Ze(h:P.underlying t=some d)(Q:TypeDesc->Qa T->Prop)(U:Qa T):Qq P (underlying t) Q U=Q d U:=by
 simp only[underlying,program,Qd,Qq,h,Qk]
def We(h:P.info? t=some θ)(Q:TypeInfo->Qa T->Prop)(U:Qa T):Qq P (typeInfo t) Q U=Q θ U:=by
 simp only[typeInfo,program,Qd,Qq,h,Qk]
def Je(h:P.info? t=some θ)(Q:Nat->Qa T->Prop)(U:Qa T):Qq P (sizeOf t) Q U=Q θ.size U:=by
 simp only[sizeOf,Qd,We h,Qk]
def TypeDesc.agg:TypeDesc->Bool
 |.struct _|.array _ _=>true
 |_=>false
def Hm(h:P.underlying t=some d)(Q:Bool->Qa T->Prop)(U:Qa T):Qq P (isAgg t) Q U=Q (TypeDesc.agg d) U:=by
 simp only[isAgg,Qd,Ze h];cases d <;> rfl
def Xk(h:P.info? t=some θ)(b:θ.zero=some v)(Q:Value->Qa T->Prop)(U:Qa T):Qq P (zeroValue t) Q U=Q v U:=by
 simp only[zeroValue,Qd,We h,b,Qk]
def SD(h:U.sees V v)(b:K v U):Qq P (load V) K U:=⟨rfl,v,h,b⟩
def DZ{a:Addr}{Q:Array Value->Qa T->Prop}{U:Qa T}:∀(vs:List Value)(i:Nat)(acc:Array Value),(∀j v,vs[j]?=some v->U.sees (a.add (i+j)) v)->Q (acc++vs.toArray) U ->
  Qq P (loadCellsFrom a i vs.length acc) Q U
 |[],i,acc,_,b=>by simpa[loadCellsFrom,Qk]using b
 |v::vs,i,acc,h,b=>by
  simp only[length_cons,loadCellsFrom,Qd];refine SD (h 0 v rfl) (DZ vs (i+1) (acc.push v) (λ j u f=>?_) ?_)
  .have:=h (j+1) u f
   rwa [show i+(j+1)=i+1+j by omega]at this
  .have e:acc.push v++vs.toArray=acc++(v::vs).toArray:=by apply Array.ext';simp
   rw[e];exact b
def GQ{a:Addr}{Q:Unit->Qa T->Prop}:∀(vs:List Value)(i:Nat)(U:Qa T),QZ a vs i (λ U'=>Q () U') U->Qq P (storeCells a vs i) Q U
 |[],_,_,h=>h
 |v::vs,i,U,h=>by
  obtain⟨f,M',b,h⟩:=h;simp only[storeCells,Qd,store];exact⟨rfl,f,M',b,GQ vs (i+1) _ h⟩
def Jg(h:∀b,U.free b->τ ⟨b,0,none⟩ (U.put b (.cells args t))):Qq P (newRow t args) τ U:=by
 simp only[newRow,newObj,Qd,Qq,Qk];exact h
def Jy(o:Oper):Oper:={ dst:=none,op:=o.op,type:=o.type,pos := "", after:=#[],guard:=none }
def yy:BinOp->Bool
 |.eql|.neq|.lss|.leq|.gtr|.geq=>true
 |_=>false
def UW(P:Program)(o:Oper)(op:BinOp)(t:TypeId)(x y:Operand):O:=
 match P.underlying t with
 |some (.int k)=>
  if yy op then .cmp op x y
  else match k,op with
   |.i64,.add=>.add x y
   |.i64,.sub=>.sub x y
   |.i64,.mul=>.mul x y
   |_,_=>.ar op x y
 |some .bool=>.beq op x y
 |some .string=>(match op with|.eql=>.teq op x y|.neq=>.teq op x y|_=>.raw (Jy o))
 |_=>.raw (Jy o)
def Jr(P:Program)(t:TypeId):Option Nat:=(P.info? t).map (·.size)
def X5(P:Program)(t:TypeId):Option Value:=(P.info? t).bind (·.zero)
def kW(P:Program):Operand->Bool
 |.func g=>P.funcs[g]?.any (·.body.isNone)
 |_=>false
def Q5(P:Program)(mu:List Nat)(o:Oper):O:=
 match o.op with
 |.move x|.assign x=>.mv x
 |.pick c a b=>.pick c a b
 |.binOp op t x y _=>UW P o op t x y
 |.unOp .not _ x=>.not x
 |.call { callee:=.value c,args,.. }=>if kW P c then .raw (Jy o)else .call c args
 |.call { callee:=.builtin .len,args,argTypes }=>
  (match args,argTypes with
  |⟨[x]⟩,⟨[t]⟩=>(match P.underlying t with|some (.slice _)=>.len x|some .string=>.lenT x|some (.map _ _)=>.lenM x|_=>.raw (Jy o))
  |_,_=>.raw (Jy o))
 |.convert src dst x=>(match P.underlying src,P.underlying dst with|some (.int _),some (.int k)=>.conv k x|_,_=>.raw (Jy o))
 |.fieldAddr s x i=>(match P.underlying s with
  |some (.struct f)=>(match f[i]? with
   |some fd=>(match Jr P fd.type with|some (_+1)=>.off fd.offset x|_=>.raw (Jy o))
   |none=>.raw (Jy o))
  |_=>.raw (Jy o))
 |.indexAddr t x i=>(match P.underlying t with
  |some (.slice e)=>(match Jr P e with|some n=>.idx n x i|none=>.raw (Jy o))
  |some (.array len e)=>(match Jr P e with|some n=>if len<=1 then .raw (Jy o)else .aidx len n x i|none=>.raw (Jy o))
  |_=>.raw (Jy o))
 |.index t x i=>(match P.underlying t with|some .string=>.sidx x i|_=>.raw (Jy o))
 |.load t x=>(match P.underlying t with
  |some d=>if TypeDesc.agg d then(match Jr P t with|some n=>.ldn n x|none=>.raw (Jy o))else .ld x
  |none=>.raw (Jy o))
 |.store t x v=>(match Jr P t with|some n=>.st n x v|none=>.raw (Jy o))
 |.box t x=>(match o.dst with|some d=>if mu.contains d then .boxM t x else .box t x|none=>.boxM t x)
 |.alloc t=>(match X5 P t with|some z=>.alloc t z.cells|none=>.raw (Jy o))
 |.extract x i=>.ext x i
 |.field t x i=>(match P.underlying t with
  |some (.struct f)=>(match f[i]? with
   |some fd=>(match P.underlying fd.type with
    |some d=>if TypeDesc.agg d then(match Jr P fd.type with|some n=>.part fd.offset n x|none=>.raw (Jy o))else .part1 fd.offset x
    |none=>.raw (Jy o))
   |none=>.raw (Jy o))
  |_=>.raw (Jy o))
 |.makeFunc fn first h=>.mkf fn first h
 |.nilCheck x=>.nilc x
 |.build t parts=>(match P.underlying t,X5 P t with
  |some (.struct f),some z=>if f.toList.all (λ fd=>(Jr P fd.type).isSome)then
    (match parts.toList.mapM (λ p=>(f[p.1]?).map λ fd=>(fd.offset,(Jr P fd.type).getD 0,p.2))with
    |some B=>.build z.cells B
    |none=>.raw (Jy o))else .raw (Jy o)
  |_,_=>.raw (Jy o))
 |.buildSlice t len parts=>(match P.underlying t with
  |some (.slice e)=>(match Jr P e,X5 P e with
   |some n,some z=>if len*n<=2^24 then .bsl e len (if len*n=0 then #[]else(Array.range (len*n)).map (z.cells[· % z.cells.size]!)) (parts.toList.map λ p=>(p.1*n,n,p.2))else .raw (Jy o)
   |_,_=>.raw (Jy o))
  |_=>.raw (Jy o))
 |.slice t x lo w none=>(match P.underlying t with|some (.slice e)=>(match Jr P e with|some n=>.sub3 n x lo w|none=>.raw (Jy o))|_=>.raw (Jy o))
 |_=>.raw (Jy o)
def HR(h:Jr P t=some n):∃i,P.info? t=some i/\i.size=n:=by
 simpa[Jr]using h
def GU(h:X5 P t=some v):∃i,P.info? t=some i/\i.zero=some v:=by
 simpa[X5,Option.bind_eq_some_iff]using h
def P7(h:Z () U):Qq P (eqGuard op t x y (.int W ζ) (.int k' η)) Z U:=by
 cases op <;> exact h
def zU(h:Z () U):Qq P (eqGuard op t x y (.bool m) (.bool p)) Z U:=by
 cases op <;> exact h
def wK(h:Z () U):Qq P (eqGuard op t x y (.string π) (.string σ)) Z U:=by
 cases op <;> exact h
def kH(h:OX S (.cmp op x y) f K U):Qq P (do eqGuard op t x y (Zg f x) (Zg f y);binOp op t (Zg f x) (Zg f y)) K U:=by
 simp only[OX]at h;cases b:Zg f x <;> simp only[b]at h <;> try exact h.elim
 cases w:Zg f y <;> simp only[w]at h <;> try exact h.elim
 obtain⟨rfl,h⟩:=h;rw[Qd];refine P7 ?_;cases op <;> first|exact h.elim|simpa[binOp,Op.intCmp,Qk]using h
def k_(h:OX S (.add x y) f K U):Qq P (do eqGuard .add t x y (Zg f x) (Zg f y);binOp .add t (Zg f x) (Zg f y)) K U:=by
 simp only[OX]at h;split at h
 .rename_i a b e1 e2;rw[e1,e2,Qd];refine P7 ?_;simpa[binOp,Op.intArith,Qk,Ga h.1]using h.2
 .exact h.elim
def kK(h:OX S (.sub x y) f K U):Qq P (do eqGuard .sub t x y (Zg f x) (Zg f y);binOp .sub t (Zg f x) (Zg f y)) K U:=by
 simp only[OX]at h;split at h
 .rename_i a b e1 e2;rw[e1,e2,Qd];refine P7 ?_;simpa[binOp,Op.intArith,Qk,Ga h.1]using h.2
 .exact h.elim
def kJ(h:OX S (.mul x y) f K U):Qq P (do eqGuard .mul t x y (Zg f x) (Zg f y);binOp .mul t (Zg f x) (Zg f y)) K U:=by
 simp only[OX]at h;split at h
 .rename_i a b e1 e2;rw[e1,e2,Qd];refine P7 ?_;simpa[binOp,Op.intArith,Qk,Ga h.1]using h.2
 .exact h.elim
def xW(f:P.underlying t=some .bool)(a b:Bool)(Q:Bool->Qa T->Prop)(U:Qa T):Qq P (Op.equal t (.bool a) (.bool b)) Q U=Q (a==b) U:=by
 have e:Op.equal t (.bool a) (.bool b)=Op.equalIn (9999+1) t (.bool a) (.bool b):=rfl;rw[e,Op.equalIn,Qd,Ze f];rfl
def yb(w:P.underlying t=some .bool)(h:OX S (.beq op x y) f K U):Qq P (do eqGuard op t x y (Zg f x) (Zg f y);binOp op t (Zg f x) (Zg f y)) K U:=by
 simp only[OX]at h;split at h
 .rename_i a b e1 e2;rw[e1,e2,Qd];refine zU ?_;cases op <;> first|exact h.elim|(simp only[binOp,Qd,xW w,Qk];exact h)
 .exact h.elim
def Lm(h:OX S (.teq op x y) f K U):Qq P (do eqGuard op t x y (Zg f x) (Zg f y);binOp op t (Zg f x) (Zg f y)) K U:=by
 simp only[OX]at h;split at h
 .rename_i a b e1 e2;rw[e1,e2,Qd];refine wK ?_;cases op <;> first|exact h.elim|simpa[binOp,Op.stringOp,Qk]using h
 .exact h.elim
def yf(h:OX S (.ar op x y) f K U):Qq P (do eqGuard op t x y (Zg f x) (Zg f y);binOp op t (Zg f x) (Zg f y)) K U:=by
 simp only[OX]at h;split at h
 .rename_i k a k' b e1 e2;rw[e1,e2,Qd];refine P7 ?_
  cases op <;> simp only[]at h <;> first
   |exact h.elim
   |(obtain⟨rfl,w,h⟩:=h;simpa[binOp,Op.intDiv,w,Qk]using h)
   |(obtain⟨rfl,h⟩:=h;simpa[binOp,Op.intArith,Op.intBits,Qk]using h)
   |(obtain⟨w,h⟩:=h;simpa[binOp,Op.shift,Int.not_lt.2 w,Qk]using h)
 .exact h.elim
def QW{s:Sem Value}(h:Qq P s K U):Qq P (s >>= λ v=>pure (Next.value v)) (ZF S K) U:=by rw[Qd];exact h
def vz{z:Array TypeId}(E:∀x,ρ x=Zg f x)(h:OX S (.call y ψ) f K U) :
  Qq P (do let d <- resolve ρ { callee:=.value y,args:=ψ,argTypes:=z } t;invoke d.target d.args:Sem Next) (ZF S K) U:=by
 simp only[OX]at h;have G:ψ.map ρ=ψ.map (Zg f):=by rw[show ρ=Zg f from funext E]
 split at h
 .rename_i g first capt e
  obtain⟨B,h⟩:=h;simp only[Qd,resolve,E,G,e,Deferred.ofValue,Qk,invoke,callFunc,program,Qq];cases F:P.funcs[g]? with
  |none=>simp[F]at B
  |some fd=>
   simp only[F,Option.any_some,Bool.and_eq_true,bne_iff_ne,ne_eq]at B;obtain⟨T,H⟩:=B;have w:fd.body.isNone=false:=by cases I:fd.body <;> simp_all
   have b:(fd.name== "runtime.NumGoroutine")=false:=by simpa using H
   simp only[b,w,Bool.false_eq_true,if_false,Qk,ZF];rw[J4]at h;have e:(first++Array.map (Zg f) ψ)++capt=(first.toList++ψ.toList.map (Zg f)++capt.toList).toArray:=by apply Array.ext';simp
   rw[e];exact h.sep λ v U' N L=>⟨U',.refl _,L N⟩
 .rename_i l first capt e
  rw[J4]at h;simp only[Qd,resolve,E,G,e,Deferred.ofValue,Qk,invoke];have e:first++Array.map (Zg f) ψ=(first.toList++ψ.toList.map (Zg f)).toArray:=by apply Array.ext';simp
  rw[e];exact h
 .exact h.elim
def HB(b:ζ=n)(h:n<=l)(f:υ n U):Qq P (Instr.sliceBound (.int k' ζ) l code) υ U:=by
 subst b;unfold Instr.sliceBound;rw[Qd];show Qq P (if 0<=(n:Int)/\(n:Int)<=l then pure (n:Int).toNat else boundsPanic k' n l code) υ U;rw[if_pos O1];exact f
def yG(b:F (0,len,cap) U):Qq P (Instr.sliceBounds true len cap none none none) F U:=by
 unfold Instr.sliceBounds;simp only[Qd,Qk];exact b
def yH(b:ζ=l)(h:l<=len)(f:F (l,len,cap) U):Qq P (Instr.sliceBounds true len cap (some (.int k' ζ)) none none) F U:=by
 unfold Instr.sliceBounds;simp only[Qd,Qk];exact HB b h f
def yI(f:ζ=l)(b:l<=cap)(w:F (0,l,cap) U):Qq P (Instr.sliceBounds true len cap none (some (.int k' ζ)) none) F U:=by
 unfold Instr.sliceBounds;simp only[Qd,Qk];exact HB f b w
def yJ(B:ζ=l)(b:η=n)(w:l<=n)(z:n<=cap)(E:F (l,n,cap) U):Qq P (Instr.sliceBounds true len cap (some (.int W ζ)) (some (.int k' η)) none) F U:=by
 unfold Instr.sliceBounds;simp only[Qd,Qk];exact HB b z (HB B w E)
def zO(b:Ot len κ H=some ((l:Int),(n:Int)))(F:l<=n)(G:n<=cap){Q:Nat×Nat×Nat->Qa T->Prop}(z:Q (l,n,cap) U) :
  Qq P (Instr.sliceBounds true len cap κ H none) Q U:=by
 unfold Ot at b;split at b
 .simp only[Option.some.injEq,Prod.mk.injEq]at b;obtain⟨B,E⟩:=b;have f:l=0:=O1
  have h:n=len:=O1
  subst f;subst h;exact yG z
 .simp only[Option.some.injEq,Prod.mk.injEq]at b;obtain⟨B,E⟩:=b;have h:n=len:=O1
  subst h;exact yH B F z
 .simp only[Option.some.injEq,Prod.mk.injEq]at b;obtain⟨B,E⟩:=b;have f:l=0:=O1
  subst f;exact yI E G z
 .simp only[Option.some.injEq,Prod.mk.injEq]at b;exact yJ b.1 b.2 F G z
 .cases b
def vB(G:P.underlying t=some (.slice e))(F:Jr P e=some n)(h:OX S (.sub3 n x lo z) f K U) :
  Qq P (Instr.sliceAt t (Zg f x) (lo.map (Zg f)) (z.map (Zg f)) none) K U:=by
 obtain⟨H,b,w⟩:∃i,P.info? e=some i/\i.size=n:=by simpa[Jr]using F
 simp only[OX]at h;split at h
 .rename_i sa len cap e1;split at h
  .rename_i li hh hsb;obtain⟨l,I,⟨rfl,rfl,B,E⟩,h⟩:=h;simp only[e1,Instr.sliceAt,Instr.slice,Qd,Ze G];refine zO hsb B E ?_;simp only[Je b,w,Qk];exact h
  .exact h.elim
 .exact h.elim
def kI(E:P.underlying t=some (.slice e))(B:Jr P e=some n)(h:OX S (.idx n x y) f K U):Qq P (Instr.indexAt t (Zg f x) (Zg f y)) K U:=by
 obtain⟨F,w,z⟩:∃y,P.info? e=some y/\y.size=n:=by simpa[Jr]using B
 simp only[OX]at h;split at h
 .rename_i aa len cap k m e1 e2;obtain⟨G,j,⟨rfl,rfl,H⟩,h⟩:=h;have b:(0:Int)<=(j:Int)/\(j:Int)<(len:Int):=O1
  simp only[e1,e2,Instr.indexAt,asIntOf,Qd,Qk,Ze E];rw[if_pos b];simp only[Qd,Je w,z,Qk,Int.toNat_natCast];exact h
 .exact h.elim
def vy(E:P.underlying t=some (.array len e))(B:Jr P e=some n)(h:OX S (.aidx len n x y) f K U):Qq P (Instr.indexAt t (Zg f x) (Zg f y)) K U:=by
 obtain⟨F,w,z⟩:∃y,P.info? e=some y/\y.size=n:=by simpa[Jr]using B
 simp only[OX]at h;split at h
 .rename_i ad k m e1 e2;obtain⟨j,⟨rfl,G⟩,h⟩:=h;have b:(0:Int)<=(j:Int)/\(j:Int)<(len:Int):=O1
  simp only[e1,e2,Instr.indexAt,asIntOf,Qd,Qk,Ze E,Instr.sureAddr];rw[if_pos b];simp only[Qd,Je w,z,Qk,Int.toNat_natCast];exact h
 .exact h.elim
def vA(z:P.underlying t=some .string)(h:OX S (.sidx x y) f K U):Qq P (Instr.index t (Zg f x) (Zg f y)) K U:=by
 simp only[OX]at h;split at h
 .rename_i s k n e1 e2;obtain⟨j,b,⟨rfl,w⟩,h⟩:=h;simp only[e1,e2,Instr.index,asIntOf,Qd,Qk,Ze z];rw[if_pos O1,Int.toNat_natCast,w];exact h
 .exact h.elim
def Ir{α β:Type}(g:α->Sem β)(v:α->β):∀(l:List α)(acc:Array β)(Q:Array β->Qa T->Prop)(U:Qa T),(∀a∈l,∀(Q:β->Qa T->Prop)U,Qq P (g a) Q U=Q (v a) U)->Q (acc++(l.map v).toArray) U->Qq P (WZ g l acc) Q U
 |[],acc,Q,U,_,h=>by simpa[WZ,Qk]using h
 |x::l,acc,Q,U,b,h=>by
  simp only[WZ,Qd,b x (mem_cons_self ..)];refine Ir g v l _ Q U (λ a f=>b a (mem_cons_of_mem _ f)) ?_;have e:acc.push (v x)++(l.map v).toArray=acc++((x::l).map v).toArray:=by apply Array.ext';simp
  rw[e];exact h
def xX{f:Array Field}(b:f.toList.all (λ fd=>(Jr P fd.type).isSome)=true)(h:μ (f.map λ fd=>(fd.offset,(Jr P fd.type).getD 0)) U) :
  Qq P (f.mapM λ fd=>do pure (fd.offset,<- sizeOf fd.type)) μ U:=by
 obtain⟨l⟩:=f;rw[So];refine Ir _ (λ fd=>(fd.offset,(Jr P fd.type).getD 0)) l #[] μ U (λ fd w μ U=>?_) (by simpa using h);have:=all_eq_true.1 b fd w;obtain⟨n,B⟩:=Option.isSome_iff_exists.1 this;obtain⟨F,E,z⟩:∃i,P.info? fd.type=some i/\i.size=n:=by simpa[Jr]using B
 simp only[Qd,Je E,Qk,B,z,Option.getD_some]
def UN:∀(vs:List Value)(cells:Array Value)(off j:Nat),(vs.zipIdx j).foldl (λ cs(p:Value×Nat)=>cs.setIfInBounds (off+p.2) p.1) cells=JS cells off vs j
 |[],_,_,_=>rfl
 |v::r,cells,off,j=>by simp only[zipIdx_cons,foldl_cons,JS];exact UN r _ off (j+1)
def SA(place:Nat->Option (Nat×Nat))(f:Fm):∀(parts:List (Nat×Operand))(b:List (Nat×Nat×Operand))(cells:Array Value),
  parts.mapM (λ p=>(place p.1).map λ q=>(q.1,q.2,p.2))=some b->Instr.fill place cells (parts.map λ p=>(p.1,Zg f p.2))=GL f cells b
 |[],b,cells,h=>by simp at h;subst h;rfl
 |(i,x)::r,b,cells,h=>by
  simp only[mapM_cons,Option.pure_def,Option.bind_eq_bind,Option.bind_eq_some_iff,Option.map_eq_some_iff]at h;obtain⟨_,⟨⟨off,size⟩,B,rfl⟩,z,w,e⟩:=h;cases e;simp only[map_cons,Instr.fill,B,GL];split
  .rfl
  .rw[<- SA place f r z _ w];congr 1;rw[<- UN,<- Array.foldl_toList,Array.toList_zipIdx]
def Jj.cells(h:Jj U V vs)(f:ν vs.toArray U):Qq P (loadCells V vs.length) ν U:=
 DZ vs 0 #[] (λ j v b=>by simpa using h j v b) (by simpa using f)
def zz(cs:Array Value)(off n:Nat):cs.extract off (off+n)=((cs.toList.drop off).take n).toArray:=by
 apply Array.ext';simp[Array.toList_extract,extract_eq_take_drop]
def Wy(w:∀x,a.eval x=Zg f x)
  (L:∀v U U',Qv U U'->K v U'->K v U) (h:OX S (Q5 P qs o) f K U):QJ S o a K U:=by
 obtain⟨dst,op,ty,pos,after,guard⟩:=o
 have raw:∀o:Oper,OX S (.raw (Jy o)) f K U->Qq P (execOp a.eval o) (ZF S K) U:=λ o h=>Qq.mono _ (h a w) λ n U Y=>by
  have Z:∀v(U:Qa T),(∃I,Qv U I/\K v I)->K v U:=λ v U⟨I,B,Z⟩=>L v U I B Z;cases n <;> first|exact Z _ _ Y|exact Qb.mono Y Z|exact J_.mono Y Z|exact Y
 unfold QJ;cases op with
 |move x=>simp only[Q5,OX,Qy]at h;simp only[execOp,w,Qk,ZF];exact h
 |assign x=>simp only[Q5,OX,Qy]at h;simp only[execOp,w,Qk,ZF];exact h
 |pick c x y=>
  simp only[Q5,OX]at h;simp only[execOp,w];split at h
  .rename_i e;rw[Qy]at h;simp only[e,Qd,asBool,Qk,ZF,if_true];exact h
  .rename_i e;rw[Qy]at h;simp only[e,Qd,asBool,Qk,ZF,Bool.false_eq_true,if_false];exact h
  .exact h.elim
 |binOp al t x y yt=>
  simp only[Q5,UW]at h;simp only[execOp,w];split at h
  .split at h
   .exact QW (kH h)
   .split at h
    .exact QW (k_ h)
    .exact QW (kK h)
    .exact QW (kJ h)
    .exact QW (yf h)
  .rename_i e;exact QW (yb e h)
  .split at h
   .exact QW (Lm h)
   .exact QW (Lm h)
   .have:=raw _ h;simpa only[execOp,w]using this
  .have:=raw _ h;simpa only[execOp,w]using this
 |unOp ah t x=>
  cases ah with
  |not=>
   simp only[Q5,OX]at h;simp only[execOp,w];split at h
   .rename_i e;simp only[e];exact QW h
   .exact h.elim
  |_=>exact raw _ h
 |call c=>
  obtain⟨callee,args,ak⟩:=c;cases callee with
  |value g=>
   simp only[Q5]at h;split at h
   .exact raw _ h
   .exact vz w h
  |invoke r am=>exact raw _ h
  |builtin b=>
   cases b with
   |len=>
    simp only[Q5]at h;split at h
    .rename_i x t;split at h
     .rename_i e hu;simp only[OX]at h;split at h
      .rename_i Q;simp only[execOp,Qd,resolve,Qk,invoke,builtin,Builtin.len_];simp only[map_toArray,map_cons,map_nil,w,Q,getElem?_toArray,getElem?_cons_zero,Qd,Ze hu,Qk,ZF,goInt];exact h
      .exact h.elim
     .rename_i hu;simp only[OX]at h;split at h
      .rename_i Q;simp only[execOp,Qd,resolve,Qk,invoke,builtin,Builtin.len_];simp only[map_toArray,map_cons,map_nil,w,Q,getElem?_toArray,getElem?_cons_zero,Qd,Ze hu,Qk,ZF,goInt];exact h
      .exact h.elim
     .rename_i kk ee hu;simp only[OX]at h;split at h
      .rename_i Q;simp only[execOp,Qd,resolve,Qk,invoke,builtin,Builtin.len_];simp only[map_toArray,map_cons,map_nil,w,Q,getElem?_toArray,getElem?_cons_zero,Qd,Ze hu,Qk,ZF,goInt];exact h
      .rename_i r Q;obtain⟨es,aa,hh,h⟩:=h;simp only[execOp,Qd,resolve,Qk,invoke,builtin,Builtin.len_];simp only[map_toArray,map_cons,map_nil,w,Q,getElem?_toArray,getElem?_cons_zero,Qd,Ze hu,getObj];exact⟨_,hh,rfl,rfl,h⟩
      .exact h.elim
     .exact raw _ h
    .exact raw _ h
   |_=>exact raw _ h
 |convert src dt x=>
  simp only[Q5]at h;split at h
  .rename_i k1 k hu hu';simp only[OX]at h;split at h
   .rename_i k2 n e;simp only[execOp,w,e];refine QW ?_;simp only[convert,Qd,Ze hu,Ze hu',Conv.intToInt,Qk];exact h
   .exact h.elim
  .exact raw _ h
 |fieldAddr s x i=>
  simp only[Q5]at h;split at h
  .rename_i fs hu;split at h
   .rename_i fd hfd;split at h
    .rename_i n B;obtain⟨H,G,E⟩:=HR B;simp only[OX]at h;split at h
     .rename_i ad e;simp only[execOp,w,e];refine QW ?_;simp only[Instr.fieldAt,Qd,Ze hu,hfd,Instr.sureAddr,Qk,fieldPlace,Je G,E];simpa[Qk]using h
     .exact h.elim
    .exact raw _ h
   .exact raw _ h
  .exact raw _ h
 |indexAddr t x i=>
  simp only[Q5]at h;split at h
  .rename_i e hu;split at h
   .rename_i n B;simp only[execOp,w];exact QW (kI hu B h)
   .exact raw _ h
  .rename_i len e hu;split at h
   .rename_i n B;split at h
    .exact raw _ h
    .simp only[execOp,w];exact QW (vy hu B h)
   .exact raw _ h
  .exact raw _ h
 |index t x i=>
  simp only[Q5]at h;split at h
  .rename_i hu;simp only[execOp,w];exact QW (vA hu h)
  .exact raw _ h
 |load t x=>
  simp only[Q5]at h;split at h
  .rename_i d hu;split at h
   .rename_i hag;split at h
    .rename_i n B;obtain⟨H,G,E⟩:=HR B;simp only[OX]at h;split at h
     .rename_i ad e;obtain⟨vs,⟨hl,hr⟩,h⟩:=h;simp only[execOp,w,e];refine QW ?_;simp only[Instr.loadAt,Instr.sureAddr,Qd,Qk,loadVar,Hm hu,hag,if_true,Je G,E,<- hl];exact hr.cells h
     .exact h.elim
    .exact raw _ h
   .rename_i hag;simp only[OX]at h;split at h
    .rename_i ad e;obtain⟨v,B,h⟩:=h;rw[Qy]at h;simp only[execOp,w,e];refine QW ?_;simp only[Instr.loadAt,Instr.sureAddr,Qd,Qk,loadVar,Hm hu,hag,Bool.false_eq_true,if_false];exact SD B h
    .exact h.elim
  .exact raw _ h
 |store t x v=>
  simp only[Q5]at h;split at h
  .rename_i n B;obtain⟨H,G,E⟩:=HR B;simp only[OX]at h;split at h
   .rename_i ad e;obtain⟨Y,h⟩:=h;simp only[execOp,w,e];rw[Qd];simp only[Instr.storeAt,Instr.sureAddr,Qd,Qk,storeVar,Je G,E,Y,ne_eq,not_true_eq_false,if_false];exact GQ _ 0 U (QZ.mono (λ U'⟨I,h1,h2⟩=>L _ _ _ h1 h2) _ _ _ h)
   .exact h.elim
  .exact raw _ h
 |box t x=>
  have key:(∀b,U.free b->K (.pb b) (U.put b (.cells (Zg f x).cells t)))->Qq P (execOp a.eval ⟨dst,.box t x,ty,pos,after,guard⟩) (ZF S K) U:=by
   intro h;simp only[execOp,w];refine QW ?_;simp only[Instr.box,newVar,Qd];refine Jg λ b X=>?_;simp only[Qk];exact h b X
  simp only[Q5]at h;split at h
  .split at h
   .exact key h
   .exact key λ b X=>L _ _ _ (Wa (U:=U.put b (.cells (Zg f x).cells t)) (b:=b) (o:=.cells (Zg f x).cells t) (M':=U.M) (Perm.refl _)) ((by simpa only[OX,Oi]using h:∀b I,U.le I->Zj I b (Zg f x).cells->K (.pb b) I) b _ (Gj X) Zj.new)
  .exact key h
 |alloc t=>
  simp only[Q5]at h;split at h
  .rename_i z hz;obtain⟨H,G,N⟩:=GU hz;simp only[execOp];refine QW ?_;simp only[Instr.alloc,newVar,Qd,Xk G N];refine Jg λ b X=>?_;simp only[Qk];obtain⟨I,B,h⟩:=h b X;exact L _ _ _ B h
  .exact raw _ h
 |extract x i=>
  simp only[Q5,OX]at h;simp only[execOp,w];refine QW ?_;split at h
  .rename_i vs e;split at h
   .rename_i v hv;rw[Qy]at h;simp only[e,Instr.extract,hv,Qk];exact h
   .exact h.elim
  .exact h.elim
 |field t x i=>
  simp only[Q5]at h;split at h
  .rename_i fs hu;split at h
   .rename_i fd hfd;split at h
    .rename_i d hd;split at h
     .rename_i hag;split at h
      .rename_i n B;obtain⟨H,G,E⟩:=HR B;simp only[OX]at h;split at h
       .rename_i cs e;simp only[execOp,w,e];refine QW ?_;simp only[Instr.field,Qd,Ze hu,hfd,asAgg,Qk,part,Hm hd,hag,if_true,Je G,E];rw[zz];exact h
       .exact h.elim
      .exact raw _ h
     .rename_i hag;simp only[OX]at h;split at h
      .rename_i cs e;split at h
       .rename_i v hv;rw[Qy]at h;simp only[execOp,w,e];refine QW ?_;simp only[Instr.field,Qd,Ze hu,hfd,asAgg,Qk,part,Hm hd,hag,Bool.false_eq_true,if_false,hv];exact h
       .exact h.elim
      .exact h.elim
    .exact raw _ h
   .exact raw _ h
  .exact raw _ h
 |makeFunc fn first ai=>
  simp only[Q5,OX,J4]at h;have e:a.eval=Zg f:=funext w;simp only[execOp,e];have e1:∀l:Array Operand,l.map (Zg f)=(l.toList.map (Zg f)).toArray:=λ l=>by apply Array.ext';simp
  rw[e1,e1];exact QW h
 |nilCheck x=>
  simp only[Q5,OX]at h;simp only[execOp,w];split at h
  .rename_i ad e;simp only[e];exact QW (s:=pure (.pointer (some ad))) h
  .exact h.elim
 |build t parts=>
  simp only[Q5]at h;split at h
  .rename_i fs z hu hz;split at h
   .rename_i hall;split at h
    .rename_i ps hps;obtain⟨H,G,N⟩:=GU hz;simp only[OX,Hy,Array.toArray_toList]at h;split at h
     .rename_i cells hc;simp only[execOp,w];refine QW ?_;simp only[Instr.build,Qd,Xk G N,Ze hu];refine xX hall ?_
      have ab:Instr.fill ((fs.map λ fd=>(fd.offset,(Jr P fd.type).getD 0))[·]?) z.cells ((parts.map λ p=>(p.1,Zg f p.2)).toList)=some cells:=by
       rw[<- hc,Array.toList_map];refine SA _ f parts.toList ps z.cells ?_;rw[<- hps];congr 1;funext p;simp only[Array.getElem?_map];cases fs[p.1]? <;> rfl
      simp only[ab,Qk];exact h
     .exact h.elim
    .exact raw _ h
   .exact raw _ h
  .exact raw _ h
 |buildSlice t len parts=>
  simp only[Q5]at h;split at h
  .rename_i e hu;split at h
   .rename_i n z B hz;split at h
    .rename_i hle;obtain⟨H,G,N⟩:=GU hz;obtain⟨aj,ae,E⟩:=HR B;simp only[OX,Hy,Array.toArray_toList]at h;split at h
     .rename_i cells hc
      have ac:Instr.fill (λ i=>some (i*n,n)) (if len*n=0 then #[]else(Array.range (len*n)).map (z.cells[· % z.cells.size]!)) ((parts.map λ p=>(p.1,Zg f p.2)).toList)=some cells:=by
       rw[<- hc,Array.toList_map];refine SA _ f parts.toList _ _ ?_;generalize parts.toList=l
       induction l with
       |nil=>rfl
       |cons p l ih=>rw[mapM_cons,ih];rfl
      simp only[execOp,w];refine QW ?_;simp only[Instr.buildSlice,Qd,Ze hu,Je ae,E];rw[if_neg O1]
      have last:∀(V:String)(F:Array Value),F=(if len*n=0 then #[]else(Array.range (len*n)).map (z.cells[· % z.cells.size]!)) ->
        Qq P (do
         let some cells:=Instr.fill (λ i=>some (i*n,n)) ((Array.range (len*n)).map (λ k=>(if len*n=0 then #[]else z.cells)[k % (if len*n=0 then #[]else z.cells).size]!)) ((parts.map λ p=>(p.1,Zg f p.2)).toList)|stuck V
         pure (.slice (some (<- newRow e cells)) len len):Sem Value) K U:=by
       intro V F _
       have Q:(Array.range (len*n)).map (λ k=>(if len*n=0 then #[]else z.cells)[k % (if len*n=0 then #[]else z.cells).size]!)=(if len*n=0 then #[]else(Array.range (len*n)).map (z.cells[· % z.cells.size]!)):=by
        split
        .rename_i W;simp[W]
        .rfl
       rw[Q,ac];simp only[Qd];refine Jg λ b X=>?_;simp only[Qk];obtain⟨I,ag,h⟩:=h b X;exact L _ _ _ ag h
      have:=λ V=>last V _ rfl;by_cases W:len*n=0
      .rw[if_pos W];simp only[W,if_true]at this;simp only[W,Qk];exact this _
      .rw[if_neg W];simp only[W,if_false]at this;simp only[Qd,Xk G N,Qk];exact this _
     .exact h.elim
    .exact raw _ h
   .exact raw _ h
  .exact raw _ h
 |slice t x lo G mx=>
  cases mx with
  |some _=>exact raw _ h
  |none=>
   simp only[Q5]at h;split at h
   .rename_i e hu;split at h
    .rename_i n B;simp only[execOp,show a.eval=Zg f from funext w];exact QW (vB hu B h)
    .exact raw _ h
   .exact raw _ h
 |_=>exact raw _ h
