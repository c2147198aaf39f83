/- Lemmas. No conditions. -/
import Derived.Test.YtnpfcnfhfkflhaaGreatDoorB01
set_option linter.all false
open List
namespace Go.TM
variable{T:Type}{P:Program}{S:Sys P T}{f:Fm}{U:Qa T}
def Rr(t:Tmp)(b:Fm->List Value->Fm)(f:Fm):List Value->Fm
 |[]=>f
 |v::vs=>b (JH f t v) vs
def Gq(f:Fm):List Tmp->List Value->Fm
 |[],_=>f
 |t::ts,vs=>Rr t (λ f vs=>Gq f ts vs) f vs
def Dg{N:Nat}:∀(ts:List Tmp)(vs:List Value)(tmps:Array Value)(f:Fm),(∀t∈ts,t<N)->FR N ⟨tmps,[]⟩ f []->FR N ⟨(ts.zip vs).foldl (λ tmps p=>tmps.setIfInBounds p.1 p.2) tmps,[]⟩ (Gq f ts vs) []
 |[],_,_,_,_,h=>h
 |t::ts,[],_,_,_,h=>h
 |t::ts,v::vs,tmps,f,b,h=>by
  simp only[zip_cons_cons,foldl_cons];show FR N _ (Gq (JH f t v) ts vs) [];exact Dg ts vs _ _ (λ t w=>b t (mem_cons_of_mem _ w)) (h.put (some t) v λ d e=>by cases e;exact b t (mem_cons_self ..))
def YM(l:Nat)(lo:LoopState->Option Code->Obj)(K:Value->Qa T->Prop)(j:Option Code)(U:Qa T):Prop:=
 ∃M',J4 l (lo (if j.isNone then .ready else .done) j) (lo .busy none) U.M M'/\K (.bool j.isNone) { U with M:=M' }
def RC(l:Nat)(lo:LoopState->Option Code->Obj)(n:Qa T->Prop)(x:Nat->Qa T->Prop)(r:Qa T->Prop)(U:Qa T):Prop:=
 ∃st j M',st≠.busy/\J4 l (lo .exhausted j) (lo st j) U.M M'/\(match j with|none=>n { U with M:=M' }|some (.exit i)=>x i { U with M:=M' }|some .ret=>r { U with M:=M' }|_=>False)
def D8(S:Sys P T)(fn:FuncId)(params:Array Tmp)(as z:C)(l:Nat)(lo:LoopState->Option Code->Obj)(f:Fm):Prop:=
 ∀(vs:List Value)(K:Value->Qa T->Prop)(U:Qa T),vs.length=params.size->Qx.obj l (lo .ready none)∈U.M ->
  JV S fn (some l) as (λ h e w=>e=[]/\∃M₁,J4 l (lo .busy none) (lo .ready none) w.M M₁ /\
   JV S fn (some l) z (λ _ _ b=>YM l lo K none b) (λ i _ _ b=>YM l lo K (some (.exit i)) b) (λ _ _ b=>YM l lo K (some .ret) b) h [] { w with M:=M₁ })
   (λ _ _ _ _=>False) (λ _ _ _=>False) (Gq f params.toList vs) [] U->Zl S l vs K U
def V6{l:Nat}{r:Loop}{Q:Loop->Qa T->Prop}(b:Qx.obj l (.loop r)∈U.M)(h:Q r U):Qr P (Instr.getLoop l) Q U:=by
 unfold Instr.getLoop;rw[Qd];exact⟨.loop r,.inr b,rfl,rfl,h⟩
def Cz{l:Nat}{r:Loop}{M':List Qx}{Q:Unit->Qa T->Prop}(b:r.state=.ready)(e:J4 l (.loop { r with state:=.busy }) (.loop r) U.M M')(h:Q () { U with M:=M' }):Qr P (Instr.beginRound l) Q U:=by
 unfold Instr.beginRound;rw[Qd];refine V6 e.mem ?_;simp only[Qd,setObj,Qr];refine⟨_,M',e,rfl,rfl,rfl,?_⟩;rw[b];exact h
def TV{l:Nat}{r:Loop}{M':List Qx}{j:Option Code}{Q:Value->Qa T->Prop}(b:J4 l (.loop { r with state:=if j.isNone then .ready else .done,pending:=j }) (.loop r) U.M M')(h:Q (.bool j.isNone) { U with M:=M' }):Qr P (Instr.endRound l j) Q U:=by
 unfold Instr.endRound;rw[Qd];refine V6 b.mem ?_;simp only[Qd,setObj,Qr];exact⟨_,M',b,rfl,rfl,rfl,h⟩
def kL{l:Nat}{r:Loop}{M':List Qx}{Q:Option Code->Qa T->Prop}(b:r.state≠.busy)(e:J4 l (.loop { r with state:=.exhausted }) (.loop r) U.M M')(h:Q r.pending { U with M:=M' }):Qr P (Instr.endLoop l) Q U:=by
 unfold Instr.endLoop;rw[Qd];refine V6 e.mem ?_;have:(r.state==.busy)=false:=by simpa using b
 rw[this];simp only[Bool.false_eq_true,if_false,Qd,setObj,Qr];exact⟨_,M',e,rfl,rfl,rfl,h⟩
def xh(hm:P.follows .mixedOrders=true){fn N:Nat}{mu dets:List Nat}{c:Operand}{params:Array Tmp}{as X:C}{n:Zm T}{x:Nat->Zm T}{r:Zm T}{ds:List Deferred}{g:FuncId}{first b:Array Value}
  (hc:Zj f c=.func (.func g) first b) (w:params.toList.all (λ t=>decide (t<N))=true) (hg:(P.funcs[g]?.any λ fd=>fd.body.isSome&&fd.name != "runtime.NumGoroutine")=true)
  (h:∀(l d:Nat)(lo:LoopState->Option Code->Obj),U.free d->U.free l->l≠d->D8 S fn params as X l lo f ->
   Qb S g (first.toList++[Value.func (.yield l) #[] #[]]++b.toList).toArray (λ _ V=>WH V ->
    RC l lo (λ U=>n f (⟨.collected d,#[]⟩::ds) U) (λ i U=>x i f (⟨.collected d,#[]⟩::ds) U) (λ U=>r f (⟨.collected d,#[]⟩::ds) U) V)
    { U with M:=.obj l (lo .ready none)::.obj d (.deferred (some []))::U.M }) :
  JV S fn none (.rng N mu dets c params as X) n x r f ds U:=by
 intro ca cb Z aa a W;have hN:∀t∈params.toList,t<N:=λ t ht=>by grind
 refine wA ?_;simp only[Instr.enterLoop,Qd,newObj,Qr,Qk];intro d hd l hl;have ad:U.free l:=⟨hl.1,λ r hr=>hl.2 r (mem_cons_of_mem _ hr)⟩;have ae:l≠d:=λ e=>hl.2 (.obj d (.deferred (some []))) (mem_cons_self ..) e.symm
 let lo:LoopState->Option Code->Obj:=λ st j=>.loop { state:=st,pending:=j,fn,tmps:=a.tmps,params,assign:=ca,body:=cb,defers:=d }
 have H:FR N ⟨a.tmps,[]⟩ f []:=⟨rfl,W.size,W.get⟩
 have hR:D8 S fn params as X l lo f:=by
  intro vs K U' ai Q hw;unfold Zl Instr.yield;rw[Qd];refine V6 (r:={ state:=.ready,pending:=none,fn,tmps:=a.tmps,params,assign:=ca,body:=cb,defers:=d }) Q ?_;have ag:¬(vs.toArray.size≠params.size):=by simp[ai]
  simp only[ag,if_false,Qk];show WI S l fn _ ca cb K U';refine WI.of_body ?_
  have ac:FR N ⟨(params.zip vs.toArray).foldl (λ tmps(t,a)=>tmps.setIfInBounds t a) a.tmps,[]⟩ (Gq f params.toList vs) []:=by
   have:=Dg params.toList vs a.tmps f hN H;rw[<- Array.foldl_toList];simpa using this
  rw[<- Z]at hw;refine Zw.mono (G4 hm ca ac hw) λ e a' U1 w=>?_;obtain⟨an,al,G,w⟩:=w;cases e with
  |exit i=>exact w.elim
  |ret=>exact w.elim
  |normal=>
   obtain⟨rfl,M₁,z,w⟩:=w;refine⟨rfl,Cz (r:={ state:=.ready,pending:=none,fn,tmps:=a.tmps,params,assign:=ca,body:=cb,defers:=d }) rfl z ?_⟩;rw[<- aa]at w;refine Zw.mono (G4 hm cb G w) λ e ak U2 w=>?_;obtain⟨ao,am,aj,w⟩:=w;cases e with
   |normal=>obtain⟨M',z,L⟩:=w;exact TV (r:={ state:=.busy,pending:=none,fn,tmps:=a.tmps,params,assign:=ca,body:=cb,defers:=d }) z L
   |exit i=>obtain⟨M',z,L⟩:=w;exact TV (r:={ state:=.busy,pending:=none,fn,tmps:=a.tmps,params,assign:=ca,body:=cb,defers:=d }) z L
   |ret=>obtain⟨M',z,L⟩:=w;exact TV (r:={ state:=.busy,pending:=none,fn,tmps:=a.tmps,params,assign:=ca,body:=cb,defers:=d }) z L
 have B:=h l d lo hd ad ae hR;have ab:a.eval c=.func (.func g) first b:=by rw[W.eval];exact hc
 have af:(#[.const (.func (.yield l) #[] #[])]:Array Operand).map a.eval=#[Value.func (.yield l) #[] #[]]:=by simp[Act.eval]
 simp only[resolve,Kg,ab,af,Qd,Deferred.ofValue,Qk,invoke,callFunc,program,Qr];cases I:P.funcs[g]? with
 |none=>simp[I]at hg
 |some fd=>
  simp only[I,Option.any_some,Bool.and_eq_true,bne_iff_ne,ne_eq]at hg;obtain⟨h1,h2⟩:=hg;have F:fd.body.isNone=false:=by cases ap:fd.body <;> simp_all
  have E:(fd.name== "runtime.NumGoroutine")=false:=by simpa using h2
  simp only[E,F,Bool.false_eq_true,if_false,Qk];have e:(first++#[Value.func (.yield l) #[] #[]])++b=(first.toList++[Value.func (.yield l) #[] #[]]++b.toList).toArray:=by apply Array.ext';simp
  rw[e];refine Qb.sep B λ v V hs Y=>⟨V,.refl _,?_⟩;obtain⟨st,j,M',ah,z,Y⟩:=Y hs;refine kL (r:={ state:=st,pending:=j,fn,tmps:=a.tmps,params,assign:=ca,body:=cb,defers:=d }) ah z ?_;have aq:a.defers=ds:=W.ds;cases j with
  |none=>simp_all
  |some cd=>
   cases cd with
   |exit i=>simp_all[Ld,trivial]
   |ret=>simp_all[EI,trivial]
   |_=>exact Y.elim
end Go.TM
namespace Go.TM
def btw(n a b:Int):Bool:=decide (a<=n)&&decide (n<=b)
def WT{α:Type}{l:List α}{i:Nat}{x:α}(h:l[i]?=some x):l.drop i=x::l.drop (i+1):=by
 grind[drop_eq_getElem_cons]
def Ji{α:Type}{l:List α}{i:Nat}{x:α}(h:l[i]?=some x):l.take (i+1)=l.take i++[x]:=by
 rw[take_add_one,h];rfl
structure TH where
 ea:Option Addr
 el:Nat
 ec:Nat
 ma:Option Addr
 ml:Nat
 mc:Nat
 ka:Option Addr
 kl:Nat
 kc:Nat
variable{T:Type}
def Zi.sees3{U:Qa T}{b o:Nat}{c:Array Value}{v:Value}(h:Zi U b c)(e:c[o]?=some v):U.sees ((Addr.mk b 0 none).add o) v:=by
 rw[Qo,Nat.zero_add];exact h.sees e
end Go.TM

