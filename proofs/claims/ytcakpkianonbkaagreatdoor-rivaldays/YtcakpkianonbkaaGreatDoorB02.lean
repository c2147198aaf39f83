/- Lemmas. No conditions. -/
import Derived.Test.YtcakpkianonbkaaGreatDoorB01
set_option linter.all false
open List
namespace Go.TM
variable{T:Type}{P:Program}{S:Sys P T}{f:Fm}{U:Qa T}
def eK(t:Tmp)(b:Fm->List Value->Fm)(f:Fm):List Value->Fm
 |[]=>f
 |v::vs=>b (JK f t v) vs
def Pi(f:Fm):List Tmp->List Value->Fm
 |[],_=>f
 |t::ts,vs=>eK t (λ f vs=>Pi f ts vs) f vs
def MO{N:Nat}:∀(ts:List Tmp)(vs:List Value)(tmps:Array Value)(f:Fm),(∀t∈ts,t<N)->FR N ⟨tmps,[]⟩ f []->FR N ⟨(ts.zip vs).foldl (λ tmps p=>tmps.setIfInBounds p.1 p.2) tmps,[]⟩ (Pi f ts vs) []
 |[],_,_,_,_,h=>h
 |t::ts,[],_,_,_,h=>h
 |t::ts,v::vs,tmps,f,b,h=>by
  simp only[zip_cons_cons,foldl_cons];show FR N _ (Pi (JK f t v) ts vs) [];exact MO ts vs _ _ (λ t w=>b t (mem_cons_of_mem _ w)) (h.put (some t) v λ d e=>by cases e;exact b t (mem_cons_self ..))
def DA(l:Nat)(lo:LoopState->Option Code->Obj)(K:Value->Qa T->Prop)(j:Option Code)(U:Qa T):Prop:=
 ∃M',J7 l (lo (if j.isNone then .ready else .done) j) (lo .busy none) U.M M'/\K (.bool j.isNone) { U with M:=M' }
def dv(l:Nat)(lo:LoopState->Option Code->Obj)(n:Qa T->Prop)(x:Nat->Qa T->Prop)(r:Qa T->Prop)(U:Qa T):Prop:=
 ∃st j M',st≠.busy/\J7 l (lo .exhausted j) (lo st j) U.M M'/\(match j with|none=>n { U with M:=M' }|some (.exit i)=>x i { U with M:=M' }|some .ret=>r { U with M:=M' }|_=>False)
def Nn(S:Sys P T)(fn:FuncId)(params:Array Tmp)(as z:C)(l:Nat)(lo:LoopState->Option Code->Obj)(f:Fm):Prop:=
 ∀(vs:List Value)(K:Value->Qa T->Prop)(U:Qa T),vs.length=params.size->Qw.obj l (lo .ready none)∈U.M ->
  WA S fn (some l) as (λ h e w=>e=[]/\∃M₁,J7 l (lo .busy none) (lo .ready none) w.M M₁ /\
   WA S fn (some l) z (λ _ _ b=>DA l lo K none b) (λ i _ _ b=>DA l lo K (some (.exit i)) b) (λ _ _ b=>DA l lo K (some .ret) b) h [] { w with M:=M₁ })
   (λ _ _ _ _=>False) (λ _ _ _=>False) (Pi f params.toList vs) [] U->Zh S l vs K U
def KD{l:Nat}{r:Loop}{Q:Loop->Qa T->Prop}(b:Qw.obj l (.loop r)∈U.M)(h:Q r U):Qr P (Instr.getLoop l) Q U:=by
 unfold Instr.getLoop;rw[Qf];exact⟨.loop r,.inr b,rfl,rfl,h⟩
def jc{l:Nat}{r:Loop}{M':List Qw}{Q:Unit->Qa T->Prop}(b:r.state=.ready)(e:J7 l (.loop { r with state:=.busy }) (.loop r) U.M M')(h:Q () { U with M:=M' }):Qr P (Instr.beginRound l) Q U:=by
 unfold Instr.beginRound;rw[Qf];refine KD e.mem ?_;simp only[Qf,setObj,Qr];refine⟨_,M',e,rfl,rfl,rfl,?_⟩;rw[b];exact h
def To{l:Nat}{r:Loop}{M':List Qw}{j:Option Code}{Q:Value->Qa T->Prop}(b:J7 l (.loop { r with state:=if j.isNone then .ready else .done,pending:=j }) (.loop r) U.M M')(h:Q (.bool j.isNone) { U with M:=M' }):Qr P (Instr.endRound l j) Q U:=by
 unfold Instr.endRound;rw[Qf];refine KD b.mem ?_;simp only[Qf,setObj,Qr];exact⟨_,M',b,rfl,rfl,rfl,h⟩
def pf{l:Nat}{r:Loop}{M':List Qw}{Q:Option Code->Qa T->Prop}(b:r.state≠.busy)(e:J7 l (.loop { r with state:=.exhausted }) (.loop r) U.M M')(h:Q r.pending { U with M:=M' }):Qr P (Instr.endLoop l) Q U:=by
 unfold Instr.endLoop;rw[Qf];refine KD e.mem ?_;have:(r.state==.busy)=false:=by simpa using b
 rw[this];simp only[Bool.false_eq_true,if_false,Qf,setObj,Qr];exact⟨_,M',e,rfl,rfl,rfl,h⟩
def Nl(hm:P.follows .mixedOrders=true){fn N:Nat}{mu dets:List Nat}{c:Operand}{params:Array Tmp}{as Z:C}{n:Zq T}{x:Nat->Zq T}{r:Zq T}{ds:List Deferred}{g:FuncId}{first b:Array Value}
  (hc:Zo f c=.func (.func g) first b) (w:params.toList.all (λ t=>decide (t<N))=true) (hg:(P.funcs[g]?.any λ fd=>fd.body.isSome&&fd.name != "runtime.NumGoroutine")=true)
  (h:∀(l d:Nat)(lo:LoopState->Option Code->Obj),U.free d->U.free l->l≠d->Nn S fn params as Z l lo f ->
   Qb S g (first.toList++[Value.func (.yield l) #[] #[]]++b.toList).toArray (λ _ X=>WN X ->
    dv l lo (λ U=>n f (⟨.collected d,#[]⟩::ds) U) (λ i U=>x i f (⟨.collected d,#[]⟩::ds) U) (λ U=>r f (⟨.collected d,#[]⟩::ds) U) X)
    { U with M:=.obj l (lo .ready none)::.obj d (.deferred (some []))::U.M }) :
  WA S fn none (.rng N mu dets c params as Z) n x r f ds U:=by
 intro ca cb aa ab a Y;have hN:∀t∈params.toList,t<N:=λ t ht=>by simpa using all_eq_true.1 w t ht
 refine RF ?_;simp only[Instr.enterLoop,Qf,newObj,Qr,Qk];intro d hd l hl;have ae:U.free l:=⟨hl.1,λ r hr=>hl.2 r (mem_cons_of_mem _ hr)⟩;have af:l≠d:=λ e=>hl.2 (.obj d (.deferred (some []))) (mem_cons_self ..) e.symm
 let lo:LoopState->Option Code->Obj:=λ st j=>.loop { state:=st,pending:=j,fn,tmps:=a.tmps,params,assign:=ca,body:=cb,defers:=d }
 have L:FR N ⟨a.tmps,[]⟩ f []:=⟨rfl,Y.size,Y.get⟩
 have hR:Nn S fn params as Z l lo f:=by
  intro vs K U' aj W hw;unfold Zh Instr.yield;rw[Qf];refine KD (r:={ state:=.ready,pending:=none,fn,tmps:=a.tmps,params,assign:=ca,body:=cb,defers:=d }) W ?_;have ah:¬(vs.toArray.size≠params.size):=by simp[aj]
  simp only[ah,if_false,Qk];show WE S l fn _ ca cb K U';refine WE.of_body ?_
  have ad:FR N ⟨(params.zip vs.toArray).foldl (λ tmps(t,a)=>tmps.setIfInBounds t a) a.tmps,[]⟩ (Pi f params.toList vs) []:=by
   have:=MO params.toList vs a.tmps f hN L;rw[<- Array.foldl_toList];simpa using this
  rw[<- aa]at hw;refine Zv.mono (GH hm ca ad hw) λ e a' U1 w=>?_;obtain⟨ao,am,I,w⟩:=w;cases e with
  |exit i=>exact w.elim
  |ret=>exact w.elim
  |normal=>
   obtain⟨rfl,M₁,z,w⟩:=w;refine⟨rfl,jc (r:={ state:=.ready,pending:=none,fn,tmps:=a.tmps,params,assign:=ca,body:=cb,defers:=d }) rfl z ?_⟩;rw[<- ab]at w;refine Zv.mono (GH hm cb I w) λ e al U2 w=>?_;obtain⟨ap,an,ak,w⟩:=w;cases e with
   |normal=>obtain⟨M',z,V⟩:=w;exact To (r:={ state:=.busy,pending:=none,fn,tmps:=a.tmps,params,assign:=ca,body:=cb,defers:=d }) z V
   |exit i=>obtain⟨M',z,V⟩:=w;exact To (r:={ state:=.busy,pending:=none,fn,tmps:=a.tmps,params,assign:=ca,body:=cb,defers:=d }) z V
   |ret=>obtain⟨M',z,V⟩:=w;exact To (r:={ state:=.busy,pending:=none,fn,tmps:=a.tmps,params,assign:=ca,body:=cb,defers:=d }) z V
 have B:=h l d lo hd ae af hR;have ac:a.eval c=.func (.func g) first b:=by rw[Y.eval];exact hc
 have ag:(#[.const (.func (.yield l) #[] #[])]:Array Operand).map a.eval=#[Value.func (.yield l) #[] #[]]:=by simp[Act.eval]
 simp only[resolve,Y4,ac,ag,Qf,Deferred.ofValue,Qk,invoke,callFunc,program,Qr];cases Q:P.funcs[g]? with
 |none=>simp[Q]at hg
 |some fd=>
  simp only[Q,Option.any_some,Bool.and_eq_true,bne_iff_ne,ne_eq]at hg;obtain⟨h1,h2⟩:=hg;have G:fd.body.isNone=false:=by cases aq:fd.body <;> simp_all
  have F:(fd.name== "runtime.NumGoroutine")=false:=by simpa using h2
  simp only[F,G,Bool.false_eq_true,if_false,Qk];have e:(first++#[Value.func (.yield l) #[] #[]])++b=(first.toList++[Value.func (.yield l) #[] #[]]++b.toList).toArray:=by apply Array.ext';simp
  rw[e];refine Qb.sep B λ v X hs H=>⟨X,.refl _,?_⟩;obtain⟨st,j,M',ai,z,H⟩:=H hs;refine pf (r:={ state:=st,pending:=j,fn,tmps:=a.tmps,params,assign:=ca,body:=cb,defers:=d }) ai z ?_;have E:a.defers=ds:=Y.ds;cases j with
  |none=>exact⟨T1,by simpa[E]using H⟩
  |some cd=>
   cases cd with
   |exit i=>exact N2 ⟨T1,by simpa[E]using H⟩
   |ret=>exact Nu ⟨T1,by simpa[E]using H⟩
   |_=>exact H.elim
end Go.TM
namespace Go.TM
def Ws(n a b:Int):Bool:=decide (a<=n)&&decide (n<=b)
def Ww{α:Type}{l:List α}{i:Nat}{x:α}(h:l[i]?=some x):l.drop i=x::l.drop (i+1):=by
 obtain⟨b,rfl⟩:=List.getElem?_eq_some_iff.1 h;exact drop_eq_getElem_cons b
def Z3{α:Type}{l:List α}{i:Nat}{x:α}(h:l[i]?=some x):l.take (i+1)=l.take i++[x]:=by
 rw[take_add_one,h];rfl
structure TH where
 ea:Option Addr
 el:Nat
 ec:Nat
 ma:Option Addr
 ml:Nat
 mc:Nat
 ka:Option Addr
 kl:Nat
 kc:Nat
variable{T:Type}
def Zf.sees3{U:Qa T}{b o:Nat}{c:Array Value}{v:Value}(h:Zf U b c)(e:c[o]?=some v):U.sees ((Addr.mk b 0 none).add o) v:=by
 rw[Qp,Nat.zero_add];exact h.sees e
end Go.TM

