/- Lemmas. No conditions. -/
import Derived.Test.YtcakpkianonbkaaGreatDoorB01
set_option linter.all false
open List
namespace Go.TM
variable{T:Type}{P:Program}{S:Sys P T}{f:Fm}{U:Qa T}
def Zt0(t:Tmp)(ih:Fm->List Value->Fm)(f:Fm):List Value->Fm
 |[]=>f
 |v::vs=>ih (upd f t v) vs
def Zjl(f:Fm):List Tmp->List Value->Fm
 |[],_=>f
 |t::ts,vs=>Zt0 t (λ f vs=>Zjl f ts vs) f vs
def Ze9{N:Nat}:∀(ts:List Tmp)(vs:List Value)(tmps:Array Value)(f:Fm),(∀t∈ts,t<N)->FR N ⟨tmps,[]⟩ f []->FR N ⟨(ts.zip vs).foldl (λ tmps p=>tmps.setIfInBounds p.1 p.2) tmps,[]⟩ (Zjl f ts vs) []
 |[],_,_,_,_,h=>h
 |t::ts,[],_,_,_,h=>h
 |t::ts,v::vs,tmps,f,hN,h=>by
  simp only[zip_cons_cons,foldl_cons];show FR N _ (Zjl (upd f t v) ts vs) [];exact Ze9 ts vs _ _ (λ t ht=>hN t (mem_cons_of_mem _ ht)) (h.put (some t) v λ d hd=>by cases hd;exact hN t (mem_cons_self ..))
def Zr2(l:Nat)(lo:LoopState->Option Code->Obj)(K:Value->Qa T->Prop)(j:Option Code)(U:Qa T):Prop:=
 ∃M',J4 l (lo (if j.isNone then .ready else .done) j) (lo .busy none) U.M M'/\K (.bool j.isNone) { U with M:=M' }
def Zry(l:Nat)(lo:LoopState->Option Code->Obj)(n:Qa T->Prop)(x:Nat->Qa T->Prop)(r:Qa T->Prop)(U:Qa T):Prop:=
 ∃st j M',st≠.busy/\J4 l (lo .exhausted j) (lo st j) U.M M'/\(match j with|none=>n { U with M:=M' }|some (.exit i)=>x i { U with M:=M' }|some .ret=>r { U with M:=M' }|_=>False)
def Zj7(S:Sys P T)(fn:FuncId)(params:Array Tmp)(as bd:C)(l:Nat)(lo:LoopState->Option Code->Obj)(f:Fm):Prop:=
 ∀(vs:List Value)(K:Value->Qa T->Prop)(U:Qa T),vs.length=params.size->Qv.obj l (lo .ready none)∈U.M ->
  wpC S fn (some l) as (λ f_1 ds1 U1=>ds1=[]/\∃M₁,J4 l (lo .busy none) (lo .ready none) U1.M M₁ /\
   wpC S fn (some l) bd (λ _ _ U2=>Zr2 l lo K none U2) (λ i _ _ U2=>Zr2 l lo K (some (.exit i)) U2) (λ _ _ U2=>Zr2 l lo K (some .ret) U2) f_1 [] { U1 with M:=M₁ })
   (λ _ _ _ _=>False) (λ _ _ _=>False) (Zjl f params.toList vs) [] U->Zh S l vs K U
def Qgo{l:Nat}{r:Loop}{Q:Loop->Qa T->Prop}(hm:Qv.obj l (.loop r)∈U.M)(h:Q r U):Qr P (Instr.getLoop l) Q U:=by
 unfold Instr.getLoop;rw[Qf];exact⟨.loop r,.inr hm,rfl,rfl,h⟩
def Qxh{l:Nat}{r:Loop}{M':List Qv}{Q:Unit->Qa T->Prop}(hst:r.state=.ready)(hu:J4 l (.loop { r with state:=.busy }) (.loop r) U.M M')(h:Q () { U with M:=M' }):Qr P (Instr.beginRound l) Q U:=by
 unfold Instr.beginRound;rw[Qf];refine Qgo hu.mem ?_;simp only[Qf,setObj,Qr];refine⟨_,M',hu,rfl,rfl,rfl,?_⟩;rw[hst];exact h
def Qig{l:Nat}{r:Loop}{M':List Qv}{j:Option Code}{Q:Value->Qa T->Prop}(hu:J4 l (.loop { r with state:=if j.isNone then .ready else .done,pending:=j }) (.loop r) U.M M')(h:Q (.bool j.isNone) { U with M:=M' }):Qr P (Instr.endRound l j) Q U:=by
 unfold Instr.endRound;rw[Qf];refine Qgo hu.mem ?_;simp only[Qf,setObj,Qr];exact⟨_,M',hu,rfl,rfl,rfl,h⟩
def Zej{l:Nat}{r:Loop}{M':List Qv}{Q:Option Code->Qa T->Prop}(hst:r.state≠.busy)(hu:J4 l (.loop { r with state:=.exhausted }) (.loop r) U.M M')(h:Q r.pending { U with M:=M' }):Qr P (Instr.endLoop l) Q U:=by
 unfold Instr.endLoop;rw[Qf];refine Qgo hu.mem ?_;have:(r.state==.busy)=false:=by simpa using hst
 rw[this];simp only[Bool.false_eq_true,if_false,Qf,setObj,Qr];exact⟨_,M',hu,rfl,rfl,rfl,h⟩
def Zf2(hm:P.follows .mixedOrders=true){fn N:Nat}{mu dets:List Nat}{c:Operand}{params:Array Tmp}{as bd:C}{n:Zp T}{x:Nat->Zp T}{r:Zp T}{ds:List Deferred}{g:FuncId}{first capt:Array Value}
  (hc:Zl f c=.func (.func g) first capt) (hp:params.toList.all (λ t=>decide (t<N))=true) (hg:(P.funcs[g]?.any λ fd=>fd.body.isSome&&fd.name != "runtime.NumGoroutine")=true)
  (h:∀(l d:Nat)(lo:LoopState->Option Code->Obj),U.free d->U.free l->l≠d->Zj7 S fn params as bd l lo f ->
   Qb S g (first.toList++[Value.func (.yield l) #[] #[]]++capt.toList).toArray (λ _ U3=>Sep U3 ->
    Zry l lo (λ U=>n f (⟨.collected d,#[]⟩::ds) U) (λ i U=>x i f (⟨.collected d,#[]⟩::ds) U) (λ U=>r f (⟨.collected d,#[]⟩::ds) U) U3)
    { U with M:=.obj l (lo .ready none)::.obj d (.deferred (some []))::U.M }) :
  wpC S fn none (.rng N mu dets c params as bd) n x r f ds U:=by
 intro ca cb hca hcb a hf;have hN:∀t∈params.toList,t<N:=λ t ht=>by simpa using all_eq_true.1 hp t ht
 refine Q00 ?_;simp only[Instr.enterLoop,Qf,newObj,Qr,Qi];intro d hd l hl;have hl0:U.free l:=⟨hl.1,λ r hr=>hl.2 r (mem_cons_of_mem _ hr)⟩;have hld:l≠d:=λ e=>hl.2 (.obj d (.deferred (some []))) (mem_cons_self ..) e.symm
 let lo:LoopState->Option Code->Obj:=λ st j=>.loop { state:=st,pending:=j,fn,tmps:=a.tmps,params,assign:=ca,body:=cb,defers:=d }
 have hfr0:FR N ⟨a.tmps,[]⟩ f []:=⟨rfl,hf.size,hf.get⟩
 have hR:Zj7 S fn params as bd l lo f:=by
  intro vs K U' hvs hmem hw;unfold Zh Instr.yield;rw[Qf];refine Qgo (r:={ state:=.ready,pending:=none,fn,tmps:=a.tmps,params,assign:=ca,body:=cb,defers:=d }) hmem ?_;have hne:¬(vs.toArray.size≠params.size):=by simp[hvs]
  simp only[hne,if_false,Qi];show Qaw S l fn _ ca cb K U';refine Qaw.of_body ?_
  have hfr:FR N ⟨(params.zip vs.toArray).foldl (λ tmps(t,a)=>tmps.setIfInBounds t a) a.tmps,[]⟩ (Zjl f params.toList vs) []:=by
   have:=Ze9 params.toList vs a.tmps f hN hfr0;rw[<- Array.foldl_toList];simpa using this
  rw[<- hca]at hw;refine Zu.mono (Qc9 hm ca hfr hw) λ e a' U1 hp=>?_;obtain⟨f_1,ds1,hf_1,hp⟩:=hp;cases e with
  |exit i=>exact hp.elim
  |ret=>exact hp.elim
  |normal=>
   obtain⟨rfl,M₁,hu,hp⟩:=hp;refine⟨rfl,Qxh (r:={ state:=.ready,pending:=none,fn,tmps:=a.tmps,params,assign:=ca,body:=cb,defers:=d }) rfl hu ?_⟩;rw[<- hcb]at hp;refine Zu.mono (Qc9 hm cb hf_1 hp) λ e a'' U2 hp=>?_;obtain⟨f_2,ds2,hf_2,hp⟩:=hp;cases e with
   |normal=>obtain⟨M',hu,hk⟩:=hp;exact Qig (r:={ state:=.busy,pending:=none,fn,tmps:=a.tmps,params,assign:=ca,body:=cb,defers:=d }) hu hk
   |exit i=>obtain⟨M',hu,hk⟩:=hp;exact Qig (r:={ state:=.busy,pending:=none,fn,tmps:=a.tmps,params,assign:=ca,body:=cb,defers:=d }) hu hk
   |ret=>obtain⟨M',hu,hk⟩:=hp;exact Qig (r:={ state:=.busy,pending:=none,fn,tmps:=a.tmps,params,assign:=ca,body:=cb,defers:=d }) hu hk
 have hcall:=h l d lo hd hl0 hld hR;have hcc:a.eval c=.func (.func g) first capt:=by rw[hf.eval];exact hc
 have hmm:(#[.const (.func (.yield l) #[] #[])]:Array Operand).map a.eval=#[Value.func (.yield l) #[] #[]]:=by simp[Act.eval]
 simp only[resolve,Qja,hcc,hmm,Qf,Deferred.ofValue,Qi,invoke,callFunc,program,Qr];cases hgf:P.funcs[g]? with
 |none=>simp[hgf]at hg
 |some fd=>
  simp only[hgf,Option.any_some,Bool.and_eq_true,bne_iff_ne,ne_eq]at hg;obtain⟨h1,h2⟩:=hg;have hnone:fd.body.isNone=false:=by cases hbd:fd.body <;> simp_all
  have hname:(fd.name== "runtime.NumGoroutine")=false:=by simpa using h2
  simp only[hname,hnone,Bool.false_eq_true,if_false,Qi];have e:(first++#[Value.func (.yield l) #[] #[]])++capt=(first.toList++[Value.func (.yield l) #[] #[]]++capt.toList).toArray:=by apply Array.ext';simp
  rw[e];refine Qb.sep hcall λ v U3 hs hA=>⟨U3,.refl _,?_⟩;obtain⟨st,j,M',hst,hu,hA⟩:=hA hs;refine Zej (r:={ state:=st,pending:=j,fn,tmps:=a.tmps,params,assign:=ca,body:=cb,defers:=d }) hst hu ?_;have hds:a.defers=ds:=hf.ds;cases j with
  |none=>exact⟨by trivial,by simpa[hds]using hA⟩
  |some cd=>
   cases cd with
   |exit i=>exact Ze4 ⟨by trivial,by simpa[hds]using hA⟩
   |ret=>exact Zni ⟨by trivial,by simpa[hds]using hA⟩
   |_=>exact hA.elim
end Go.TM
namespace Go.TM
def W1(n a b:Int):Bool:=decide (a<=n)&&decide (n<=b)
def Qbe{α:Type}{l:List α}{i:Nat}{x:α}(h:l[i]?=some x):l.drop i=x::l.drop (i+1):=by
 obtain⟨hlt,rfl⟩:=List.getElem?_eq_some_iff.1 h;exact drop_eq_getElem_cons hlt
def Jt{α:Type}{l:List α}{i:Nat}{x:α}(h:l[i]?=some x):l.take (i+1)=l.take i++[x]:=by
 rw[take_add_one,h];rfl
structure TH where
 ea:Option Addr
 el:Nat
 ec:Nat
 ma:Option Addr
 ml:Nat
 mc:Nat
 ka:Option Addr
 kl:Nat
 kc:Nat
variable{T:Type}
def Zd.sees3{U:Qa T}{b o:Nat}{c:Array Value}{v:Value}(h:Zd U b c)(hv:c[o]?=some v):U.sees ((Addr.mk b 0 none).add o) v:=by
 rw[Qo,Nat.zero_add];exact h.sees hv
end Go.TM
