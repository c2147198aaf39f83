/- A part of the proof: lemmas that the last text uses. No conditions of its own. -/
import Derived.Test.YtebpcmdnecenlaaGreatH01
set_option linter.unusedSimpArgs false
set_option linter.unusedVariables false
namespace Go.TM
variable {T:Type} {P:Program} {S:Sys P T}
theorem add_none (b o n:Nat):(Addr.mk b o none).add n=⟨b,o+n,none⟩:=by
 simp only [Addr.add]
 split
 ·rename_i h;subst h;rfl
 ·rfl
theorem add_add (a:Addr) (h:a.spot=none) (m n:Nat):(a.add m).add n=a.add (m+n):=by
 obtain⟨b,o,s⟩:=a
 cases h
 rw [add_none,add_none,add_none,Nat.add_assoc]
theorem Blk.sees {Z:View T} {b o:Nat} {c:Array Value} {v:Value} (h:Blk Z b c) (hv:c[o]?=some v):Z.sees ⟨b,o,none⟩ v:=by
 obtain⟨t,fr,h⟩:=h
 exact⟨rfl,.inl ⟨c,t,fr,.inl h,hv⟩⟩
theorem Blk.le {Z Z':View T} {b:Nat} {c:Array Value} (h:Blk Z b c) (hl:Z.le Z'):Blk Z' b c:=let ⟨t,fr,h⟩:=h;⟨t,fr,hl.imm _ _ h⟩
theorem Blk.reads {Z:View T} {b o:Nat} {c:Array Value} {vs:List Value} (h:Blk Z b c) (hv:∀i v,vs[i]?=some v->c[o+i]?=some v):Reads Z ⟨b,o,none⟩ vs:=by
 intro i v hi
 rw [add_none]
 exact h.sees (hv i v hi)
theorem shift_le {Z Z':View T} (h:Z.le Z'):Shift Z' Z:=by
 refine⟨h.tok.symm,λ w ok=>⟨⟨λ b o e=>ok.imm b o (h.imm b o e),λ r hr=>ok.held r (h.own ▸ hr),h.own ▸ ok.apart,λ r hr=>?_⟩,λ l hl=>?_,λ l hl=>?_⟩⟩
 ·have:=ok.sep r (h.own ▸ hr)
  cases e:Z.I r.blk with
  | none=>rfl
  | some o=>rw [h.imm _ _ e] at this;cases this
 ·rw [canW_iff] at hl ⊢;rw [h.own];exact hl
 ·rw [canR_iff] at hl ⊢
  rw [h.own]
  refine hl.imp id λ hl=>?_
  cases l with
  | cell a=>obtain⟨c,t,fr,hc,hlt⟩:=hl;exact⟨c,t,fr,h.imm _ _ hc,hlt⟩
  | obj b=>obtain⟨o,ho⟩:=hl;exact⟨o,h.imm _ _ ho⟩
  | output=>exact hl
  | goroutines=>exact hl
  | mark _=>exact hl
theorem CallsV.pure {f:FuncId} {args:Array Value} {Z:View T} {Q:Value->Prop} (h:CallsV S f args (λ v Z'=>Q v/\Z.le Z') Z):CallsV S f args (λ v Z'=>Q v/\Z'=Z) Z:=
 h.post λ _ _ ⟨q,hl⟩=>⟨Z,shift_le hl,q,rfl⟩
end Go.TM
namespace Go.TM
def rgFind (id:Nat):Code->Option Code
 | .region i ops d=>if i=id then some (.region i ops d) else none
 | .seq a b=>(rgFind id a).or (rgFind id b)
 | .cond _ a b=>(rgFind id a).or (rgFind id b)
 | .block _ b=>rgFind id b
 | .loop b=>rgFind id b
 | .scope b=>rgFind id b
 | .rangeFunc _ _ a b=>(rgFind id a).or (rgFind id b)
 | _=>none
def rgAt (fd:Func) (id:Nat):Code:=(fd.body.bind (rgFind id)).getD .skip
def rgOps (fd:Func) (id:Nat):Array Oper:=match rgAt fd id with
 | .region _ ops _=>ops
 | _=>#[]
abbrev _root_.Go.Operand.t (n:Nat):Operand:=.tmp n
abbrev _root_.Go.Operand.ci (n:Int):Operand:=.const (.int .i64 n)
abbrev _root_.Go.Operand.cb (b:Bool):Operand:=.const (.bool b)
abbrev _root_.Go.Operand.cn:Operand:=.const (.slice none 0 0)
variable {T:Type} {P:Program} {S:Sys P T}
inductive RV where
 | t (n:Nat)
 | c (a:Nat)
 | cn (a n:Nat)
def rvOf (P:Program):ResultVar->Option RV
 | .tmp t=>some (.t t)
 | .cell a t=>match P.underlying t with
  | some d=>if TypeDesc.agg d then (sizeAt P t).map (.cn a) else some (.c a)
  | none=>none
def outV (acc:List Value):Value:=match acc with | [v]=>v | l=>.tuple l.reverse.toArray
def outK (acc:List Value) (K:Value->Prop):Prop:=match acc with | [v]=>K v | l=>K (.tuple l.reverse.toArray)
theorem outK_eq (acc:List Value) (K:Value->Prop):outK acc K=K (outV acc):=by
 unfold outK outV
 split <;> simp_all
def ResX1 (f:Fm) (Q:Value->View T->Prop) (x:RV) (ih:List Value->View T->Prop) (acc:List Value) (Z:View T):Prop:=
 match x with
 | .t t=>force (f t) λ v=>ih (v::acc) Z
 | .c a=>match f a with | .pointer (some ad)=>∃v,Z.sees ad v/\force v λ v=>ih (v::acc) Z | _=>False
 | .cn a n=>match f a with | .pointer (some ad)=>∃vs:List Value,(vs.length=n/\Reads Z ad vs)/\ih (.agg vs.toArray::acc) Z | _=>False
def ResX (f:Fm) (Q:Value->View T->Prop) (l:List RV):List Value->View T->Prop:=
 List.rec (motive:=λ _=>List Value->View T->Prop) (λ acc Z=>outK acc λ v=>Q v Z) (λ x _ ih=>ResX1 f Q x ih) l
theorem ResX_cons (f:Fm) (Q:Value->View T->Prop) (x:RV) (r:List RV):ResX f Q (x::r)=ResX1 f Q x (ResX f Q r):=rfl
def resFin (acc:List Value):Value:=if h:acc.reverse.toArray.size=1 then acc.reverse.toArray[0] else .tuple acc.reverse.toArray
theorem resFin_eq (acc:List Value):outV acc=resFin acc:=by
 unfold resFin outV
 match acc with
 | []=>rfl
 | [v]=>rfl
 | a::b::r=>rw [dif_neg (by simp)]
theorem resX_sound {fd:Func} {Q:Value->View T->Prop} {f:Fm} {tmps:Array Value} (ht:∀t,tmps.getD t undef=f t) :
  ∀(l:List ResultVar) (rl:List RV),l.mapM (rvOf P)=some rl->∀(acc:List Value) (Z:View T),ResX f Q rl acc Z->SemV P (listM (λ x=>match x with
   | ResultVar.tmp t=>pure (tmps.getD t undef)
   | ResultVar.cell a t=>do loadVar t (<- asAddr (tmps.getD a undef))) l acc.reverse.toArray) (λ vs Z=>SemV P (pure (if h:vs.size=1 then vs[0] else .tuple vs):Sem Value) Q Z) Z:=by
 intro l
 induction l with
 | nil=>
  intro rl h acc Z hq
  simp at h;subst h
  replace hq:outK acc (λ v=>Q v Z):=hq
  rw [outK_eq] at hq
  rw [resFin_eq] at hq
  exact hq
 | cons x l ih=>
  intro rl h acc Z hq
  simp only [List.mapM_cons,Option.pure_def,Option.bind_eq_bind,Option.bind_eq_some_iff] at h
  obtain⟨rv,hrv,rl',hrl',e⟩:=h
  cases e
  have push:∀v:Value,acc.reverse.toArray.push v=(v::acc).reverse.toArray:=λ v=>by apply Array.ext';simp
  cases x with
  | tmp t=>
   simp only [rvOf,Option.some.injEq] at hrv;subst hrv
   simp only [ResX_cons,ResX1,force_eq] at hq
   simp only [listM]
   rw [sv_bind,ht,sv_pure,push]
   exact ih _ hrl' _ _ hq
  | cell a t=>
   simp only [listM]
   rw [sv_bind,sv_bind,ht]
   simp only [rvOf] at hrv
   split at hrv
   ·rename_i d hd
    split at hrv
    ·rename_i hag
     simp only [Option.map_eq_some_iff] at hrv
     obtain⟨n,hn,rfl⟩:=hrv
     obtain⟨inf,hi,hsz⟩:=sizeAt_info hn
     simp only [ResX_cons,ResX1] at hq
     split at hq
     ·rename_i ad e
      obtain⟨vs,⟨hl,hr⟩,hq⟩:=hq
      rw [e]
      simp only [asAddr,sv_pure,loadVar,sv_bind,sv_agg hd,hag,if_true,sv_size hi,hsz,<- hl]
      refine hr.cells ?_
      simp only [sv_pure,push]
      exact ih _ hrl' _ _ hq
     ·exact hq.elim
    ·rename_i hag
     cases hrv
     simp only [ResX_cons,ResX1] at hq
     split at hq
     ·rename_i ad e
      obtain⟨v,hs,hq⟩:=hq
      rw [force_eq] at hq
      rw [e]
      simp only [asAddr,sv_pure,loadVar,sv_bind,sv_agg hd,hag,Bool.false_eq_true,if_false]
      refine sv_load hs ?_
      rw [push]
      exact ih _ hrl' _ _ hq
     ·exact hq.elim
   ·cases hrv
def FinV (rl:List RV) (Q:Value->View T->Prop) (f:Fm) (l:List Deferred):View T->Prop:=
 List.rec (motive:=λ _=>View T->Prop) (λ Z=>ResX f Q rl [] Z) (λ d _ ih Z=>match d.target with
  | .collected b=>∃M',UpdObj b (.deferred none) (.deferred (some [])) Z.M M'/\ih { Z with M:=M' }
  | _=>False) l
theorem UpdObj.mem {b:Nat} {o' o:Obj} {M M':List Res} (h:UpdObj b o' o M M'):Res.obj b o∈M:=by
 induction h with
 | here=>exact List.mem_cons_self ..
 | there _ ih=>exact List.mem_cons_of_mem _ ih
theorem finV_sound {fd:Func} {rl:List RV} (hr:fd.results.toList.mapM (rvOf P)=some rl) {Q:Value->View T->Prop} {f:Fm}:∀(ds:List Deferred) (Z:View T),FinV rl Q f ds Z ->
  ∀tmps:Array Value,(∀t,tmps.getD t undef=f t)->RetQ P fd Q tmps ds Z
 | [],Z,h,tmps,ht=>by
  have hres:fd.results=fd.results.toList.toArray:=rfl
  simp only [RetQ,results]
  rw [hres,sv_bind,mapM_eq]
  exact resX_sound (fd:=fd) ht _ _ hr [] Z h
 | ⟨tg,args⟩::ds,Z,h,tmps,ht=>by
  cases tg with
  | collected b=>
   obtain⟨M',hu,h⟩:=h
   simp only [RetQ,Instr.takeDeferred,sv_bind,getObj]
   refine⟨_,.inr hu.mem,rfl,rfl,?_⟩
   simp only [SemV,sv_bind,setObj]
   exact⟨_,M',hu,rfl,rfl,rfl,rfl,finV_sound hr ds _ h tmps ht⟩
  | _=>exact h.elim
structure FnOk (P:Program) (g:FuncId) (N:Nat) (cc:C) (rl:List RV):Prop where
 ok:∃fd mu dets,P.funcs[g]?=some fd/\fd.body=some (fd.body.getD .skip)/\clean P mu fd.ntmps dets (fd.body.getD .skip)=cc/\fd.ntmps=N/\fd.results.toList.mapM (rvOf P)=some rl/\(fd.name != "runtime.NumGoroutine")=true
theorem FnOk.mk' {g:FuncId} {N:Nat} {cc:C} {rl:List RV} {fd:Func} (mu dets:List Nat) (hf:P.funcs[g]?=some fd) (hb:fd.body.isSome=true) (hc:clean P mu fd.ntmps dets (fd.body.getD .skip)=cc) (hN:fd.ntmps=N)
  (hr:fd.results.toList.mapM (rvOf P)=some rl) (hn:(fd.name != "runtime.NumGoroutine")=true):FnOk P g N cc rl:=
 ⟨fd,mu,dets,hf,by cases h:fd.body with | none=>rw [h] at hb;cases hb | some c=>rfl,hc,hN,hr,hn⟩
theorem FnOk.o {g:FuncId} {N:Nat} {cc:C} {rl:List RV} {fd:Func} (mu dets:List Nat) (hf:P.funcs[g]?=some fd) (h:(fd.body.isSome,clean P mu fd.ntmps dets (fd.body.getD .skip),fd.ntmps,fd.results.toList.mapM (rvOf P),(fd.name != "runtime.NumGoroutine"))=(true,cc,N,some rl,true)):FnOk P g N cc rl:=by
 obtain⟨h1,h2,h3,h4,h5⟩:=(by simpa only [Prod.mk.injEq] using h:_/\_/\_/\_/\_)
 exact .mk' mu dets hf h1 h2 h3 h4 h5
theorem FnOk.any {g:FuncId} {N:Nat} {cc:C} {rl:List RV} (k:FnOk P g N cc rl):(P.funcs[g]?.any λ fd=>fd.body.isSome && fd.name != "runtime.NumGoroutine")=true:=by
 obtain⟨fd,mu,dets,hf,hb,-,-,-,hn⟩:=k.ok
 rw [hf,Option.any_some,hn,hb]
 rfl
theorem CallsV.of {g:FuncId} {N:Nat} {cc:C} {rl:List RV} (k:FnOk P g N cc rl) (hm:P.follows .mixedOrders=true) {args:List Value} (hn:args.length<=N) {Z:View T} {Q:Value->View T->Prop}
  (h:wpC S g none cc (λ f ds Z=>FinV rl Q f ds Z) (λ _ _ _ _=>False) (λ f ds Z=>FinV rl Q f ds Z) (fm args) [] Z):CallsV S g args.toArray Q Z:=by
 obtain⟨fd,mu,dets,hf,hb,hc,rfl,hr,-⟩:=k.ok
 refine CallsV.of_body hf hb ?_
 have hfr:FR fd.ntmps { tmps:=args.toArray++Array.replicate (fd.ntmps-args.toArray.size) undef,defers:=[] } (fm args) []:=by
  refine⟨rfl,by simp;omega,λ t=>?_⟩
  simp only [fm,Array.getD_eq_getD_getElem?,List.getD_eq_getElem?_getD,Array.getElem?_append,List.size_toArray,List.getElem?_toArray]
  split
  ·rfl
  ·rename_i hlt
   rw [List.getElem?_eq_none (by omega),Array.getElem?_replicate]
   split <;> rfl
 subst hc
 refine CodeV.mono (wpC_sound hm _ hfr h) λ e a Z hp=>?_
 obtain⟨f',ds',hf',hp⟩:=hp
 cases e with
 | normal=>have:=finV_sound hr _ _ hp a.tmps hf'.get;simpa only [bodyQ,hf'.ds] using this
 | exit i=>exact hp.elim
 | ret=>have:=finV_sound hr _ _ hp a.tmps hf'.get;simpa only [bodyQ,hf'.ds] using this
end Go.TM
namespace Go.TM
variable {T:Type} {P:Program} {S:Sys P T}
def Ints (Z:View T) (a:Option Addr) (len:Nat) (l:List Int):Prop:=l.length=len/\∀i x,l[i]?=some x->∃ad,a=some ad/\ad.spot=none/\Z.sees (ad.add (i*1)) (.int .i64 x)
def RowsV (Z:View T) (a:Option Addr) (len n:Nat) {α:Type} (l:List α) (R:α->List Value->Prop):Prop:=
 l.length=len/\∀i x,l[i]?=some x->∃ad vs,a=some ad/\ad.spot=none/\R x vs/\vs.length=n/\Reads Z (ad.add (i*n)) vs
theorem Ints.le {Z Z':View T} {a:Option Addr} {len:Nat} {l:List Int} (h:Ints Z a len l) (hl:Z.le Z'):Ints Z' a len l:=
 ⟨h.1,λ i x hx=>let ⟨ad,e,hs,hv⟩:=h.2 i x hx;⟨ad,e,hs,hv.le hl⟩⟩
theorem RowsV.le {Z Z':View T} {a:Option Addr} {len n:Nat} {α:Type} {l:List α} {R R':α->List Value->Prop} (h:RowsV Z a len n l R) (hl:Z.le Z') (hR:∀x vs,R x vs->R' x vs):RowsV Z' a len n l R':=
 ⟨h.1,λ i x hx=>let ⟨ad,vs,e,hs,hr,hn,hv⟩:=h.2 i x hx;⟨ad,vs,e,hs,hR _ _ hr,hn,hv.le hl⟩⟩
theorem Ints.at {Z:View T} {a:Option Addr} {len:Nat} {l:List Int} (h:Ints Z a len l) {i:Nat} (hi:i<len):∃ad x,l[i]?=some x/\a=some ad/\ad.spot=none/\Z.sees (ad.add (i*1)) (.int .i64 x):=by
 have hlt:i<l.length:=by rw [h.1];exact hi
 obtain⟨ad,e,hs,hv⟩:=h.2 i l[i] (by simp)
 exact⟨ad,l[i],by simp,e,hs,hv⟩
theorem RowsV.at {Z:View T} {a:Option Addr} {len n:Nat} {α:Type} {l:List α} {R:α->List Value->Prop} (h:RowsV Z a len n l R) {i:Nat} (hi:i<len) :
  ∃ad x vs,l[i]?=some x/\a=some ad/\ad.spot=none/\R x vs/\vs.length=n/\Reads Z (ad.add (i*n)) vs:=by
 have hlt:i<l.length:=by rw [h.1];exact hi
 obtain⟨ad,vs,e,hs,hr,hn,hv⟩:=h.2 i l[i] (by simp)
 exact⟨ad,l[i],vs,by simp,e,hs,hr,hn,hv⟩
theorem Reads.cell {Z:View T} {a:Addr} {vs:List Value} (h:Reads Z a vs) {i:Nat} {v:Value} (hv:vs[i]?=some v):Z.sees (a.add i) v:=h i v hv
theorem shift_drop {Z:View T} {M':List Res} (h:M'.Sublist Z.M):Shift Z { Z with M:=M' }:=by
 refine⟨rfl,λ w ok=>⟨⟨ok.imm,λ r hr=>ok.held r (h.subset hr),ok.apart.sublist h,λ r hr=>ok.sep r (h.subset hr)⟩,λ l hl=>?_,λ l hl=>?_⟩⟩
 ·rw [canW_iff] at hl ⊢
  obtain⟨r,hr,hl⟩:=hl
  exact⟨r,h.subset hr,hl⟩
 ·rw [canR_iff] at hl ⊢
  exact hl.imp (λ⟨r,hr,hl⟩=>⟨r,h.subset hr,hl⟩) id
theorem le_freeze {Z Z':View T} {b:Nat} {o:Obj} {M₀:List Res} (hs:Sep Z') (hM:Z'.M=.obj b o::M₀) (hI:∀x ox,Z.I x=some ox->Z'.I x=some ox) (h0:Z.M=M₀) (ht:Z'.tok=Z.tok) :
  ∃Z'',Shift Z' Z''/\Z.le Z''/\Z''.I b=some o:=by
 refine⟨{ Z' with I:=addI Z'.I b o,M:=M₀ },shift_freeze (by rw [hM]),⟨λ x ox hx=>?_,h0.symm,ht⟩,by simp [addI]⟩
 have hb:Z'.I b=none:=hs (.obj b o) (by rw [hM];simp)
 show addI Z'.I b o x=_
 unfold addI
 rw [if_neg]
 ·exact hI x ox hx
 ·rintro rfl
  rw [hI _ _ hx] at hb
  cases hb
structure View.lg (Z Z':View T):Prop where
 imm:∀b o,Z.I b=some o->Z'.I b=some o
 own:∃A,Z'.M=A++Z.M
 tok:Z'.tok=Z.tok
theorem View.le.lg {Z Z':View T} (h:Z.le Z'):Z.lg Z':=⟨h.imm,⟨[],h.own⟩,h.tok⟩
theorem View.lg.trans {a b c:View T} (h:a.lg b) (k:b.lg c):a.lg c:=
 ⟨λ x o e=>k.imm x o (h.imm x o e),let ⟨A,e⟩:=h.own;let ⟨B,e'⟩:=k.own;⟨B++A,by rw [e',e,List.append_assoc]⟩,k.tok.trans h.tok⟩
theorem lg_put {Z:View T} (b:Nat) (o:Obj):Z.lg (Z.put b o):=⟨λ _ _ h=>h,⟨[.obj b o],rfl⟩,rfl⟩
theorem View.lg.shift {Z Z':View T} (h:Z.lg Z'):∃Z'',Shift Z' Z''/\Z.le Z''/\Z''.I=Z'.I:=by
 obtain⟨A,e⟩:=h.own
 exact⟨_,shift_drop (M':=Z.M) (by rw [e];exact List.sublist_append_right ..),⟨h.imm,rfl,h.tok⟩,rfl⟩
theorem CallsV.go {f:FuncId} {args:Array Value} {Z:View T} {c:Value} {K:Value->View T->Prop} (h:CallsV S f args (λ v Z'=>v=c/\Z'=Z) Z) (k:K c Z):CallsV S f args K Z:=h.mono λ v Z' ⟨a,b⟩=>by rw [a,b];exact k
theorem CallsV.pure' {f:FuncId} {args:Array Value} {Z:View T} {Q:Value->Prop} (h:CallsV S f args (λ v Z'=>Q v/\Z.lg Z') Z):CallsV S f args (λ v Z'=>Q v/\Z'=Z) Z:=
 h.post λ _ _ ⟨q,hl⟩=>let ⟨_,h1,h2,_⟩:=hl.shift;⟨Z,h1.trans (shift_le h2),q,rfl⟩
theorem View.sees.lg {Z Z':View T} {a:Addr} {v:Value} (h:Z.sees a v) (hl:Z.lg Z'):Z'.sees a v:=by
 obtain⟨A,e⟩:=hl.own
 obtain⟨hs,⟨c,t,fr,hb,hc⟩ | ⟨t,n,hm⟩⟩:=h
 ·exact⟨hs,.inl ⟨c,t,fr,hb.imp (hl.imm _ _) (λ h=>by rw [e];exact List.mem_append_right _ h),hc⟩⟩
 ·exact⟨hs,.inr ⟨t,n,by rw [e];exact List.mem_append_right _ hm⟩⟩
theorem Reads.lg {Z Z':View T} {a:Addr} {vs:List Value} (h:Reads Z a vs) (hl:Z.lg Z'):Reads Z' a vs:=λ i v hv=>(h i v hv).lg hl
theorem Blk.lg {Z Z':View T} {b:Nat} {c:Array Value} (h:Blk Z b c) (hl:Z.lg Z'):Blk Z' b c:=let ⟨t,fr,h⟩:=h;⟨t,fr,hl.imm _ _ h⟩
theorem Ints.lg {Z Z':View T} {a:Option Addr} {len:Nat} {l:List Int} (h:Ints Z a len l) (hl:Z.lg Z'):Ints Z' a len l:=
 ⟨h.1,λ i x hx=>let ⟨ad,e,hs,hv⟩:=h.2 i x hx;⟨ad,e,hs,hv.lg hl⟩⟩
theorem RowsV.lg {Z Z':View T} {a:Option Addr} {len n:Nat} {α:Type} {l:List α} {R R':α->List Value->Prop} (h:RowsV Z a len n l R) (hl:Z.lg Z') (hR:∀x vs,R x vs->R' x vs):RowsV Z' a len n l R':=
 ⟨h.1,λ i x hx=>let ⟨ad,vs,e,hs,hr,hn,hv⟩:=h.2 i x hx;⟨ad,vs,e,hs,hR _ _ hr,hn,hv.lg hl⟩⟩
end Go.TM
namespace Go.TM
variable {T:Type} {P:Program} {S:Sys P T} {f:Fm} {K:Value->View T->Prop} {Z:View T}
theorem rq {s:Sem Value} (h:SemV P s (λ v Z'=>∃Z1,Shift Z' Z1/\K v Z1) Z):SemV P (do pure (.value (<- s)):Sem Next) (NextQ S λ v Z'=>∃Z1,Shift Z' Z1/\K v Z1) Z:=by
 rw [sv_bind];exact h
theorem ru {s:Sem Unit} (h:SemV P s (λ _ Z'=>∃Z1,Shift Z' Z1/\K undef Z1) Z):SemV P (do s;pure .skip:Sem Next) (NextQ S λ v Z'=>∃Z1,Shift Z' Z1/\K v Z1) Z:=by
 rw [sv_bind];exact h
theorem sv_eqNil {m:Nat} {t e:TypeId} {a:Option Addr} {n c l0 c0:Nat} (hu:P.underlying t=some (.slice e)) {Q:Bool->View T->Prop} (h:Q a.isNone Z):SemV P (Op.equalIn (m+1) t (.slice a n c) (.slice none l0 c0)) Q Z:=by
 rw [Op.equalIn]
 simp only [sv_bind,sv_und hu]
 cases a <;> exact h
theorem raw_eqNil {t e t' ty:TypeId} {x:Operand} {a:Option Addr} {n c l0 c0:Nat} (hu:P.underlying t=some (.slice e)) (hx:evl f x=.slice a n c) (h:K (.bool a.isNone) Z) :
  OX S (.raw { dst:=none,op:=.binOp .eql t x (.const (.slice none l0 c0)) t',type:=ty,pos := "", after:=#[],guard:=none }) f K Z:=by
 intro a' ha
 simp only [execOp,ha,hx]
 refine rq ?_
 rw [sv_bind]
 show SemV P (binOp .eql t (.slice a n c) (.slice none l0 c0)) _ Z
 show SemV P (do pure (Value.bool (<- Op.equal t (.slice a n c) (.slice none l0 c0))):Sem Value) _ Z
 rw [sv_bind]
 exact sv_eqNil (m:=9999) hu ⟨Z,.refl _,h⟩
def simpleD:TypeDesc->Bool
 | .int _ | .bool | .string=>true
 | _=>false
def eqv:Value->Value->Bool
 | .int _ a,.int _ b=>a == b
 | .bool a,.bool b=>a == b
 | .string a,.string b=>a == b
 | _,_=>false
def fits:TypeDesc->Value->Bool
 | .int k,.int k' _=>decide (k=k')
 | .bool,.bool _=>true
 | .string,.string _=>true
 | _,_=>false
theorem sv_equal1 {d:TypeDesc} {t:TypeId} {m:Nat} (hu:P.underlying t=some d) (hd:simpleD d=true) {x y:Value} (hx:fits d x=true) (hy:fits d y=true) (Q:Bool->View T->Prop) (Z:View T) :
  SemV P (Op.equalIn (m+1) t x y) Q Z=Q (eqv x y) Z:=by
 rw [Op.equalIn]
 simp only [sv_bind,sv_und hu]
 cases d <;> simp [simpleD] at hd <;> cases x <;> simp [fits] at hx <;> cases y <;> simp [fits] at hy
 ·rfl
 ·subst hx;subst hy;simp only [if_true];rfl
 ·rfl
def flatB (P:Program):List Field->Nat->Bool
 | [],_=>true
 | fd::r,j=>fd.name != "_" && decide (fd.offset=j) && (match P.underlying fd.type with | some d=>simpleD d | none=>false) && flatB P r (j+1)
def fitB (P:Program):List Field->List Value->Bool
 | [],[]=>true
 | fd::r,v::vs=>(match P.underlying fd.type with | some d=>fits d v | none=>false) && fitB P r vs
 | _,_=>false
def eqvL:List Value->List Value->Bool
 | [],[]=>true
 | x::xs,y::ys=>eqv x y && eqvL xs ys
 | _,_=>false
theorem sv_part {t:TypeId} {d:TypeDesc} {cs:Array Value} {j:Nat} {v:Value} (hu:P.underlying t=some d) (hd:simpleD d=true) (hv:cs[j]?=some v) (Q:Value->View T->Prop) (Z:View T) :
  SemV P (part t cs j) Q Z=Q v Z:=by
 have:TypeDesc.agg d=false:=by cases d <;> first | rfl | simp [simpleD] at hd
 simp only [part,sv_bind,sv_agg hu,this,Bool.false_eq_true,if_false,hv]
 rfl
theorem sv_forIn_cons {α β:Type} {x:α} {l:List α} {b:β} {g:α->β->Sem (ForInStep β)} {Q:β->View T->Prop} :
  SemV P (forIn (x::l) b g) Q Z=SemV P (g x b) (λ r Z=>match r with | .done b=>Q b Z | .yield b=>SemV P (forIn l b g) Q Z) Z:=by
 rw [List.forIn_cons,sv_bind]
 congr 1
 funext r Z
 cases r <;> rfl
theorem eqFields {m:Nat} {xs ys:Array Value} {Q:Option Bool×PUnit->View T->Prop}:∀(fs:List Field) (j:Nat) (vs ws:List Value),flatB P fs j=true->fitB P fs vs=true->fitB P fs ws=true ->
  (∀i v,vs[i]?=some v->xs[j+i]?=some v)->(∀i v,ws[i]?=some v->ys[j+i]?=some v)->Q (if eqvL vs ws then none else some false,()) Z ->
  SemV P (forIn fs ((none,()):Option Bool×PUnit) λ fd _=>
   if fd.name ≠ "_" then do
    let a <- part fd.type xs fd.offset
    let b <- part fd.type ys fd.offset
    let c <- Op.equalIn (m+1) fd.type a b
    if (!c)=true then pure (ForInStep.done (some false,())) else pure (ForInStep.yield (none,()))
   else pure (ForInStep.yield (none,()))) Q Z
 | [],j,vs,ws,_,hv,hw,_,_,h=>by
  cases vs <;> cases ws <;> simp [fitB] at hv hw
  exact h
 | fd::r,j,vs,ws,hf,hv,hw,hx,hy,h=>by
  cases vs with
  | nil=>simp [fitB] at hv
  | cons v vs=>
  cases ws with
  | nil=>simp [fitB] at hw
  | cons w ws=>
  simp only [flatB,Bool.and_eq_true,decide_eq_true_eq] at hf
  obtain⟨⟨⟨h1,h2⟩,h3⟩,h4⟩:=hf
  simp only [fitB,Bool.and_eq_true] at hv hw
  cases hd:P.underlying fd.type with
  | none=>rw [hd] at h3;cases h3
  | some d=>
   rw [hd] at h3 hv hw
   rw [sv_forIn_cons,if_pos (by simpa using h1)]
   simp only [sv_bind,h2]
   have hx0:xs[j]?=some v:=by simpa using hx 0 v rfl
   have hy0:ys[j]?=some w:=by simpa using hy 0 w rfl
   rw [sv_part hd h3 hx0,sv_part hd h3 hy0,sv_equal1 hd h3 hv.1 hw.1]
   cases hb:eqv v w with
   | false=>simpa [hb,eqvL,sv_pure] using h
   | true=>
    simp only [Bool.not_true,Bool.false_eq_true,if_false,sv_pure]
    refine eqFields r (j+1) vs ws h4 hv.2 hw.2 (λ i v hi=>?_) (λ i v hi=>?_) (by simpa [hb,eqvL] using h)
    ·have:=hx (i+1) v hi;rwa [show j+(i+1)=j+1+i by omega] at this
    ·have:=hy (i+1) v hi;rwa [show j+(i+1)=j+1+i by omega] at this
theorem sv_equalS {t:TypeId} {fs:Array Field} (hu:P.underlying t=some (.struct fs)) (hsi:P.stoodInHeld t=false) (hf:flatB P fs.toList 0=true) {vs ws:List Value} (hv:fitB P fs.toList vs=true) (hw:fitB P fs.toList ws=true)
  {Q:Bool->View T->Prop} (h:Q (eqvL vs ws) Z):SemV P (Op.equal t (.agg vs.toArray) (.agg ws.toArray)) Q Z:=by
 have e1:Op.equal t (.agg vs.toArray) (.agg ws.toArray)=Op.equalIn (9998+1+1) t (.agg vs.toArray) (.agg ws.toArray):=rfl
 rw [e1,Op.equalIn]
 simp only [sv_bind,sv_und hu,program,SemV,hsi,Bool.false_eq_true,if_false]
 obtain⟨fl⟩:=fs
 rw [List.forIn_toArray]
 refine eqFields fl 0 vs ws hf hv hw (λ i v hi=>by simpa using hi) (λ i v hi=>by simpa using hi) ?_
 cases hb:eqvL vs ws <;> simpa [hb,sv_pure] using h
theorem sv_guardS {op:BinOp} {t:TypeId} {x y:Operand} {vs ws:Array Value} (hg:P.eqGuardType P.depth t=false) {Q:Unit->View T->Prop} (h:Q () Z):SemV P (eqGuard op t x y (.agg vs) (.agg ws)) Q Z:=by
 unfold eqGuard
 have key (u:Unsupported):SemV P (do
     if !(<- program).eqGuardType (<- program).depth t then return
     if <- Op.eqGuardIn Op.maxDepth t (.agg vs) (.agg ws) then unsupported u:Sem Unit) Q Z:=by
  simp only [sv_bind,program,SemV,hg,Bool.not_false,if_true,sv_pure]
  exact h
 cases op <;> first | exact key _ | exact h
structure StructOk (P:Program) (t:TypeId) (fs:Array Field):Prop where
 u:P.underlying t=some (.struct fs)
 s:P.stoodInHeld t=false
 f:flatB P fs.toList 0=true
 g:P.eqGuardType P.depth t=false
theorem raw_eqS {t t' ty:TypeId} {fs:Array Field} (k:StructOk P t fs) {x y:Operand} {vs ws:List Value} (hx:evl f x=.agg vs.toArray) (hy:evl f y=.agg ws.toArray) (hv:fitB P fs.toList vs=true) (hw:fitB P fs.toList ws=true) (h:K (.bool (eqvL vs ws)) Z) :
  OX S (.raw { dst:=none,op:=.binOp .eql t x y t',type:=ty,pos := "", after:=#[],guard:=none }) f K Z:=by
 intro a' ha
 simp only [execOp,ha,hx,hy]
 refine rq ?_
 rw [sv_bind]
 refine sv_guardS k.g ?_
 simp only [binOp,sv_bind]
 exact sv_equalS k.u k.s k.f hv hw ⟨Z,.refl _,h⟩
theorem raw_neS {t t' ty:TypeId} {fs:Array Field} (k:StructOk P t fs) {x y:Operand} {vs ws:List Value} (hx:evl f x=.agg vs.toArray) (hy:evl f y=.agg ws.toArray) (hv:fitB P fs.toList vs=true) (hw:fitB P fs.toList ws=true) (h:K (.bool (!eqvL vs ws)) Z) :
  OX S (.raw { dst:=none,op:=.binOp .neq t x y t',type:=ty,pos := "", after:=#[],guard:=none }) f K Z:=by
 intro a' ha
 simp only [execOp,ha,hx,hy]
 refine rq ?_
 rw [sv_bind]
 refine sv_guardS k.g ?_
 simp only [binOp,sv_bind]
 exact sv_equalS k.u k.s k.f hv hw ⟨Z,.refl _,h⟩
theorem raw_max {ats:Array TypeId} {ty:TypeId} {x y:Operand} {k:IntKind} {a b:Int} (hx:evl f x=.int k a) (hy:evl f y=.int k b) (h:K (.int k (max a b)) Z) :
  OX S (.raw { dst:=none,op:=.call { callee:=.builtin .max,args:=#[x,y],argTypes:=ats },type:=ty,pos := "", after:=#[],guard:=none }) f K Z:=by
 intro a' ha
 have hm:(#[x,y]:Array Operand).map a'.eval=#[.int k a,.int k b]:=by simp [ha,hx,hy]
 simp only [execOp,resolve,hm,sv_bind,sv_pure,invoke,builtin,Builtin.max_,List.foldlM,Builtin.max2]
 refine⟨Z,.refl _,?_⟩
 have:(if b > a then b else a)=max a b:=by rw [Int.max_def];split <;> split <;> omega
 rw [this];exact h
theorem raw_min {ats:Array TypeId} {ty:TypeId} {x y:Operand} {k:IntKind} {a b:Int} (hx:evl f x=.int k a) (hy:evl f y=.int k b) (h:K (.int k (min a b)) Z) :
  OX S (.raw { dst:=none,op:=.call { callee:=.builtin .min,args:=#[x,y],argTypes:=ats },type:=ty,pos := "", after:=#[],guard:=none }) f K Z:=by
 intro a' ha
 have hm:(#[x,y]:Array Operand).map a'.eval=#[.int k a,.int k b]:=by simp [ha,hx,hy]
 simp only [execOp,resolve,hm,sv_bind,sv_pure,invoke,builtin,Builtin.min_,List.foldlM,Builtin.min2]
 refine⟨Z,.refl _,?_⟩
 have:(if b<a then b else a)=min a b:=by rw [Int.min_def];split <;> split <;> omega
 rw [this];exact h
def entsFrom {κ:Type} (enc:κ->Value):List (κ×Value)->Nat->List MapEntry
 | [],_=>[]
 | p::l,i=>⟨enc p.1,p.2,i⟩::entsFrom enc l (i+1)
def mapObj {κ:Type} (enc:κ->Value) (l:List (κ×Value)):Obj:=.map (entsFrom enc l 0).toArray l.length
def lkI {κ:Type} [DecidableEq κ] (k:κ):List (κ×Value)->Nat->Option (Nat×Value)
 | [],_=>none
 | p::l,i=>if k=p.1 then some (i,p.2) else lkI k l (i+1)
def lk {κ:Type} [DecidableEq κ] (k:κ) (l:List (κ×Value)):Option Value:=(lkI k l 0).map (·.2)
def ups {κ:Type} [DecidableEq κ] (k:κ) (v:Value):List (κ×Value)->List (κ×Value)
 | []=>[(k,v)]
 | p::l=>if k=p.1 then (p.1,v)::l else p::ups k v l
structure KeyT (T:Type) (P:Program) (kt:TypeId) {κ:Type} [DecidableEq κ] (enc:κ->Value):Prop where
 chk:∀(e:Bool) (k:κ) {Q:Unit->View T->Prop} {Z:View T},Q () Z->SemV P (Instr.checkKey e 10000 kt (enc k)) Q Z
 find:∀(k:κ) (l:List (κ×Value)) {Q:Option (Nat×Value)->View T->Prop} {Z:View T},Q (lkI k l 0) Z->SemV P (Instr.findKey kt (enc k) (entsFrom enc l 0)) Q Z
 bits:∀k,Instr.sameBits 10000 (enc k) (enc k)=true
theorem findNow_lk {κ:Type} [DecidableEq κ] {enc:κ->Value} {d:TypeDesc} (h:∀k k',Instr.sameNow d (enc k) (enc k')=some (decide (k=k'))) (k:κ):∀(l:List (κ×Value)) (i j:Nat),Instr.findNow d (enc k) (entsFrom enc l j) i=some (lkI k l i)
 | [],i,j=>rfl
 | p::l,i,j=>by
  simp only [entsFrom,Instr.findNow,h,lkI]
  by_cases e:k=p.1
  ·simp [e]
  ·simp only [e,decide_false,if_false];exact findNow_lk h k l (i+1) (j+1)
theorem findNow_none {κ:Type} {enc:κ->Value} {d:TypeDesc} (h:∀k k',Instr.sameNow d (enc k) (enc k')=none) (k:κ) (p:κ×Value) (l:List (κ×Value)) (i j:Nat):Instr.findNow d (enc k) (entsFrom enc (p::l) j) i=none:=by
 simp only [entsFrom,Instr.findNow,h]
theorem findAsk_lk {κ:Type} [DecidableEq κ] {enc:κ->Value} {kt:TypeId} (h:∀k k' {Q:Bool->View T->Prop} {Z:View T},Q (decide (k=k')) Z->SemV P (Op.equal kt (enc k) (enc k')) Q Z) (k:κ) :
  ∀(l:List (κ×Value)) (i j:Nat) {Q:Option (Nat×Value)->View T->Prop} {Z:View T},Q (lkI k l i) Z->SemV P (Instr.findAsking kt (enc k) (entsFrom enc l j) i) Q Z
 | [],i,j,Q,Z,hq=>hq
 | p::l,i,j,Q,Z,hq=>by
  simp only [entsFrom,Instr.findAsking,sv_bind]
  refine h k p.1 ?_
  by_cases e:k=p.1
  ·simpa [e,lkI,sv_pure] using hq
  ·simp only [e,decide_false,Bool.false_eq_true,if_false]
   exact findAsk_lk h k l (i+1) (j+1) (by simpa [lkI,e] using hq)
theorem KeyT.simple {kt:TypeId} {d:TypeDesc} {κ:Type} [DecidableEq κ] {enc:κ->Value} (hu:P.underlying kt=some d) (hd:simpleD d=true) (hn:∀k k',Instr.sameNow d (enc k) (enc k')=some (decide (k=k'))) (hb:∀k,Instr.sameBits 10000 (enc k) (enc k)=true):KeyT T P kt enc:=by
 refine⟨λ e k Q Z h=>?_,λ k l Q Z h=>?_,hb⟩
 ·have:∀m,SemV P (Instr.checkKey e (m+1) kt (enc k)) Q Z:=λ m=>by
   rw [Instr.checkKey]
   simp only [sv_bind,sv_und hu]
   cases d <;> simp [simpleD] at hd <;> exact h
  exact this 9999
 ·unfold Instr.findKey
  simp only [sv_bind,sv_und hu,findNow_lk hn k l 0 0]
  exact h
theorem chkFields {m:Nat} {e:Bool} {xs:Array Value} {Q:PUnit->View T->Prop}:∀(fs:List Field) (j:Nat) (vs:List Value),flatB P fs j=true->fitB P fs vs=true->(∀i v,vs[i]?=some v->xs[j+i]?=some v)->Q () Z ->
  SemV P (forIn fs PUnit.unit λ fd _=>
   if fd.name ≠ "_" then do
    let a <- part fd.type xs fd.offset
    Instr.checkKey e (m+1) fd.type a
    pure (ForInStep.yield PUnit.unit)
   else pure (ForInStep.yield PUnit.unit)) Q Z
 | [],_,_,_,_,_,h=>h
 | fd::r,j,vs,hf,hv,hx,h=>by
  cases vs with
  | nil=>simp [fitB] at hv
  | cons v vs=>
  simp only [flatB,Bool.and_eq_true,decide_eq_true_eq] at hf
  obtain⟨⟨⟨h1,h2⟩,h3⟩,h4⟩:=hf
  simp only [fitB,Bool.and_eq_true] at hv
  cases hd:P.underlying fd.type with
  | none=>rw [hd] at h3;cases h3
  | some d=>
   rw [hd] at h3 hv
   rw [sv_forIn_cons,if_pos (by simpa using h1)]
   have hx0:xs[j]?=some v:=by simpa using hx 0 v rfl
   simp only [sv_bind,h2]
   rw [sv_part hd h3 hx0]
   have hchk:∀Q:Unit->View T->Prop,SemV P (Instr.checkKey e (m+1) fd.type v) Q Z=Q () Z:=λ Q=>by
    rw [Instr.checkKey]
    simp only [sv_bind,sv_und hd]
    cases d <;> simp [simpleD] at h3 <;> rfl
   rw [hchk]
   simp only [sv_pure]
   refine chkFields r (j+1) vs h4 hv.2 (λ i v hi=>?_) h
   have:=hx (i+1) v hi;rwa [show j+(i+1)=j+1+i by omega] at this
theorem KeyT.struct {kt:TypeId} {fs:Array Field} {κ:Type} [DecidableEq κ] {enc:κ->List Value} (hk:StructOk P kt fs) (hfit:∀k,fitB P fs.toList (enc k)=true) (he:∀k k',eqvL (enc k) (enc k')=decide (k=k')) (hb:∀k,Instr.sameBits 10000 (.agg (enc k).toArray) (.agg (enc k).toArray)=true) :
  KeyT T P kt (λ k=>.agg (enc k).toArray):=by
 refine⟨λ e k Q Z h=>?_,λ k l Q Z h=>?_,hb⟩
 ·have:∀m,SemV P (Instr.checkKey e (m+1+1) kt (.agg (enc k).toArray)) Q Z:=λ m=>by
   rw [Instr.checkKey]
   simp only [sv_bind,sv_und hk.u]
   obtain⟨fl⟩:=fs
   rw [List.forIn_toArray]
   exact chkFields fl 0 (enc k) hk.f (hfit k) (λ i v hi=>by simpa using hi) h
  exact this 9998
 ·unfold Instr.findKey
  simp only [sv_bind,sv_und hk.u]
  cases l with
  | nil=>exact h
  | cons p l=>
   rw [findNow_none (enc:=λ k=>Value.agg (enc k).toArray) (λ _ _=>rfl)]
   exact findAsk_lk (λ k k' Q Z hq=>sv_equalS hk.u hk.s hk.f (hfit k) (hfit k') (by rw [he];exact hq)) k (p::l) 0 0 h
theorem raw_makeMap {κ:Type} (enc:κ->Value) {t ty:TypeId} (h:∀b,Z.free b->K (.map (some b)) (Z.put b (mapObj enc []))) :
  OX S (.raw { dst:=none,op:=.makeMap t none,type:=ty,pos := "", after:=#[],guard:=none }) f K Z:=by
 intro a' ha
 simp only [execOp]
 refine rq ?_
 simp only [Instr.makeMap,sv_bind,newObj,SemV,sv_pure,Option.map_none]
 exact λ b hb=>⟨_,.refl _,h b hb⟩
theorem sv_lookup {κ:Type} [DecidableEq κ] {enc:κ->Value} {t kt vt:TypeId} {z:Value} {b:Nat} {l:List (κ×Value)} {k:κ} {ok:Bool} (hk:KeyT T P kt enc) (hu:P.underlying t=some (.map kt vt)) (hz:zeroAt P vt=some z)
  (hm:Z.has b (mapObj enc l)) {Q:Value->View T->Prop} (h:Q (if ok then .tuple #[(lk k l).getD z,.bool (lk k l).isSome] else (lk k l).getD z) Z):SemV P (Instr.lookup t (.map (some b)) (enc k) ok) Q Z:=by
 obtain⟨inf,hi,hzz⟩:=zeroAt_info hz
 unfold Instr.lookup
 simp only [sv_bind,sv_und hu,getObj]
 refine⟨_,hm,rfl,rfl,?_⟩
 simp only [SemV,mapObj,sv_pure,sv_bind]
 refine hk.chk _ _ ?_
 refine hk.find k l ?_
 unfold lk at h
 cases e:lkI k l 0 with
 | none=>simp only [e,Option.map_none,Option.getD_none,Option.isSome_none] at h;simp only [sv_bind,sv_zero hi hzz,sv_pure];exact h
 | some p=>simp only [e,Option.map_some,Option.getD_some,Option.isSome_some] at h;simp only [sv_pure];exact h
theorem raw_lookup {κ:Type} [DecidableEq κ] {enc:κ->Value} {t kt vt ty:TypeId} {z:Value} {b:Nat} {l:List (κ×Value)} {k:κ} {x y:Operand} (hk:KeyT T P kt enc) (hu:P.underlying t=some (.map kt vt)) (hz:zeroAt P vt=some z)
  (hx:evl f x=.map (some b)) (hy:evl f y=enc k) (hm:Z.has b (mapObj enc l)) (h:K ((lk k l).getD z) Z) :
  OX S (.raw { dst:=none,op:=.lookup t x y false,type:=ty,pos := "", after:=#[],guard:=none }) f K Z:=by
 intro a' ha
 simp only [execOp,ha,hx,hy]
 exact rq (sv_lookup hk hu hz hm ⟨Z,.refl _,h⟩)
theorem raw_lookup2 {κ:Type} [DecidableEq κ] {enc:κ->Value} {t kt vt ty:TypeId} {z:Value} {b:Nat} {l:List (κ×Value)} {k:κ} {x y:Operand} (hk:KeyT T P kt enc) (hu:P.underlying t=some (.map kt vt)) (hz:zeroAt P vt=some z)
  (hx:evl f x=.map (some b)) (hy:evl f y=enc k) (hm:Z.has b (mapObj enc l)) (h:K (.tuple #[(lk k l).getD z,.bool (lk k l).isSome]) Z) :
  OX S (.raw { dst:=none,op:=.lookup t x y true,type:=ty,pos := "", after:=#[],guard:=none }) f K Z:=by
 intro a' ha
 simp only [execOp,ha,hx,hy]
 exact rq (sv_lookup hk hu hz hm ⟨Z,.refl _,h⟩)
theorem entsFrom_append {κ:Type} (enc:κ->Value):∀(l l':List (κ×Value)) (i:Nat),entsFrom enc (l++l') i=entsFrom enc l i++entsFrom enc l' (i+l.length)
 | [],l',i=>by simp [entsFrom]
 | p::l,l',i=>by simp [entsFrom,entsFrom_append enc l l' (i+1)];congr 1;omega
theorem lkI_none {κ:Type} [DecidableEq κ] {k:κ} {v:Value}:∀{l:List (κ×Value)} {i:Nat},lkI k l i=none->ups k v l=l++[(k,v)]
 | [],_,_=>rfl
 | p::l,i,h=>by
  simp only [lkI] at h
  split at h
  ·cases h
  ·rename_i e
   simp only [ups,if_neg e,List.cons_append,lkI_none h]
theorem lkI_ups {κ:Type} [DecidableEq κ] {enc:κ->Value} {k:κ} {v:Value}:∀{l:List (κ×Value)} {i j n:Nat} {x:Value},lkI k l i=some (n,x)->i<=n/\(∃e,(entsFrom enc l j)[n-i]?=some e/\e.key=enc k) /\
   (entsFrom enc l j).modify (n-i) (λ e=>{ e with key:=enc k,val:=v })=entsFrom enc (ups k v l) j/\(ups k v l).length=l.length
 | [],_,_,_,_,h=>by cases h
 | p::l,i,j,n,x,h=>by
  simp only [lkI] at h
  split at h
  ·rename_i e
   cases h
   refine⟨Nat.le_refl _,?_,?_,?_⟩
   ·simp [entsFrom,e]
   ·simp [entsFrom,ups,e]
   ·simp [ups,e]
  ·rename_i e
   obtain⟨h1,⟨x,h2,h2'⟩,h3,h4⟩:=lkI_ups (enc:=enc) (v:=v) (j:=j+1) h
   have hs:n-i=(n-(i+1))+1:=by omega
   refine⟨by omega,?_,?_,by simp [ups,e,h4]⟩
   ·rw [hs];exact⟨x,by simpa [entsFrom] using h2,h2'⟩
   ·rw [hs]
    simp only [entsFrom,ups,if_neg e,List.modify_succ_cons,h3]
theorem raw_mapUpdate {κ:Type} [DecidableEq κ] {enc:κ->Value} {t kt vt ty:TypeId} {b:Nat} {l:List (κ×Value)} {k:κ} {v:Value} {x y u:Operand} {M':List Res} (hk:KeyT T P kt enc) (hu:P.underlying t=some (.map kt vt))
  (hx:evl f x=.map (some b)) (hy:evl f y=enc k) (hv:evl f u=v) (hm:UpdObj b (mapObj enc (ups k v l)) (mapObj enc l) Z.M M') (h:K undef { Z with M:=M' }) :
  OX S (.raw { dst:=none,op:=.mapUpdate t x y u,type:=ty,pos := "", after:=#[],guard:=none }) f K Z:=by
 intro a' ha
 simp only [execOp,ha,hx,hy,hv]
 refine ru ?_
 unfold Instr.mapUpdate
 simp only [sv_bind,sv_und hu,getObj]
 refine⟨_,.inr hm.mem,rfl,rfl,?_⟩
 simp only [SemV,mapObj,sv_pure,sv_bind]
 refine hk.chk _ _ ?_
 refine hk.find k l ?_
 cases e:lkI k l 0 with
 | none=>
  have hup:=lkI_none (v:=v) e
  simp only [setObj,SemV]
  refine⟨mapObj enc l,M',?_,rfl,rfl,rfl,⟨_,.refl _,h⟩⟩
  have:Obj.map ((entsFrom enc l 0).toArray.push { key:=enc k,val:=v,born:=l.length }) (l.length+1)=mapObj enc (ups k v l):=by
   rw [hup]
   simp only [mapObj,List.length_append,List.length_cons,List.length_nil,entsFrom_append,entsFrom,Nat.zero_add]
   congr 1
   apply Array.ext'
   simp
  rw [this]
  exact hm
 | some p=>
  obtain⟨n,w⟩:=p
  obtain⟨h1,⟨en,h2,h2'⟩,h3,h4⟩:=lkI_ups (enc:=enc) (v:=v) (j:=0) e
  have hg:(((entsFrom enc l 0).toArray[n]?).map (·.key)).getD (enc k)=enc k:=by
   have:(entsFrom enc l 0).toArray[n]?=some en:=by simpa using h2
   rw [this];exact h2'
  simp only [sv_bind,Instr.keyThatStays,hg,hk.bits,if_true,sv_pure,setObj,SemV]
  refine⟨mapObj enc l,M',?_,rfl,rfl,rfl,⟨_,.refl _,h⟩⟩
  have:Obj.map ((entsFrom enc l 0).toArray.modify n λ e=>{ e with key:=enc k,val:=v }) l.length=mapObj enc (ups k v l):=by
   simp only [mapObj,h4]
   congr 1
   apply Array.ext'
   have h3':=h3
   rw [Nat.sub_zero] at h3'
   simpa using h3'
  rw [this]
  exact hm
theorem stv_head {b off:Nat} {e:TypeId} {M₀:List Res} {Q:View T->Prop}:∀(vs:List Value) (i:Nat) (c:Array Value) (Z:View T),Z.M=.obj b (.cells c e (0,0))::M₀->(∀v∈vs,v.single=true)->off+i+vs.length<=c.size ->
  Q { Z with M:=.obj b (.cells (layAt c off vs i) e (0,0))::M₀ }->StV ⟨b,off,none⟩ vs i Q Z
 | [],i,c,Z,hM,_,_,hq=>by
  have:Z={ Z with M:=.obj b (.cells c e (0,0))::M₀ }:=by rw [<- hM]
  show Q Z
  rw [this];exact hq
 | v::vs,i,c,Z,hM,hs,hb,hq=>by
  simp only [List.length_cons] at hb
  refine⟨hs v (List.mem_cons_self ..),.obj b (.cells (c.setIfInBounds (off+i) v) e (0,0))::M₀,?_,?_⟩
  ·rw [hM,add_none]
   exact .obj (a:=⟨b,off+i,none⟩) rfl (by show off+i<c.size;omega)
  ·exact stv_head vs (i+1) _ _ rfl (λ v hv=>hs v (List.mem_cons_of_mem _ hv)) (by simp;omega) hq
theorem layAt_all {vs:List Value} {c:Array Value} (h:c.size=vs.length):layAt c 0 vs 0=vs.toArray:=by
 apply Array.ext
 ·rw [layAt_size];simpa using h
 ·intro i h1 h2
  have hi:i<vs.length:=by simpa using h2
  have:=layAt_get vs c 0 0 i (by omega)
  rw [if_pos (by omega)] at this
  simp only [Nat.zero_add,Nat.sub_zero] at this
  rw [Array.getElem?_eq_getElem h1,List.getElem?_eq_getElem hi] at this
  simpa using Option.some.inj this
theorem st_new {b:Nat} {c:Array Value} {t:TypeId} {vs:List Value} {Q:View T->Prop} (hf:Z.free b) (hsz:c.size=vs.length) (hs:∀v∈vs,v.single=true) (h:∀Z1,Z.le Z1->Blk Z1 b vs.toArray->Q Z1) :
  StV ⟨b,0,none⟩ vs 0 (λ Z'=>∃Z1,Shift Z' Z1/\Q Z1) (Z.put b (.cells c t)):=by
 refine stv_head vs 0 c _ rfl hs (by omega) ?_
 rw [layAt_all hsz]
 exact⟨_,shift_freeze (b:=b) (M':=Z.M) (List.Perm.refl _),h _ (le_add hf) Blk.new⟩
def Acc (e:TypeId) (n:Nat) (v:Value) (cs:List Value) (M M₀:List Res):Prop:=
 (v=.slice none 0 0/\cs=[]/\M=M₀) \/
 (∃(b:Nat) (c:Array Value) (len cap:Nat),v=.slice (some ⟨b,0,none⟩) len cap/\cs.length=len*n/\len<=cap/\c.size=cap*n/\M=.obj b (.cells c e (0,0))::M₀/\∀(i:Nat) (x:Value),cs[i]?=some x->c[i]?=some x)
def isNilS:Value->Bool
 | .slice none _ _=>true
 | _=>false
theorem Acc.nil {e:TypeId} {n:Nat} {M₀:List Res}:Acc e n (.slice none 0 0) [] M₀ M₀:=.inl ⟨rfl,rfl,rfl⟩
theorem Acc.empty {e:TypeId} {n b:Nat} {M₀:List Res}:Acc e n (.slice (some ⟨b,0,none⟩) 0 0) [] (.obj b (.cells #[] e (0,0))::M₀) M₀:=
 .inr ⟨b,#[],0,0,rfl,by simp,Nat.le_refl _,by simp,rfl,λ i x h=>by simp at h⟩
theorem growBy_le (newLen:Nat):∀(r c:Nat),Builtin.growBy newLen r c<=max c (newLen+(newLen+768) / 4)
 | 0,c=>by simp [Builtin.growBy];omega
 | r+1,c=>by
  simp only [Builtin.growBy]
  split
  ·omega
  ·have:=growBy_le newLen r (c+(c+768) / 4)
   omega
theorem nextslicecap_le {need old:Nat} (h:old<need):Builtin.nextslicecap need old<=2*need+192:=by
 unfold Builtin.nextslicecap
 split
 ·omega
 ·split
  ·omega
  ·have:=growBy_le need 4 old
   omega
def Src (Z:View T) (a:Option Addr) (cs:List Value):Prop:=(a=none/\cs=[])\/∃ad,a=some ad/\Reads Z ad cs
theorem sv_first {Z:View T} {a:Option Addr} {l c n:Nat} {cs:List Value} (h:Src Z a cs) (hl:cs.length=l*n) {Q:Array Value->View T->Prop} (hq:Q cs.toArray Z):SemV P (Builtin.firstCells n l (.slice a l c)) Q Z:=by
 rcases h with⟨rfl,rfl⟩ | ⟨ad,rfl,hr⟩
 ·exact hq
 ·simp only [Builtin.firstCells]
  rw [<- hl]
  exact hr.cells hq
theorem sv_room {k:Nat} {Q:Unit->View T->Prop} (h:Q () Z):SemV P (askRoom k) Q Z:=by
 unfold askRoom
 split
 ·exact⟨rfl,h⟩
 ·exact h
theorem reads_head {b:Nat} {c:Array Value} {e:TypeId} {M₀:List Res} {cs:List Value} (hM:Z.M=.obj b (.cells c e (0,0))::M₀) (h:∀(i:Nat) (x:Value),cs[i]?=some x->c[i]?=some x):Reads Z ⟨b,0,none⟩ cs:=by
 intro i v hi
 rw [add_none]
 exact⟨rfl,.inl ⟨c,e,(0,0),.inr (by rw [hM];simp),by simpa using h i v hi⟩⟩
theorem Acc.src {e n:Nat} {v:Value} {cs:List Value} {M₀:List Res} (h:Acc e n v cs Z.M M₀):∃a l c,v=.slice a l c/\cs.length=l*n/\Src Z a cs:=by
 rcases h with⟨rfl,rfl,hM⟩ | ⟨b,c,len,cap,rfl,h1,h2,h3,hM,h4⟩
 ·exact⟨_,_,_,rfl,by simp,.inl ⟨rfl,rfl⟩⟩
 ·exact⟨_,_,_,rfl,h1,.inr ⟨_,rfl,reads_head hM h4⟩⟩
theorem raw_append {t t2 e e2 n ty:Nat} {z v:Value} {inf:TypeInfo} {x y:Operand} {ya:Option Addr} {yl yc:Nat} {cs new:List Value} {M₀:List Res}
  (hu:P.underlying t=some (.slice e)) (hu2:P.underlying t2=some (.slice e2)) (hi:P.info? e=some inf) (hsz:inf.size=n) (hz:inf.zero=some z) (hzs:z.cells.size=n) (hby:inf.bytes≠0/\inf.bytes<=64)
  (hx:evl f x=v) (hy:evl f y=.slice ya yl yc) (ha:Acc e n v cs Z.M M₀) (hsrc:Src Z ya new) (hl:new.length=yl*n) (hn:0<n) (hsing:∀w∈new,w.single=true) (hlen:cs.length+new.length<=1048576)
  (h:∀v' M',Acc e n v' (cs++new) M' M₀->isNilS v'=(isNilS v && new.isEmpty)->K v' { Z with M:=M' }) :
  OX S (.raw { dst:=none,op:=.call { callee:=.builtin .append,args:=#[x,y],argTypes:=#[t,t2] },type:=ty,pos := "", after:=#[],guard:=none }) f K Z:=by
 intro a' hev
 obtain⟨sa,sl,sc,hve,hcl,hss⟩:=ha.src
 have hm:(#[x,y]:Array Operand).map a'.eval=#[.slice sa sl sc,.slice ya yl yc]:=by simp [hev,hx,hy,hve]
 simp only [execOp,resolve,hm,sv_bind,sv_pure,invoke,builtin]
 show SemV P (Builtin.append_ #[t,t2] ty #[.slice sa sl sc,.slice ya yl yc]) _ Z
 unfold Builtin.append_
 simp only [List.getElem?_toArray,List.getElem?_cons_zero,List.getElem?_cons_succ,sv_bind,sv_und hu,sv_und hu2,sv_size hi,hsz,sv_pure,Bool.false_eq_true,if_false,Builtin.lenOf,sv_info hi,false_or,Bool.not_false,if_true]
 have hsl:sl<=cs.length:=by rw [hcl];exact Nat.le_mul_of_pos_right _ hn
 have hyl:yl<=new.length:=by rw [hl];exact Nat.le_mul_of_pos_right _ hn
 have hcat:(cs++new).length=(sl+yl)*n:=by rw [List.length_append,hcl,hl,Nat.add_mul]
 split
 ·rename_i hle
  rw [sv_bind]
  refine sv_first hsrc hl ?_
  rcases ha with⟨rfl,rfl,hM⟩ | ⟨b,c,len,cap,rfl,h1,h2,h3,hM,h4⟩
  ·cases hve
   have:yl=0:=by omega
   subst this
   have hnew:new=[]:=by simpa using hl
   subst hnew
   refine⟨Z,.refl _,?_⟩
   have:=h (.slice none 0 0) Z.M (.inl ⟨rfl,rfl,hM⟩) rfl
   exact this
  ·cases hve
   simp only [sv_bind]
   refine sv_storeCells _ _ _ ?_
   rw [add_none]
   have hroom:0+sl*n+0+new.length<=c.size:=by
    have:(sl+yl)*n<=sc*n:=Nat.mul_le_mul_right n hle
    rw [Nat.add_mul] at this
    rw [h3,hl];omega
   refine stv_head _ _ c Z hM hsing hroom ?_
   refine⟨_,.refl _,h _ _ (.inr ⟨b,_,sl+yl,sc,rfl,hcat,hle,by rw [layAt_size];exact h3,rfl,λ i x hi=>?_⟩) rfl⟩
   rw [layAt_get _ _ _ _ _ hroom]
   simp only [List.getElem?_append] at hi
   split at hi
   ·rename_i hlt
    rw [if_neg (by omega)]
    exact h4 i x hi
   ·rename_i hge
    have hlt:=(List.getElem?_eq_some_iff.1 hi).1
    rw [if_pos (by omega)]
    rw [show i-(0+sl*n+0)=i-cs.length by omega]
    exact hi
 ·rename_i hgt
  have hb1:¬(((sl+yl:Nat):Int) > IntKind.i64.max/\inf.bytes=0):=λ h=>hby.1 h.2
  have hb2:¬(Builtin.nextslicecap (sl+yl) sc*inf.bytes > 2 ^ 48):=by
   have:=nextslicecap_le (need:=sl+yl) (old:=sc) (by omega)
   have h2:Builtin.nextslicecap (sl+yl) sc*inf.bytes<=(2*(sl+yl)+192)*64:=Nat.mul_le_mul this hby.2
   have e48:(2:Nat) ^ 48=281474976710656:=by decide
   rw [e48];omega
  simp only [sv_info hi,sv_bind]
  rw [if_neg hb1]
  simp only [sv_info hi,sv_bind]
  rw [if_neg hb2]
  simp only [choose,sv_bind]
  show ∀tt,SemV P _ _ Z
  intro tt
  show SemV P (typeInfo e) _ Z
  rw [sv_info hi]
  refine sv_room ?_
  refine sv_first hss hcl ?_
  refine sv_first hsrc hl ?_
  simp only [sv_zero hi hz]
  refine sv_new_freeze λ b' hb'=>?_
  have hcut:sl+yl<=Question.cut (.appendCap (sl+yl) sc e) tt:=by simp only [Question.cut];omega
  refine⟨_,shift_drop (M':=.obj b' (.cells (cs.toArray++new.toArray++Builtin.zeroCells z.cells (Question.cut (.appendCap (sl+yl) sc e) tt-(sl+yl))) e)::M₀) ?_,?_⟩
  ·show List.Sublist _ (.obj b' _::Z.M)
   refine List.Sublist.cons_cons _ ?_
   rcases ha with⟨rfl,rfl,hM⟩ | ⟨b,c,len,cap,rfl,h1,h2,h3,hM,h4⟩
   ·rw [hM];exact List.Sublist.refl _
   ·rw [hM];exact List.sublist_cons_self _ _
  ·refine h _ _ (.inr ⟨b',_,sl+yl,Question.cut (.appendCap (sl+yl) sc e) tt,rfl,hcat,hcut,?_,rfl,λ i x hi=>?_⟩) ?_
   ·simp only [Array.size_append,List.size_toArray,hcl,hl,Builtin.zeroCells,Array.size_map,Array.size_range,hzs]
    rw [<- Nat.add_mul,<- Nat.add_mul]
    congr 1
    omega
   ·have:(cs.toArray++new.toArray)=(cs++new).toArray:=by simp
    rw [this,Array.getElem?_append_left (by simpa using (List.getElem?_eq_some_iff.1 hi).1)]
    simpa using hi
   ·rcases ha with⟨rfl,rfl,hM⟩ | ⟨b,c,len,cap,rfl,h1,h2,h3,hM,h4⟩
    ·cases hve
     have:new≠[]:=by rintro rfl;simp at hl;omega
     cases new with
     | nil=>exact absurd rfl this
     | cons=>rfl
    ·rfl
def slTB (P:Program) (t e n:Nat):Bool:=
 (match P.underlying t with | some (.slice e')=>decide (e'=e) | _=>false) && (match P.info? e with
  | some inf=>decide (inf.size=n) && (match inf.zero with | some z=>decide (z.cells.size=n) | none=>false) && decide (inf.bytes≠0) && decide (inf.bytes<=64)
  | none=>false) && decide (0<n)
structure SlT (P:Program) (t e n:Nat):Prop where
 u:P.underlying t=some (.slice e)
 i:∃inf z,P.info? e=some inf/\inf.size=n/\inf.zero=some z/\z.cells.size=n/\inf.bytes≠0/\inf.bytes<=64
 n:0<n
theorem SlT.of {t e n:Nat} (h:slTB P t e n=true):SlT P t e n:=by
 unfold slTB at h
 simp only [Bool.and_eq_true,decide_eq_true_eq] at h
 obtain⟨⟨h1,h2⟩,h3⟩:=h
 refine⟨?_,?_,h3⟩
 ·split at h1
  ·rename_i e' hu;simp only [decide_eq_true_eq] at h1;subst h1;exact hu
  ·cases h1
 ·split at h2
  ·rename_i inf hi
   simp only [Bool.and_eq_true,decide_eq_true_eq] at h2
   obtain⟨⟨⟨a,b⟩,c⟩,d⟩:=h2
   split at b
   ·rename_i z hz
    simp only [decide_eq_true_eq] at b
    exact⟨inf,z,hi,a,hz,b,c,d⟩
   ·cases b
  ·cases h2
theorem raw_app {t e n ty:Nat} {v:Value} {x y:Operand} {ya:Option Addr} {yl yc:Nat} {cs new:List Value} {M₀:List Res} (k:SlT P t e n)
  (hx:evl f x=v) (hy:evl f y=.slice ya yl yc) (ha:Acc e n v cs Z.M M₀) (hsrc:Src Z ya new) (hl:new.length=yl*n) (hsing:∀w∈new,w.single=true) (hlen:cs.length+new.length<=1048576)
  (h:∀v' M',Acc e n v' (cs++new) M' M₀->isNilS v'=(isNilS v && new.isEmpty)->K v' { Z with M:=M' }) :
  OX S (.raw { dst:=none,op:=.call { callee:=.builtin .append,args:=#[x,y],argTypes:=#[t,t] },type:=ty,pos := "", after:=#[],guard:=none }) f K Z:=by
 obtain⟨inf,z,h1,h2,h3,h4,h5,h6⟩:=k.i
 exact raw_append k.u k.u h1 h2 h3 h4 ⟨h5,h6⟩ hx hy ha hsrc hl k.n hsing hlen h
def fsOf (P:Program) (t:TypeId):Array Field:=match P.underlying t with | some (.struct fs)=>fs | _=>#[]
def structB (P:Program) (t:TypeId):Bool:=
 (match P.underlying t with | some (.struct _)=>true | _=>false) && !P.stoodInHeld t && flatB P (fsOf P t).toList 0 && !P.eqGuardType P.depth t
theorem StructOk.of {t:TypeId} (h:structB P t=true):StructOk P t (fsOf P t):=by
 unfold structB at h
 simp only [Bool.and_eq_true,Bool.not_eq_true'] at h
 obtain⟨⟨⟨h1,h2⟩,h3⟩,h4⟩:=h
 refine⟨?_,h2,h3,h4⟩
 unfold fsOf
 split at h1
 ·rename_i fs hu;rw [hu]
 ·cases h1
theorem clear_zero {z:Value} {n k:Nat} (hz:z.cells.size=n):(Builtin.zeroCells z.cells k).toList.length=k*n:=by
 simp [Builtin.zeroCells,hz]
theorem zeroCells_one {z:Value} (hz:z.cells=#[z]) (k:Nat):(Builtin.zeroCells z.cells k).toList=List.replicate k z:=by
 apply List.ext_getElem
 ·simp [Builtin.zeroCells,hz]
 ·intro i h1 h2
  simp [Builtin.zeroCells,hz,Nat.mod_one]
theorem raw_clear {t e n ty b off cap len:Nat} {z:Value} {inf:TypeInfo} {x:Operand} {c:Array Value} {M₀:List Res} (hu:P.underlying t=some (.slice e)) (hi:P.info? e=some inf) (hz:inf.zero=some z) (hzs:z.cells.size=n)
  (hsing:∀w∈(Builtin.zeroCells z.cells len).toList,w.single=true)
  (hx:evl f x=.slice (some ⟨b,off,none⟩) len cap) (hM:Z.M=.obj b (.cells c e (0,0))::M₀) (hb:off+len*n<=c.size) (h:K undef { Z with M:=.obj b (.cells (layAt c off (Builtin.zeroCells z.cells len).toList 0) e (0,0))::M₀ }) :
  OX S (.raw { dst:=none,op:=.call { callee:=.builtin .clear,args:=#[x],argTypes:=#[t] },type:=ty,pos := "", after:=#[],guard:=none }) f K Z:=by
 intro a' hev
 have hm:(#[x]:Array Operand).map a'.eval=#[.slice (some ⟨b,off,none⟩) len cap]:=by simp [hev,hx]
 simp only [execOp,resolve,hm,sv_bind,sv_pure,invoke,builtin]
 show SemV P (Builtin.clear_ #[t] ty #[.slice (some ⟨b,off,none⟩) len cap]) _ Z
 unfold Builtin.clear_
 simp only [List.getElem?_toArray,List.getElem?_cons_zero,sv_bind,sv_und hu]
 cases len with
 | zero=>
  refine⟨Z,.refl _,?_⟩
  have e0:(Builtin.zeroCells z.cells 0).toList=[]:=by simp [Builtin.zeroCells]
  rw [e0] at h
  have e1:Z={ Z with M:=.obj b (.cells (layAt c off [] 0) e (0,0))::M₀ }:=by simp only [layAt];rw [<- hM]
  rw [e1]
  exact h
 | succ len=>
  show SemV P (do storeCells ⟨b,off,none⟩ (Builtin.zeroCells (<- zeroValue e).cells (len+1)).toList;pure (Value.tuple #[]):Sem Value) _ Z
  rw [sv_bind,sv_zero hi hz,sv_bind]
  refine sv_storeCells _ _ _ (stv_head _ _ c Z hM hsing (by rw [clear_zero hzs];omega) ?_)
  exact⟨_,.refl _,h⟩
theorem raw_makeInts {t e ty n:Nat} {z:Value} {inf:TypeInfo} {x y:Operand} (hu:P.underlying t=some (.slice e)) (hi:P.info? e=some inf) (hz:inf.zero=some z) (hzc:z.cells=#[z]) (hsz:inf.size=1) (hby:inf.bytes<=64)
  (hx:evl f x=.int .i64 n) (hy:evl f y=.int .i64 n) (hn:n<=1048576) (h:∀b,Z.free b->K (.slice (some ⟨b,0,none⟩) n n) (Z.put b (.cells (List.replicate n z).toArray e))) :
  OX S (.raw { dst:=none,op:=.makeSlice t x y,type:=ty,pos := "", after:=#[],guard:=none }) f K Z:=by
 intro a' ha
 simp only [execOp,ha,hx,hy]
 refine rq ?_
 unfold Instr.makeSlice
 have hw:IntKind.wrap .i64 (n:Int)=n:=wrap_inR (by unfold InR;omega)
 simp only [sv_bind,sv_und hu,asInt,asIntOf,sv_pure,sv_info hi,hw]
 have hle:(inf.bytes:Int)*(n:Int)<=67108864:=by
  have:=Nat.mul_le_mul hby hn
  have e:((inf.bytes*n:Nat):Int)=(inf.bytes:Int)*n:=by simp
  omega
 have e48:(2:Int) ^ 48=281474976710656:=by decide
 have hno:(((decide ((n:Int)<0) || decide ((inf.bytes:Int)*(n:Int) > 2 ^ 48)) || decide ((n:Int)<0)) || decide ((n:Int) > n))=false:=by
  rw [e48]
  simp only [Bool.or_eq_false_iff,decide_eq_false_iff_not]
  omega
 simp only [hno,Bool.false_eq_true,if_false]
 rw [sv_bind]
 refine sv_room ?_
 simp only [sv_bind,sv_size hi,hsz,Nat.mul_one,Int.toNat_natCast]
 have fin:∀c:Array Value,(n≠0->c=z.cells)->SemV P (newRow e ((Array.range n).map (c[· % c.size]!))) (λ a Z'=>∃Z1,Shift Z' Z1/\K (.slice (some a) n n) Z1) Z:=by
  intro c hc
  refine sv_new_freeze λ b hb=>⟨_,.refl _,?_⟩
  have:(Array.range n).map (c[· % c.size]!)=(List.replicate n z).toArray:=by
   apply Array.ext
   ·simp
   ·intro i h1 h2
    have hn0:n≠0:=by simp at h1;omega
    have hcz:=hc hn0
    rw [hzc] at hcz
    subst hcz
    simp [Nat.mod_one]
  rw [this]
  exact h b hb
 split
 ·rename_i h0;exact fin #[] λ h=>absurd h0 h
 ·simp only [sv_bind,sv_zero hi hz];exact fin _ λ _=>rfl
theorem raw_bytes {t t' e ty:Nat} {s:ByteArray} {x:Operand} (hu:P.underlying t=some .string) (hu':P.underlying t'=some (.slice e)) (hu8:P.underlying e=some (.int .u8)) (hx:evl f x=.string s)
  (h:∀b cap (c:Array Value) fr,Z.free b->(∀(i:Nat) u,s.data[i]?=some u->c[i]?=some (.int .u8 u.toNat))->K (.slice (some ⟨b,0,none⟩) s.size cap) { Z with I:=addI Z.I b (.cells c e fr) }) :
  OX S (.raw { dst:=none,op:=.convert t t' x,type:=ty,pos := "", after:=#[],guard:=none }) f K Z:=by
 intro a' ha
 simp only [execOp,ha,hx]
 refine rq ?_
 unfold convert
 simp only [sv_bind,sv_und hu,sv_und hu',sv_und hu8,Conv.stringToBytes,choose]
 show ∀tt,SemV P _ _ Z
 intro tt
 simp only [sv_pure,SemV]
 refine sv_new_freeze λ b hb=>?_
 unfold markStringish
 simp only [sv_bind,shape]
 refine⟨_,.inr (List.mem_cons_self ..),?_⟩
 simp only [Obj.shapeOf,SemV,freeze]
 refine⟨by decide,_,_,_,rfl,?_⟩
 refine⟨_,shift_freeze (b:=b) (M':=Z.M) (List.Perm.refl _),?_⟩
 refine h b _ _ _ hb λ i u hi=>?_
 have hlt:=(Array.getElem?_eq_some_iff.1 hi).1
 rw [Array.getElem?_append_left (by simpa using hlt)]
 simp [hi]
theorem raw_index {t e ty len i:Nat} {d:TypeDesc} {k:IntKind} {cs:Array Value} {v:Value} {x y:Operand} {inf:TypeInfo} (hu:P.underlying t=some (.array len e)) (hd:P.underlying e=some d) (hsd:simpleD d=true) (hi:P.info? e=some inf) (hsz:inf.size=1)
  (hx:evl f x=.agg cs) (hy:evl f y=.int k i) (hlt:i<len) (hv:cs[i]?=some v) (h:K v Z) :
  OX S (.raw { dst:=none,op:=.index t x y,type:=ty,pos := "", after:=#[],guard:=none }) f K Z:=by
 intro a' ha
 simp only [execOp,ha,hx,hy]
 refine rq ?_
 simp only [Instr.index,sv_bind,asIntOf,sv_pure,sv_und hu]
 rw [if_pos (by omega)]
 simp only [sv_bind,sv_size hi,hsz,Nat.mul_one,Int.toNat_natCast]
 rw [sv_part hd hsd hv]
 exact⟨Z,.refl _,h⟩
end Go.TM
namespace Go.TM
variable {T:Type} {P:Program} {S:Sys P T} {f:Fm} {Z:View T}
def setP1 (t:Tmp) (ih:Fm->List Value->Fm) (f:Fm):List Value->Fm
 | []=>f
 | v::vs=>ih (upd f t v) vs
def setP (f:Fm):List Tmp->List Value->Fm
 | [],_=>f
 | t::ts,vs=>setP1 t (λ f vs=>setP f ts vs) f vs
theorem fr_setP {N:Nat}:∀(ts:List Tmp) (vs:List Value) (tmps:Array Value) (f:Fm),(∀t∈ts,t<N)->FR N ⟨tmps,[]⟩ f []->FR N ⟨(ts.zip vs).foldl (λ tmps p=>tmps.setIfInBounds p.1 p.2) tmps,[]⟩ (setP f ts vs) []
 | [],_,_,_,_,h=>h
 | t::ts,[],_,_,_,h=>h
 | t::ts,v::vs,tmps,f,hN,h=>by
  simp only [List.zip_cons_cons,List.foldl_cons]
  show FR N _ (setP (upd f t v) ts vs) []
  exact fr_setP ts vs _ _ (λ t ht=>hN t (List.mem_cons_of_mem _ ht)) (h.put (some t) v λ d hd=>by cases hd;exact hN t (List.mem_cons_self ..))
def EndR (l:Nat) (lo:LoopState->Option Code->Obj) (K:Value->View T->Prop) (j:Option Code) (Z:View T):Prop:=
 ∃M',UpdObj l (lo (if j.isNone then .ready else .done) j) (lo .busy none) Z.M M'/\K (.bool j.isNone) { Z with M:=M' }
def AfterR (l:Nat) (lo:LoopState->Option Code->Obj) (n:View T->Prop) (x:Nat->View T->Prop) (r:View T->Prop) (Z:View T):Prop:=
 ∃st j M',st≠.busy/\UpdObj l (lo .exhausted j) (lo st j) Z.M M'/\(match j with | none=>n { Z with M:=M' } | some (.exit i)=>x i { Z with M:=M' } | some .ret=>r { Z with M:=M' } | _=>False)
def RoundR (S:Sys P T) (fn:FuncId) (params:Array Tmp) (as bd:C) (l:Nat) (lo:LoopState->Option Code->Obj) (f:Fm):Prop:=
 ∀(vs:List Value) (K:Value->View T->Prop) (Z:View T),vs.length=params.size->Res.obj l (lo .ready none)∈Z.M ->
  wpC S fn (some l) as (λ f1 ds1 Z1=>ds1=[]/\∃M₁,UpdObj l (lo .busy none) (lo .ready none) Z1.M M₁ /\
   wpC S fn (some l) bd (λ _ _ Z2=>EndR l lo K none Z2) (λ i _ _ Z2=>EndR l lo K (some (.exit i)) Z2) (λ _ _ Z2=>EndR l lo K (some .ret) Z2) f1 [] { Z1 with M:=M₁ })
   (λ _ _ _ _=>False) (λ _ _ _=>False) (setP f params.toList vs) [] Z->YieldV S l vs K Z
theorem sv_getLoop {l:Nat} {r:Loop} {Q:Loop->View T->Prop} (hm:Res.obj l (.loop r)∈Z.M) (h:Q r Z):SemV P (Instr.getLoop l) Q Z:=by
 unfold Instr.getLoop
 rw [sv_bind]
 exact⟨.loop r,.inr hm,rfl,rfl,h⟩
theorem sv_beginRound {l:Nat} {r:Loop} {M':List Res} {Q:Unit->View T->Prop} (hst:r.state=.ready) (hu:UpdObj l (.loop { r with state:=.busy }) (.loop r) Z.M M') (h:Q () { Z with M:=M' }):SemV P (Instr.beginRound l) Q Z:=by
 unfold Instr.beginRound
 rw [sv_bind]
 refine sv_getLoop hu.mem ?_
 simp only [sv_bind,setObj,SemV]
 refine⟨_,M',hu,rfl,rfl,rfl,?_⟩
 rw [hst]
 exact h
theorem sv_endRound {l:Nat} {r:Loop} {M':List Res} {j:Option Code} {Q:Value->View T->Prop} (hu:UpdObj l (.loop { r with state:=if j.isNone then .ready else .done,pending:=j }) (.loop r) Z.M M') (h:Q (.bool j.isNone) { Z with M:=M' }):SemV P (Instr.endRound l j) Q Z:=by
 unfold Instr.endRound
 rw [sv_bind]
 refine sv_getLoop hu.mem ?_
 simp only [sv_bind,setObj,SemV]
 exact⟨_,M',hu,rfl,rfl,rfl,h⟩
theorem sv_endLoop {l:Nat} {r:Loop} {M':List Res} {Q:Option Code->View T->Prop} (hst:r.state≠.busy) (hu:UpdObj l (.loop { r with state:=.exhausted }) (.loop r) Z.M M') (h:Q r.pending { Z with M:=M' }):SemV P (Instr.endLoop l) Q Z:=by
 unfold Instr.endLoop
 rw [sv_bind]
 refine sv_getLoop hu.mem ?_
 have:(r.state == .busy)=false:=by simpa using hst
 rw [this]
 simp only [Bool.false_eq_true,if_false,sv_bind,setObj,SemV]
 exact⟨_,M',hu,rfl,rfl,rfl,h⟩
theorem wpC_rng (hm:P.follows .mixedOrders=true) {fn N:Nat} {mu dets:List Nat} {c:Operand} {params:Array Tmp} {as bd:C} {n:Kont T} {x:Nat->Kont T} {r:Kont T} {ds:List Deferred} {g:FuncId} {first capt:Array Value}
  (hc:evl f c=.func (.func g) first capt) (hp:params.toList.all (λ t=>decide (t<N))=true) (hg:(P.funcs[g]?.any λ fd=>fd.body.isSome && fd.name != "runtime.NumGoroutine")=true)
  (h:∀(l d:Nat) (lo:LoopState->Option Code->Obj),Z.free d->Z.free l->l≠d->RoundR S fn params as bd l lo f ->
   CallsV S g (first.toList++[Value.func (.yield l) #[] #[]]++capt.toList).toArray (λ _ Z3=>Sep Z3 ->
    AfterR l lo (λ Z=>n f (⟨.collected d,#[]⟩::ds) Z) (λ i Z=>x i f (⟨.collected d,#[]⟩::ds) Z) (λ Z=>r f (⟨.collected d,#[]⟩::ds) Z) Z3)
    { Z with M:=.obj l (lo .ready none)::.obj d (.deferred (some []))::Z.M }) :
  wpC S fn none (.rng N mu dets c params as bd) n x r f ds Z:=by
 intro ca cb hca hcb a hf
 have hN:∀t∈params.toList,t<N:=λ t ht=>by simpa using List.all_eq_true.1 hp t ht
 refine cv_rangeFunc ?_
 simp only [Instr.enterLoop,sv_bind,newObj,SemV,sv_pure]
 intro d hd l hl
 have hl0:Z.free l:=⟨hl.1,λ r hr=>hl.2 r (List.mem_cons_of_mem _ hr)⟩
 have hld:l≠d:=λ e=>hl.2 (.obj d (.deferred (some []))) (List.mem_cons_self ..) e.symm
 let lo:LoopState->Option Code->Obj:=λ st j=>.loop { state:=st,pending:=j,fn,tmps:=a.tmps,params,assign:=ca,body:=cb,defers:=d }
 have hfr0:FR N ⟨a.tmps,[]⟩ f []:=⟨rfl,hf.size,hf.get⟩
 have hR:RoundR S fn params as bd l lo f:=by
  intro vs K Z' hvs hmem hw
  unfold YieldV Instr.yield
  rw [sv_bind]
  refine sv_getLoop (r:={ state:=.ready,pending:=none,fn,tmps:=a.tmps,params,assign:=ca,body:=cb,defers:=d }) hmem ?_
  have hne:¬(vs.toArray.size≠params.size):=by simp [hvs]
  simp only [hne,if_false,sv_pure]
  show RoundV S l fn _ ca cb K Z'
  refine RoundV.of_body ?_
  have hfr:FR N ⟨(params.zip vs.toArray).foldl (λ tmps (t,a)=>tmps.setIfInBounds t a) a.tmps,[]⟩ (setP f params.toList vs) []:=by
   have:=fr_setP params.toList vs a.tmps f hN hfr0
   rw [<- Array.foldl_toList]
   simpa using this
  rw [<- hca] at hw
  refine CodeV.mono (wpC_sound hm ca hfr hw) λ e a' Z1 hp=>?_
  obtain⟨f1,ds1,hf_1,hp⟩:=hp
  cases e with
  | exit i=>exact hp.elim
  | ret=>exact hp.elim
  | normal=>
   obtain⟨rfl,M₁,hu,hp⟩:=hp
   refine⟨rfl,sv_beginRound (r:={ state:=.ready,pending:=none,fn,tmps:=a.tmps,params,assign:=ca,body:=cb,defers:=d }) rfl hu ?_⟩
   rw [<- hcb] at hp
   refine CodeV.mono (wpC_sound hm cb hf_1 hp) λ e a'' Z2 hp=>?_
   obtain⟨f2,ds2,hf_2,hp⟩:=hp
   cases e with
   | normal=>obtain⟨M',hu,hk⟩:=hp;exact sv_endRound (r:={ state:=.busy,pending:=none,fn,tmps:=a.tmps,params,assign:=ca,body:=cb,defers:=d }) hu hk
   | exit i=>obtain⟨M',hu,hk⟩:=hp;exact sv_endRound (r:={ state:=.busy,pending:=none,fn,tmps:=a.tmps,params,assign:=ca,body:=cb,defers:=d }) hu hk
   | ret=>obtain⟨M',hu,hk⟩:=hp;exact sv_endRound (r:={ state:=.busy,pending:=none,fn,tmps:=a.tmps,params,assign:=ca,body:=cb,defers:=d }) hu hk
 have hcall:=h l d lo hd hl0 hld hR
 have hcc:a.eval c=.func (.func g) first capt:=by rw [hf.eval];exact hc
 have hmm:(#[.const (.func (.yield l) #[] #[])]:Array Operand).map a.eval=#[Value.func (.yield l) #[] #[]]:=by simp [Act.eval]
 simp only [resolve,yieldCall,hcc,hmm,sv_bind,Deferred.ofValue,sv_pure,invoke,callFunc,program,SemV]
 cases hgf:P.funcs[g]? with
 | none=>simp [hgf] at hg
 | some fd=>
  simp only [hgf,Option.any_some,Bool.and_eq_true,bne_iff_ne,ne_eq] at hg
  obtain⟨h1,h2⟩:=hg
  have hnone:fd.body.isNone=false:=by cases hbd:fd.body <;> simp_all
  have hname:(fd.name == "runtime.NumGoroutine")=false:=by simpa using h2
  simp only [hname,hnone,Bool.false_eq_true,if_false,sv_pure]
  have e:(first++#[Value.func (.yield l) #[] #[]])++capt=(first.toList++[Value.func (.yield l) #[] #[]]++capt.toList).toArray:=by apply Array.ext';simp
  rw [e]
  refine CallsV.sep hcall λ v Z3 hs hA=>⟨Z3,.refl _,?_⟩
  obtain⟨st,j,M',hst,hu,hA⟩:=hA hs
  refine sv_endLoop (r:={ state:=st,pending:=j,fn,tmps:=a.tmps,params,assign:=ca,body:=cb,defers:=d }) hst hu ?_
  have hds:a.defers=ds:=hf.ds
  cases j with
  | none=>exact⟨by trivial,by simpa [hds] using hA⟩
  | some cd=>
   cases cd with
   | exit i=>exact cv_exit ⟨by trivial,by simpa [hds] using hA⟩
   | ret=>exact cv_ret ⟨by trivial,by simpa [hds] using hA⟩
   | _=>exact hA.elim
end Go.TM
