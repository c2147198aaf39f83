/- A part of the proof: lemmas that the last text uses. No conditions of its own. -/
import Derived.Test.YtebpcmdnecenlaaGreatH00
set_option linter.unusedSimpArgs false
set_option linter.unusedVariables false
namespace Go.TM
variable {T:Type} {P:Program} {S:Sys P T} {fn:FuncId} {ro:Option Nat} {Stop:Stp T} {m:Bool}
theorem J.body {b:Frame} {a:Act} {c:Code} {cs:List Frame} {Z:View T} {Q:Ex->Act->View T->Prop} (hb:Fr fn none b) (h:CodeV S fn none c Q a Z)
  (hq:∀e a' Z',Q e a' Z'->(e=.normal\/e=.ret)/\∀todo,J S Stop m (Rf { fr b a' todo with mode:=.returning } cs) Z'):J S Stop m (R b a [.code c] cs) Z:=by
 refine h Stop m b [] cs hb λ e a' Z' q=>?_
 obtain⟨he,hj⟩:=hq e a' Z' q
 have hro:=hb.2.1
 rcases he with rfl | rfl
 ·refine .still (g':=Rf { fr b a' [] with mode:=.returning } cs) rfl (λ w=>?_) (hj [])
  simp [R,Rf,stepG,stepG.exec,fr,hro]
 ·simp only [AfterV,LeaveV,hro]
  exact⟨.inr trivial,hj⟩
def RetQ (P:Program) (f:Func) (Q:Value->View T->Prop) (tmps:Array Value):List Deferred->View T->Prop
 | [],Z=>SemV P (results f tmps) Q Z
 | { target:=.collected blk,.. }::ds,Z=>SemV P (Instr.takeDeferred blk) (λ calls Z'=>calls=[]/\RetQ P f Q tmps ds Z') Z
 | _,_=>False
theorem RetQ.step {f:Func} {Q:Value->View T->Prop} {b:Frame} {tmps:Array Value} {c:Frame} {cs:List Frame} (hf:P.funcs[b.fn]?=some f) (hk:b.kind=.normal\/b.kind=.wrapped) (hq:∀v Z',Q v Z'->J S Stop m (Rf (c.finish v) cs) Z') :
  ∀(ds:List Deferred) (todo:List Item) (Z:View T),RetQ P f Q tmps ds Z->J S Stop m (Rf { fr b ⟨tmps,ds⟩ todo with mode:=.returning } (c::cs)) Z:=by
 intro ds
 induction ds with
 | nil=>
  intro todo Z h
  refine .sem _ rfl h λ w x w' es hrun _=>⟨Rf (c.finish x) cs,seen P b.fn es,?_,seen_sub P _ es,λ Z' q=>hq _ _ q⟩
  obtain⟨hr,he⟩:Sem.run P (results f tmps) w=.ok x w'/\Sem.events P (results f tmps) w #[]=es:=by simpa using hrun
  rcases hk with hk | hk <;> simp [Rf,stepG,unwind,fr,hf,hr,he,doReturn,hk,GStep.after]
 | cons d ds ih=>
  intro todo Z h
  obtain⟨tg,args⟩:=d
  cases tg with
  | collected blk=>
   simp only [RetQ] at h
   refine .sem _ rfl h λ w x w' es hrun hex=>⟨Rf { fr b ⟨tmps,x++ds⟩ todo with mode:=.returning } (c::cs),seen P b.fn es,?_,seen_sub P _ es,λ Z' q=>?_⟩
   ·obtain⟨hr,he⟩:Sem.run P (Instr.takeDeferred blk) w=.ok x w'/\Sem.events P (Instr.takeDeferred blk) w #[]=es:=by simpa using hrun
    simp [Rf,stepG,unwind,fr,hr,he,GStep.after]
   ·obtain⟨rfl,q⟩:=q
    exact ih todo Z' q
  | _=>exact h.elim
def bodyQ (P:Program) (f:Func) (Q:Value->View T->Prop):Ex->Act->View T->Prop
 | .normal,a,Z=>RetQ P f Q a.tmps a.defers Z
 | .ret,a,Z=>RetQ P f Q a.tmps a.defers Z
 | .exit _,_,_=>False
theorem CallsV.of_body {f:FuncId} {fd:Func} {c:Code} {args:Array Value} {Z:View T} {Q:Value->View T->Prop} (hf:P.funcs[f]?=some fd) (hb:fd.body=some c)
  (h:CodeV S f none c (bodyQ P fd Q) { tmps:=args++Array.replicate (fd.ntmps-args.size) undef,defers:=[] } Z):CallsV S f args Q Z:=by
 intro Stop m caller cs hq
 let b:Frame:={ (default:Frame) with fn:=f,kind:=.normal }
 have henter:Rf (Frame.enter P f args .normal) (caller::cs)=R b { tmps:=args++Array.replicate (fd.ntmps-args.size) undef,defers:=[] } [.code c] (caller::cs):=by
  simp [Rf,R,Frame.enter,fr,hf,hb,b]
  rfl
 rw [henter]
 refine J.body (fn:=f) ⟨rfl,rfl,by simp [b],by simp⟩ h λ e a' Z' q=>?_
 cases e with
 | normal=>exact⟨.inl rfl,λ todo=>RetQ.step hf (.inl rfl) hq a'.defers todo Z' q⟩
 | ret=>exact⟨.inr rfl,λ todo=>RetQ.step hf (.inl rfl) hq a'.defers todo Z' q⟩
 | exit id=>exact q.elim
def jumpOf:Ex->Option Code
 | .normal=>none
 | .ret=>some .ret
 | .exit id=>some (.exit id)
def roundQ (P:Program) (l:Nat) (Q:Value->View T->Prop) (e:Ex) (_:Act) (Z:View T):Prop:=SemV P (Instr.endRound l (jumpOf e)) Q Z
theorem RoundV.of_body {l:Nat} {f:FuncId} {tmps:Array Value} {assign body:Code} {Z:View T} {Q:Value->View T->Prop}
  (h:CodeV S f (some l) assign (λ e a' Z'=>e=.normal/\SemV P (Instr.beginRound l) (λ _ Z2=>CodeV S f (some l) body (roundQ P l Q) a' Z2) Z') ⟨tmps,[]⟩ Z):RoundV S l f tmps assign body Q Z:=by
 intro Stop m c cs hq
 let b:Frame:={ (default:Frame) with fn:=f,kind:=.normal,roundOf:=some l }
 have hb:Fr f (some l) b:=⟨rfl,rfl,by simp [b],by simp [b]⟩
 have hro:b.roundOf=some l:=rfl
 have henter:Rf (Frame.round l f tmps assign body .normal) (c::cs)=R b ⟨tmps,[]⟩ [.code assign,.beginRound,.code body] (c::cs):=by
  simp [Rf,R,Frame.round,fr,b]
 rw [henter]
 refine h Stop m b [.beginRound,.code body] (c::cs) hb λ e a' Z' q=>?_
 obtain⟨rfl,q⟩:=q
 show J S Stop m (R b a' [.beginRound,.code body] (c::cs)) Z'
 have q':SemV P (do Instr.beginRound l;pure Next.skip:Sem Next) (λ n Z2=>n=.skip/\CodeV S f (some l) body (roundQ P l Q) a' Z2) Z':=
  (SemV_bind _ _).2 (SemV.mono _ q λ _ _ h=>⟨rfl,h⟩)
 refine .sem _ rfl q' λ w x w' es hrun hex=>⟨R b a' [.code body] (c::cs),seen P f es,?_,seen_sub P _ es,λ Z2 q=>?_⟩
 ·obtain⟨_,rfl,_⟩:=hex
  have hke:(b.kind == CallKind.early)=false:=rfl
  show stepG.apply P true (fr b a' [.beginRound,.code body]) (c::cs) none (do (Instr.beginRound l);pure .skip) w=_
  simp only [stepG.apply,if_true,hrun]
  simp [fr,hke,GStep.after,R,Frame.finish,b]
 ·obtain⟨_,q⟩:=q
  refine q Stop m b [] (c::cs) hb λ e a'' Z3 q=>?_
  have leave:LeaveV S Stop m b (c::cs) (jumpOf e) a'' Z3:=by
   simp only [LeaveV,hro]
   exact⟨c,cs,rfl,SemV.mono _ q λ v Z4 hv=>hq v Z4 hv⟩
  cases e with
  | normal=>
   simp only [LeaveV,hro,jumpOf] at leave
   obtain⟨c',rest,e,hs⟩:=leave
   cases e
   refine .sem _ rfl hs λ w x w' es hrun _=>⟨Rf (c.finish x) cs,seen P f es,?_,seen_sub P _ es,λ _ h=>h⟩
   obtain⟨hr,he⟩:Sem.run P (Instr.endRound l none) w=.ok x w'/\Sem.events P (Instr.endRound l none) w #[]=es:=by simpa using hrun
   simp [R,stepG,stepG.exec,fr,b,hr,he,doReturn,GStep.after,Rf]
  | exit id=>exact .inr ⟨rfl,leave⟩
  | ret=>exact leave
def yieldCall (f:Operand) (l:Nat):Call:={ callee:=.value f,args:=#[.const (.func (.yield l) #[] #[])],argTypes:=#[] }
theorem cv_rangeFunc {Q:Ex->Act->View T->Prop} {a:Act} {Z:View T} {f:Operand} {params:Array Tmp} {assign body:Code}
  (h:SemV P (Instr.enterLoop fn a.tmps params assign body ro) (λ lm Z1=>
   SemV P (do let d <- resolve a.eval (yieldCall f lm.1) 0;invoke d.target d.args:Sem Next) (λ nx Z2=>match nx with
    | .enter f' args=>CallsV S f' args (λ _ Z3=>SemV P (Instr.endLoop lm.1) (λ j Z4=>match j with
      | none=>Q .normal { a with defers:=lm.2++a.defers } Z4
      | some c=>CodeV S fn ro c Q { a with defers:=lm.2++a.defers } Z4) Z3) Z2
    | _=>False) Z1) Z):CodeV S fn ro (.rangeFunc f params assign body) Q a Z:=by
 intro Stop m b k cs hb hc
 have hke:(b.kind == CallKind.early)=false:=by simpa using hb.2.2.1
 refine .priv ⟨rfl,λ w ok=>?_⟩
 obtain⟨⟨l,mark⟩,w_1,es1,Z1,hr_1,hev1,hg_1,ok1,h,ht1⟩:=SemV.sound _ (es₀:=#[]) h ok
 obtain⟨nx,w_2,es2,Z2,hr_2,hev2,hg2,ok_2,h,ht_2⟩:=SemV.sound _ (es₀:=#[]) h ok1
 have hr1':(Instr.enterLoop b.fn a.tmps params assign body b.roundOf).runT P w #[]=(.ok (l,mark) w_1,es1):=by rw [hb.1,hb.2.1];simpa using hr_1
 have hr2':(do let d <- resolve a.eval (yieldCall f l) 0;invoke d.target d.args:Sem Next).runT P w_1 #[]=(.ok nx w_2,es2):=by simpa using hr_2
 cases nx with
 | enter f' args=>
  refine⟨Rf (Frame.enter P f' args .normal) (fr b { a with defers:=mark++a.defers } (.inRangeFunc l::k)::cs),w_2,seen P b.fn es1++seen P b.fn es2,Z2,?_,?_,hg_1.trans hg2,ok_2,ht_2.trans ht1,?_⟩
  ·have he:(fr b { a with defers:=mark++a.defers } (.inRangeFunc l::k)).eval=a.eval:=by rw [fr_eval];rfl
   show GStep.after (seen P b.fn ((Instr.enterLoop b.fn a.tmps params assign body b.roundOf).runT P w #[]).2) (match ((Instr.enterLoop b.fn a.tmps params assign body b.roundOf).runT P w #[]).1 with
    | .ok (l,mark) w=>stepG.apply P true (fr b { a with defers:=mark++a.defers } (.inRangeFunc l::k)) cs none (do let d <- resolve (fr b { a with defers:=mark++a.defers } (.inRangeFunc l::k)).eval (yieldCall f l) 0;invoke d.target d.args) w
    | .halt _ w=>_)=_
   rw [hr1']
   simp only [he]
   simp only [stepG.apply,if_true,hr2']
   simp [fr,hke,GStep.after,Rf]
  ·intro e he
   rcases Array.mem_append.1 he with he | he
   ·exact⟨(hev1 e (seen_sub P _ _ e he)).1,(hev1 e (seen_sub P _ _ e he)).2.mono hg2.size⟩
   ·exact⟨EvOk.of hg_1 (hev2 e (seen_sub P _ _ e he)).1,(hev2 e (seen_sub P _ _ e he)).2⟩
  ·refine h Stop m _ cs λ v Z3 h=>?_
   have hfin:(fr b { a with defers:=mark++a.defers } (.inRangeFunc l::k)).finish v=fr b { a with defers:=mark++a.defers } (.endRangeFunc l::k):=by simp [Frame.finish,fr]
   rw [hfin]
   refine .sem (g:=R b { a with defers:=mark++a.defers } (.endRangeFunc l::k) cs) _ rfl h λ w j w' es hrun _=>⟨R b { a with defers:=mark++a.defers } ((j.map Item.code).toList++k) cs,seen P b.fn es,?_,seen_sub P _ es,λ Z4 q=>?_⟩
   ·obtain⟨hr,he⟩:Sem.run P (Instr.endLoop l) w=.ok j w'/\Sem.events P (Instr.endLoop l) w #[]=es:=by simpa using hrun
    simp [R,stepG,stepG.exec,fr,hr,he,GStep.after]
   ·cases j with
    | none=>exact hc _ _ _ q
    | some c=>exact q Stop m b k cs hb hc
 | _=>exact h.elim
end Go.TM
namespace Go.TM
variable {T:Type} {P:Program} {S:Sys P T}
def Sep (Z:View T):Prop:=∀r∈Z.M,Z.I r.blk=none
theorem CallsV.sep {f:FuncId} {args:Array Value} {R R':Value->View T->Prop} {Z:View T} (h:CallsV S f args R Z) (hr:∀v Z',Sep Z'->R v Z'->∃Z'',Shift Z' Z''/\R' v Z''):CallsV S f args R' Z:=by
 intro Stop m c cs k
 refine h Stop m c cs λ v Z' r=>?_
 by_cases hs:Sep Z'
 ·obtain⟨Z'',h1,h2⟩:=hr v Z' hs r
  exact .shift h1 (k v _ h2)
 ·exact .priv ⟨rfl,λ w ok=>absurd ok.sep hs⟩
theorem CallsV.sep0 {f:FuncId} {args:Array Value} {R:Value->View T->Prop} {Z:View T} (h:Sep Z->CallsV S f args R Z):CallsV S f args R Z:=by
 intro Stop m c cs k
 by_cases hs:Sep Z
 ·exact h hs Stop m c cs k
 ·exact .priv ⟨rfl,λ w ok=>absurd ok.sep hs⟩
def YieldV (S:Sys P T) (l:Nat) (vs:List Value) (K:Value->View T->Prop) (Z:View T):Prop:=SemV P (Instr.yield l vs.toArray) (NextQ S K) Z
abbrev Fm:=Nat->Value
def upd (f:Fm) (d:Nat) (v:Value):Fm:=λ t=>bif Nat.beq t d then v else f t
def updO (f:Fm):Option Nat->Value->Fm
 | some d,v=>upd f d v
 | none,_=>f
def evl (f:Fm):Operand->Value
 | .tmp t=>f t
 | .const v=>v
 | .global g=>.pointer (some ⟨g,0,none⟩)
 | .func g=>.func (.func g) #[] #[]
inductive O where
 | mv (x:Operand)
 | pick (c a b:Operand)
 | add (x y:Operand) | sub (x y:Operand) | mul (x y:Operand)
 | cmp (op:BinOp) (x y:Operand)
 | beq (op:BinOp) (x y:Operand)
 | ar (op:BinOp) (x y:Operand)
 | teq (op:BinOp) (x y:Operand)
 | not (x:Operand)
 | len (x:Operand)
 | lenT (x:Operand)
 | lenM (x:Operand)
 | conv (k:IntKind) (x:Operand)
 | off (n:Nat) (x:Operand)
 | idx (sz:Nat) (x i:Operand)
 | aidx (n sz:Nat) (x i:Operand)
 | sidx (x i:Operand)
 | ld (x:Operand)
 | ldn (n:Nat) (x:Operand)
 | st (n:Nat) (x v:Operand)
 | box (t:TypeId) (x:Operand)
 | boxM (t:TypeId) (x:Operand)
 | alloc (t:TypeId) (zero:Array Value)
 | ext (x:Operand) (i:Nat)
 | part (off n:Nat) (x:Operand)
 | part1 (off:Nat) (x:Operand)
 | mkf (fn:Fn) (first capt:Array Operand)
 | call (f:Operand) (args:Array Operand)
 | nilc (x:Operand)
 | sub3 (sz:Nat) (x:Operand) (lo hi:Option Operand)
 | build (zero:Array Value) (parts:List (Nat×Nat×Operand))
 | bsl (t:TypeId) (len:Nat) (zero:Array Value) (parts:List (Nat×Nat×Operand))
 | raw (o:Oper)
def force (v:Value) (K:Value->Prop):Prop:=
 match v with
 | .bool b=>K (.bool b) | .int k n=>K (.int k n) | .float k n=>K (.float k n) | .complex k a b=>K (.complex k a b) | .string s=>K (.string s)
 | .pointer a=>K (.pointer a) | .slice a l c=>K (.slice a l c) | .map r=>K (.map r) | .chan r=>K (.chan r) | .func f a b=>K (.func f a b)
 | .nilFunc=>K .nilFunc | .iface t x=>K (.iface t x) | .nilIface=>K .nilIface | .agg c=>K (.agg c) | .tuple c=>K (.tuple c)
theorem force_eq (v:Value) (K:Value->Prop):force v K=K v:=by cases v <;> rfl
def forceL (l:List Value):(List Value->Prop)->Prop:=List.rec (motive:=λ _=>(List Value->Prop)->Prop) (λ K=>K []) (λ v _ ih K=>force v λ v=>ih λ r=>K (v::r)) l
theorem forceL_eq:∀(l:List Value) (K:List Value->Prop),forceL l K=K l
 | [],_=>rfl
 | v::r,K=>by
  show (force v λ v=>forceL r λ r=>K (v::r))=_
  rw [force_eq];exact forceL_eq r _
def forceC (v:Value) (K:Array Value->Prop):Prop:=force v λ v=>match v with | .agg cs=>K cs | v=>K #[v]
theorem forceC_eq (v:Value) (K:Array Value->Prop):forceC v K=K v.cells:=by unfold forceC;rw [force_eq];cases v <;> rfl
def Blk (Z:View T) (b:Nat) (c:Array Value):Prop:=∃t fr,Z.I b=some (.cells c t fr)
theorem Blk.new {Z:View T} {b:Nat} {c:Array Value} {t:TypeId}:Blk { Z with I:=addI Z.I b (.cells c t) } b c:=⟨t,(0,0),by simp [addI]⟩
theorem le_add {Z:View T} {b:Nat} {o:Obj} (h:Z.free b):Z.le { Z with I:=addI Z.I b o }:=by
 refine⟨λ x o' hx=>?_,rfl,rfl⟩
 show addI Z.I b o x=_
 unfold addI
 rw [if_neg]
 ·exact hx
 ·intro e
  rw [e,h.1] at hx
  cases hx
def InR (n:Int):Prop:=-9223372036854775808<=n/\n<9223372036854775808
theorem wrap_inR {n:Int} (h:InR n):IntKind.wrap .i64 n=n:=by
 unfold InR at h
 have e1:(2:Int) ^ 64=18446744073709551616:=by decide
 have e2:(2:Int) ^ (64-1)=9223372036854775808:=by decide
 simp only [IntKind.wrap,IntKind.bits,IntKind.signed,Bool.true_and,e1,e2]
 split <;> rename_i hc <;> simp only [decide_eq_true_eq] at hc <;> omega
def Reads (Z:View T) (a:Addr) (vs:List Value):Prop:=∀i v,vs[i]?=some v->Z.sees (a.add i) v
def StV (a:Addr) (l:List Value):Nat->(View T->Prop)->View T->Prop:=
 List.rec (motive:=λ _=>Nat->(View T->Prop)->View T->Prop) (λ _ K Z=>K Z) (λ v _ ih i K Z=>v.single=true/\∃M',Upd (a.add i) v Z.M M'/\ih (i+1) K { Z with M:=M' }) l
theorem StV.mono {a:Addr} {K K':View T->Prop} (hk:∀Z,K Z->K' Z):∀(vs:List Value) (i:Nat) (Z:View T),StV a vs i K Z->StV a vs i K' Z
 | [],_,_,h=>hk _ h
 | _::vs,i,_,⟨h1,M',hu,h⟩=>⟨h1,M',hu,StV.mono hk vs (i+1) _ h⟩
def subBounds (len:Nat) (lo hi:Option Value):Option (Int×Int):=
 match lo,hi with
 | none,none=>some (0,len)
 | some (.int _ l),none=>some (l,len)
 | none,some (.int _ h)=>some (0,h)
 | some (.int _ l),some (.int _ h)=>some (l,h)
 | _,_=>none
def layAt (cells:Array Value) (off:Nat):List Value->Nat->Array Value
 | [],_=>cells
 | v::r,j=>layAt (cells.setIfInBounds (off+j) v) off r (j+1)
def fillL (f:Fm) (cells:Array Value):List (Nat×Nat×Operand)->Option (Array Value)
 | []=>some cells
 | (off,size,x)::r=>
  if (evl f x).cells.size≠size || off+(evl f x).cells.size > cells.size then none
  else fillL f (layAt cells off (evl f x).cells.toList 0) r
theorem layAt_size:∀(vs:List Value) (c:Array Value) (off j:Nat),(layAt c off vs j).size=c.size
 | [],_,_,_=>rfl
 | v::vs,c,off,j=>by simp [layAt,layAt_size vs]
theorem layAt_get:∀(vs:List Value) (c:Array Value) (off j k:Nat),off+j+vs.length<=c.size->(layAt c off vs j)[k]?=if off+j<=k/\k<off+j+vs.length then vs[k-(off+j)]? else c[k]?
 | [],c,off,j,k,_=>by simp [layAt];omega
 | v::vs,c,off,j,k,h=>by
  simp only [List.length_cons] at h
  simp only [layAt]
  rw [layAt_get vs _ off (j+1) k (by simp;omega)]
  by_cases e:k=off+j
  ·subst e
   rw [if_neg (by omega),if_pos (by simp)]
   rw [Array.getElem?_setIfInBounds_self_of_lt (by omega)]
   simp
  ·by_cases h1:off+(j+1)<=k/\k<off+(j+1)+vs.length
   ·rw [if_pos h1,if_pos (by simp;omega)]
    have:k-(off+j)=(k-(off+(j+1)))+1:=by omega
    rw [this,List.getElem?_cons_succ]
   ·rw [if_neg h1,if_neg (by simp;omega),Array.getElem?_setIfInBounds_ne (by omega)]
theorem layAt_list (vs:List Value) (c:Array Value) (off:Nat) (h:off+vs.length<=c.size):(layAt c off vs 0).toList=c.toList.take off++vs++c.toList.drop (off+vs.length):=by
 apply List.ext_getElem?
 intro k
 have hg:=layAt_get vs c off 0 k (by omega)
 rw [Array.getElem?_toList,hg]
 have hl:(c.toList.take off).length=off:=by simp;omega
 by_cases h1:k<off
 ·rw [if_neg (by omega),List.append_assoc,List.getElem?_append_left (by omega),List.getElem?_take,if_pos h1,Array.getElem?_toList]
 ·by_cases h2:k<off+vs.length
  ·rw [if_pos (by omega),List.append_assoc,List.getElem?_append_right (by omega),List.getElem?_append_left (by omega),hl];rfl
  ·rw [if_neg (by omega),List.append_assoc,List.getElem?_append_right (by omega),List.getElem?_append_right (by omega),hl,List.getElem?_drop,Array.getElem?_toList]
   congr 1;omega
def setAtL (off:Nat) (vs cs:List Value):List Value:=cs.take off++vs++cs.drop (off+vs.length)
def fillP (f:Fm) (ps:List (Nat×Nat×Operand)):List Value->(List Value->Prop)->Prop:=
 List.rec (motive:=λ _=>List Value->(List Value->Prop)->Prop) (λ cs K=>forceL cs K)
  (λ p _ ih cs K=>forceC (evl f p.2.2) λ vs=>forceL vs.toList λ vl=>
   bif (Nat.beq vl.length p.2.1 && Nat.ble (p.1+vl.length) cs.length) then forceL (setAtL p.1 vl cs) (λ cs'=>ih cs' K) else False) ps
theorem fillP_eq (f:Fm):∀(ps:List (Nat×Nat×Operand)) (cs:List Value) (K:List Value->Prop),fillP f ps cs K=(match fillL f cs.toArray ps with | some c=>K c.toList | none=>False)
 | [],cs,K=>by
  show forceL cs K=_
  rw [forceL_eq];rfl
 | (off,size,x)::r,cs,K=>by
  show (forceC (evl f x) λ vs=>forceL vs.toList λ vl=>bif (Nat.beq vl.length size && Nat.ble (off+vl.length) cs.length) then forceL (setAtL off vl cs) (λ cs'=>fillP f r cs' K) else False)=_
  rw [forceC_eq,forceL_eq,fillL]
  simp only [Array.length_toList,List.size_toArray]
  by_cases h:(evl f x).cells.size=size/\off+(evl f x).cells.size<=cs.length
  ·have e1:(Nat.beq (evl f x).cells.size size && Nat.ble (off+(evl f x).cells.size) cs.length)=true:=by
    rw [Bool.and_eq_true];exact⟨Nat.beq_eq.symm ▸ h.1,Nat.ble_eq.symm ▸ h.2⟩
   rw [e1,cond_true,forceL_eq,fillP_eq f r]
   rw [if_neg (by simp;omega)]
   have e2:=layAt_list (evl f x).cells.toList cs.toArray off (by simpa using h.2)
   have e3:(setAtL off (evl f x).cells.toList cs).toArray=layAt cs.toArray off (evl f x).cells.toList 0:=by
    apply Array.ext'
    rw [e2];rfl
   rw [e3]
  ·have e1:(Nat.beq (evl f x).cells.size size && Nat.ble (off+(evl f x).cells.size) cs.length)=false:=by
    rw [Bool.and_eq_false_iff]
    by_cases h1:(evl f x).cells.size=size
    ·right;rw [Bool.eq_false_iff];intro h2;exact h ⟨h1,Nat.le_of_ble_eq_true h2⟩
    ·left;rw [Bool.eq_false_iff];intro h2;exact h1 (Nat.eq_of_beq_eq_true h2)
   rw [e1,cond_false,if_pos]
   simp;omega
def OX (S:Sys P T):O->Fm->(Value->View T->Prop)->View T->Prop
 | .mv x,f,K,Z=>force (evl f x) λ v=>K v Z
 | .pick c a b,f,K,Z=>match evl f c with
  | .bool true=>force (evl f a) λ v=>K v Z
  | .bool false=>force (evl f b) λ v=>K v Z
  | _=>False
 | .add x y,f,K,Z=>match evl f x,evl f y with | .int .i64 a,.int .i64 b=>InR (a+b)/\K (.int .i64 (a+b)) Z | _,_=>False
 | .sub x y,f,K,Z=>match evl f x,evl f y with | .int .i64 a,.int .i64 b=>InR (a-b)/\K (.int .i64 (a-b)) Z | _,_=>False
 | .mul x y,f,K,Z=>match evl f x,evl f y with | .int .i64 a,.int .i64 b=>InR (a*b)/\K (.int .i64 (a*b)) Z | _,_=>False
 | .cmp op x y,f,K,Z=>match evl f x,evl f y with
  | .int k a,.int k' b=>k=k'/\(match op with
   | .eql=>K (.bool (a == b)) Z | .neq=>K (.bool (a != b)) Z | .lss=>K (.bool (decide (a<b))) Z
   | .leq=>K (.bool (decide (a<=b))) Z | .gtr=>K (.bool (decide (a > b))) Z | .geq=>K (.bool (decide (a ≥ b))) Z | _=>False)
  | _,_=>False
 | .beq op x y,f,K,Z=>match evl f x,evl f y with
  | .bool a,.bool b=>(match op with | .eql=>K (.bool (a == b)) Z | .neq=>K (.bool (!(a == b))) Z | _=>False)
  | _,_=>False
 | .ar op x y,f,K,Z=>match evl f x,evl f y with
  | .int k a,.int k' b=>(match op with
   | .add=>k=k'/\K (.int k (k.wrap (a+b))) Z | .sub=>k=k'/\K (.int k (k.wrap (a-b))) Z | .mul=>k=k'/\K (.int k (k.wrap (a*b))) Z
   | .quo=>k=k'/\b≠0/\K (.int k (k.wrap (a.tdiv b))) Z | .rem=>k=k'/\b≠0/\K (.int k (a.tmod b)) Z
   | .and=>k=k'/\K (.int k (k.wrap (BitVec.ofInt k.bits a &&& BitVec.ofInt k.bits b).toNat)) Z
   | .or=>k=k'/\K (.int k (k.wrap (BitVec.ofInt k.bits a ||| BitVec.ofInt k.bits b).toNat)) Z
   | .xor=>k=k'/\K (.int k (k.wrap (BitVec.ofInt k.bits a ^^^ BitVec.ofInt k.bits b).toNat)) Z
   | .andNot=>k=k'/\K (.int k (k.wrap (BitVec.ofInt k.bits a &&& ~~~ BitVec.ofInt k.bits b).toNat)) Z
   | .shl=>0<=b/\K (.int k (k.wrap (a*2 ^ (min b.toNat k.bits)))) Z
   | .shr=>0<=b/\K (.int k (a.fdiv (2 ^ (min b.toNat k.bits)))) Z
   | _=>False)
  | _,_=>False
 | .teq op x y,f,K,Z=>match evl f x,evl f y with
  | .string a,.string b=>(match op with | .eql=>K (.bool (a.toList == b.toList)) Z | .neq=>K (.bool (!(a.toList == b.toList))) Z | _=>False)
  | _,_=>False
 | .not x,f,K,Z=>match evl f x with | .bool b=>K (.bool (!b)) Z | _=>False
 | .len x,f,K,Z=>match evl f x with | .slice _ n _=>K (.int .i64 n) Z | _=>False
 | .lenT x,f,K,Z=>match evl f x with | .string s=>K (.int .i64 s.size) Z | _=>False
 | .lenM x,f,K,Z=>match evl f x with
  | .map none=>K (.int .i64 0) Z
  | .map (some r)=>∃es clock,Z.has r (.map es clock)/\K (.int .i64 es.size) Z
  | _=>False
 | .conv k x,f,K,Z=>match evl f x with | .int _ n=>K (.int k (k.wrap n)) Z | _=>False
 | .off n x,f,K,Z=>match evl f x with | .pointer (some a)=>K (.pointer (some (a.add n))) Z | _=>False
 | .idx sz x i,f,K,Z=>match evl f x,evl f i with
  | .slice a len _,.int _ n=>∃(ad:Addr) (j:Nat),(a=some ad/\n=j/\j<len)/\K (.pointer (some (ad.add (j*sz)))) Z
  | _,_=>False
 | .aidx len sz x i,f,K,Z=>match evl f x,evl f i with
  | .pointer (some a),.int _ n=>∃j:Nat,(n=j/\j<len)/\K (.pointer (some (a.add (j*sz)))) Z
  | _,_=>False
 | .sidx x i,f,K,Z=>match evl f x,evl f i with
  | .string s,.int _ n=>∃(j:Nat) (b:UInt8),(n=j/\s[j]?=some b)/\K (.int .u8 b.toNat) Z
  | _,_=>False
 | .ld x,f,K,Z=>match evl f x with | .pointer (some a)=>∃v,Z.sees a v/\force v λ v=>K v Z | _=>False
 | .ldn n x,f,K,Z=>match evl f x with | .pointer (some a)=>∃vs:List Value,(vs.length=n/\Reads Z a vs)/\K (.agg vs.toArray) Z | _=>False
 | .st n x v,f,K,Z=>match evl f x with | .pointer (some a)=>(evl f v).cells.size=n/\StV a (evl f v).cells.toList 0 (λ Z'=>∃Z1,Shift Z' Z1/\K undef Z1) Z | _=>False
 | .box _ x,f,K,Z=>forceC (evl f x) λ cs=>∀b Z1,Z.le Z1->Blk Z1 b cs->K (.pointer (some ⟨b,0,none⟩)) Z1
 | .boxM t x,f,K,Z=>∀b,Z.free b->K (.pointer (some ⟨b,0,none⟩)) (Z.put b (.cells (evl f x).cells t))
 | .alloc t zero,_,K,Z=>∀b,Z.free b->∃Z1,Shift (Z.put b (.cells zero t)) Z1/\K (.pointer (some ⟨b,0,none⟩)) Z1
 | .ext x i,f,K,Z=>match evl f x with | .tuple vs=>(match vs[i]? with | some v=>force v λ v=>K v Z | none=>False) | _=>False
 | .part off n x,f,K,Z=>match evl f x with | .agg cs=>K (.agg ((cs.toList.drop off).take n).toArray) Z | _=>False
 | .part1 off x,f,K,Z=>match evl f x with | .agg cs=>(match cs[off]? with | some v=>force v λ v=>K v Z | none=>False) | _=>False
 | .mkf fn first capt,f,K,Z=>forceL (first.toList.map (evl f)) λ a=>forceL (capt.toList.map (evl f)) λ c=>K (.func fn a.toArray c.toArray) Z
 | .call c args,f,K,Z=>match evl f c with
  | .func (.func g) first capt=>(P.funcs[g]?.any λ fd=>fd.body.isSome && fd.name != "runtime.NumGoroutine")=true/\forceL (args.toList.map (evl f)) λ vs=>CallsV S g (first.toList++vs++capt.toList).toArray (λ v Z'=>Sep Z'->K v Z') Z
  | .func (.yield l) first _=>forceL (args.toList.map (evl f)) λ vs=>YieldV S l (first.toList++vs) K Z
  | _=>False
 | .nilc x,f,K,Z=>match evl f x with | .pointer (some a)=>K (.pointer (some a)) Z | _=>False
 | .sub3 sz x lo hi,f,K,Z=>match evl f x with
  | .slice a len cap=>(match subBounds len (lo.map (evl f)) (hi.map (evl f)) with
   | some (li,hi)=>∃l h:Nat,(li=l/\hi=h/\l<=h/\h<=cap)/\K (.slice (if cap=l then a else a.map (·.add (l*sz))) (h-l) (cap-l)) Z
   | none=>False)
  | _=>False
 | .build zero parts,f,K,Z=>fillP f parts zero.toList λ l=>K (.agg l.toArray) Z
 | .bsl t len zero parts,f,K,Z=>fillP f parts zero.toList λ l=>∀b,Z.free b->∃Z1,Shift (Z.put b (.cells l.toArray t)) Z1/\K (.slice (some ⟨b,0,none⟩) len len) Z1
 | .raw o,f,K,Z=>∀a:Act,(∀x,a.eval x=evl f x)->SemV P (execOp a.eval o) (NextQ S λ v Z'=>∃Z1,Shift Z' Z1/\K v Z1) Z
theorem sem_bind_pure {α:Type} (s:Sem α):s.bind Sem.pure=s:=by
 induction s with
 | pure a=>rfl
 | load m a k ih=>simp only [Sem.bind];congr 1;funext v;exact ih v
 | store m a v k ih=>simp only [Sem.bind,ih]
 | new o k ih=>simp only [Sem.bind];congr 1;funext v;exact ih v
 | shape r k ih=>simp only [Sem.bind];congr 1;funext v;exact ih v
 | freeze a n k ih=>simp only [Sem.bind,ih]
 | frozen a k ih=>simp only [Sem.bind];congr 1;funext v;exact ih v
 | getObj r k ih=>simp only [Sem.bind];congr 1;funext v;exact ih v
 | setObj r o k ih=>simp only [Sem.bind,ih]
 | choose q k ih=>simp only [Sem.bind];congr 1;funext v;exact ih v
 | sys c k ih=>simp only [Sem.bind];congr 1;funext v;exact ih v
 | program k ih=>simp only [Sem.bind];congr 1;funext v;exact ih v
 | mark m k ih=>simp only [Sem.bind,ih]
 | halt h=>rfl
theorem sem_bind_assoc {α β γ:Type} (s:Sem α) (g:α->Sem β) (h:β->Sem γ):(s.bind g).bind h=s.bind λ a=>(g a).bind h:=by
 induction s with
 | pure a=>rfl
 | load m a k ih=>simp only [Sem.bind];congr 1;funext v;exact ih v
 | store m a v k ih=>simp only [Sem.bind,ih]
 | new o k ih=>simp only [Sem.bind];congr 1;funext v;exact ih v
 | shape r k ih=>simp only [Sem.bind];congr 1;funext v;exact ih v
 | freeze a n k ih=>simp only [Sem.bind,ih]
 | frozen a k ih=>simp only [Sem.bind];congr 1;funext v;exact ih v
 | getObj r k ih=>simp only [Sem.bind];congr 1;funext v;exact ih v
 | setObj r o k ih=>simp only [Sem.bind,ih]
 | choose q k ih=>simp only [Sem.bind];congr 1;funext v;exact ih v
 | sys c k ih=>simp only [Sem.bind];congr 1;funext v;exact ih v
 | program k ih=>simp only [Sem.bind];congr 1;funext v;exact ih v
 | mark m k ih=>simp only [Sem.bind,ih]
 | halt h=>rfl
theorem sem_lawful:LawfulMonad Sem:=LawfulMonad.mk' Sem (id_map:=λ s=>sem_bind_pure s) (pure_bind:=λ _ _=>rfl) (bind_assoc:=λ s g h=>sem_bind_assoc s g h)
def listM {α β:Type} (g:α->Sem β):List α->Array β->Sem (Array β)
 | [],acc=>pure acc
 | x::r,acc=>do let y <- g x;listM g r (acc.push y)
theorem listM_eq {α β:Type} (g:α->Sem β):∀(l:List α) (acc:Array β),listM g l acc=(do let r <- l.mapM g;pure (acc++r.toArray)):=by
 have:=sem_lawful
 intro l
 induction l with
 | nil=>intro acc;simp [listM]
 | cons x l ih=>intro acc;simp [listM,ih,List.mapM_cons]
theorem mapM_eq {α β:Type} (g:α->Sem β) (l:List α):Array.mapM g l.toArray=listM g l #[]:=by
 have:=sem_lawful
 rw [listM_eq]
 simp
theorem sv_bind {α β:Type} (s:Sem α) (g:α->Sem β) (Q:β->View T->Prop) (Z:View T):SemV P (s >>= g) Q Z=SemV P s (λ a Z=>SemV P (g a) Q Z) Z:=propext (SemV_bind s g)
theorem sv_pure {α:Type} (a:α) (Q:α->View T->Prop) (Z:View T):SemV P (pure a:Sem α) Q Z=Q a Z:=rfl
theorem sv_und {t:TypeId} {d:TypeDesc} (h:P.underlying t=some d) (Q:TypeDesc->View T->Prop) (Z:View T):SemV P (underlying t) Q Z=Q d Z:=by
 simp only [underlying,program,sv_bind,SemV,h,sv_pure]
theorem sv_info {t:TypeId} {i:TypeInfo} (h:P.info? t=some i) (Q:TypeInfo->View T->Prop) (Z:View T):SemV P (typeInfo t) Q Z=Q i Z:=by
 simp only [typeInfo,program,sv_bind,SemV,h,sv_pure]
theorem sv_size {t:TypeId} {i:TypeInfo} (h:P.info? t=some i) (Q:Nat->View T->Prop) (Z:View T):SemV P (sizeOf t) Q Z=Q i.size Z:=by
 simp only [sizeOf,sv_bind,sv_info h,sv_pure]
def TypeDesc.agg:TypeDesc->Bool
 | .struct _ | .array _ _=>true
 | _=>false
theorem sv_agg {t:TypeId} {d:TypeDesc} (h:P.underlying t=some d) (Q:Bool->View T->Prop) (Z:View T):SemV P (isAgg t) Q Z=Q (TypeDesc.agg d) Z:=by
 simp only [isAgg,sv_bind,sv_und h]
 cases d <;> rfl
theorem sv_zero {t:TypeId} {i:TypeInfo} {v:Value} (h:P.info? t=some i) (hz:i.zero=some v) (Q:Value->View T->Prop) (Z:View T):SemV P (zeroValue t) Q Z=Q v Z:=by
 simp only [zeroValue,sv_bind,sv_info h,hz,sv_pure]
theorem sv_load {a:Addr} {v:Value} {Q:Value->View T->Prop} {Z:View T} (h:Z.sees a v) (hq:Q v Z):SemV P (load a) Q Z:=⟨rfl,v,h,hq⟩
theorem sv_loadCells {a:Addr} {Q:Array Value->View T->Prop} {Z:View T}:∀(vs:List Value) (i:Nat) (acc:Array Value),(∀j v,vs[j]?=some v->Z.sees (a.add (i+j)) v)->Q (acc++vs.toArray) Z ->
  SemV P (loadCellsFrom a i vs.length acc) Q Z
 | [],i,acc,_,hq=>by simpa [loadCellsFrom,sv_pure] using hq
 | v::vs,i,acc,h,hq=>by
  simp only [List.length_cons,loadCellsFrom,sv_bind]
  refine sv_load (h 0 v rfl) (sv_loadCells vs (i+1) (acc.push v) (λ j u hj=>?_) ?_)
  ·have:=h (j+1) u hj
   rwa [show i+(j+1)=i+1+j by omega] at this
  ·have e:acc.push v++vs.toArray=acc++(v::vs).toArray:=by apply Array.ext';simp
   rw [e];exact hq
theorem sv_storeCells {a:Addr} {Q:Unit->View T->Prop}:∀(vs:List Value) (i:Nat) (Z:View T),StV a vs i (λ Z'=>Q () Z') Z->SemV P (storeCells a vs i) Q Z
 | [],_,_,h=>h
 | v::vs,i,Z,h=>by
  obtain⟨hv,M',hu,h⟩:=h
  simp only [storeCells,sv_bind,store]
  exact⟨rfl,hv,M',hu,sv_storeCells vs (i+1) _ h⟩
theorem sv_new_freeze {t:TypeId} {c:Array Value} {Q:Addr->View T->Prop} {Z:View T} (h:∀b,Z.free b->Q ⟨b,0,none⟩ (Z.put b (.cells c t))):SemV P (newRow t c) Q Z:=by
 simp only [newRow,newObj,sv_bind,SemV,sv_pure]
 exact h
def rawOf (o:Oper):Oper:={ dst:=none,op:=o.op,type:=o.type,pos := "", after:=#[],guard:=none }
def isCmp:BinOp->Bool
 | .eql | .neq | .lss | .leq | .gtr | .geq=>true
 | _=>false
def cleanBin (P:Program) (o:Oper) (op:BinOp) (t:TypeId) (x y:Operand):O:=
 match P.underlying t with
 | some (.int k)=>
  if isCmp op then .cmp op x y
  else match k,op with
   | .i64,.add=>.add x y
   | .i64,.sub=>.sub x y
   | .i64,.mul=>.mul x y
   | _,_=>.ar op x y
 | some .bool=>.beq op x y
 | some .string=>(match op with | .eql=>.teq op x y | .neq=>.teq op x y | _=>.raw (rawOf o))
 | _=>.raw (rawOf o)
def sizeAt (P:Program) (t:TypeId):Option Nat:=(P.info? t).map (·.size)
def zeroAt (P:Program) (t:TypeId):Option Value:=(P.info? t).bind (·.zero)
def cleanOp (P:Program) (mu:List Nat) (o:Oper):O:=
 match o.op with
 | .move x | .assign x=>.mv x
 | .pick c a b=>.pick c a b
 | .binOp op t x y _=>cleanBin P o op t x y
 | .unOp .not _ x=>.not x
 | .call { callee:=.value c,args,.. }=>.call c args
 | .call { callee:=.builtin .len,args,argTypes }=>
  (match args,argTypes with
  | ⟨[x]⟩,⟨[t]⟩=>(match P.underlying t with | some (.slice _)=>.len x | some .string=>.lenT x | some (.map _ _)=>.lenM x | _=>.raw (rawOf o))
  | _,_=>.raw (rawOf o))
 | .convert src dst x=>(match P.underlying src,P.underlying dst with | some (.int _),some (.int k)=>.conv k x | _,_=>.raw (rawOf o))
 | .fieldAddr s x i=>(match P.underlying s with
  | some (.struct fs)=>(match fs[i]? with
   | some fd=>(match sizeAt P fd.type with | some (_+1)=>.off fd.offset x | _=>.raw (rawOf o))
   | none=>.raw (rawOf o))
  | _=>.raw (rawOf o))
 | .indexAddr t x i=>(match P.underlying t with
  | some (.slice e)=>(match sizeAt P e with | some n=>.idx n x i | none=>.raw (rawOf o))
  | some (.array len e)=>(match sizeAt P e with | some n=>if len<=1 then .raw (rawOf o) else .aidx len n x i | none=>.raw (rawOf o))
  | _=>.raw (rawOf o))
 | .index t x i=>(match P.underlying t with | some .string=>.sidx x i | _=>.raw (rawOf o))
 | .load t x=>(match P.underlying t with
  | some d=>if TypeDesc.agg d then (match sizeAt P t with | some n=>.ldn n x | none=>.raw (rawOf o)) else .ld x
  | none=>.raw (rawOf o))
 | .store t x v=>(match sizeAt P t with | some n=>.st n x v | none=>.raw (rawOf o))
 | .box t x=>(match o.dst with | some d=>if mu.contains d then .boxM t x else .box t x | none=>.boxM t x)
 | .alloc t=>(match zeroAt P t with | some z=>.alloc t z.cells | none=>.raw (rawOf o))
 | .extract x i=>.ext x i
 | .field t x i=>(match P.underlying t with
  | some (.struct fs)=>(match fs[i]? with
   | some fd=>(match P.underlying fd.type with
    | some d=>if TypeDesc.agg d then (match sizeAt P fd.type with | some n=>.part fd.offset n x | none=>.raw (rawOf o)) else .part1 fd.offset x
    | none=>.raw (rawOf o))
   | none=>.raw (rawOf o))
  | _=>.raw (rawOf o))
 | .makeFunc fn first capt=>.mkf fn first capt
 | .nilCheck x=>.nilc x
 | .build t parts=>(match P.underlying t,zeroAt P t with
  | some (.struct fs),some z=>if fs.toList.all (λ fd=>(sizeAt P fd.type).isSome) then
    (match parts.toList.mapM (λ p=>(fs[p.1]?).map λ fd=>(fd.offset,(sizeAt P fd.type).getD 0,p.2)) with
    | some ps=>.build z.cells ps
    | none=>.raw (rawOf o)) else .raw (rawOf o)
  | _,_=>.raw (rawOf o))
 | .buildSlice t len parts=>(match P.underlying t with
  | some (.slice e)=>(match sizeAt P e,zeroAt P e with
   | some n,some z=>if len*n<=2 ^ 24 then .bsl e len (if len*n=0 then #[] else (Array.range (len*n)).map (z.cells[· % z.cells.size]!)) (parts.toList.map λ p=>(p.1*n,n,p.2)) else .raw (rawOf o)
   | _,_=>.raw (rawOf o))
  | _=>.raw (rawOf o))
 | .slice t x lo hi none=>(match P.underlying t with | some (.slice e)=>(match sizeAt P e with | some n=>.sub3 n x lo hi | none=>.raw (rawOf o)) | _=>.raw (rawOf o))
 | _=>.raw (rawOf o)
theorem sizeAt_info {t:TypeId} {n:Nat} (h:sizeAt P t=some n):∃i,P.info? t=some i/\i.size=n:=by
 simpa [sizeAt] using h
theorem zeroAt_info {t:TypeId} {z:Value} (h:zeroAt P t=some z):∃i,P.info? t=some i/\i.zero=some z:=by
 simpa [zeroAt,Option.bind_eq_some_iff] using h
section
variable {f:Fm} {K:Value->View T->Prop} {Z:View T}
theorem guard_int {op:BinOp} {t:TypeId} {x y:Operand} {k k':IntKind} {a b:Int} {Q:Unit->View T->Prop} (h:Q () Z):SemV P (eqGuard op t x y (.int k a) (.int k' b)) Q Z:=by
 cases op <;> exact h
theorem guard_bool {op:BinOp} {t:TypeId} {x y:Operand} {a b:Bool} {Q:Unit->View T->Prop} (h:Q () Z):SemV P (eqGuard op t x y (.bool a) (.bool b)) Q Z:=by
 cases op <;> exact h
theorem guard_str {op:BinOp} {t:TypeId} {x y:Operand} {a b:ByteArray} {Q:Unit->View T->Prop} (h:Q () Z):SemV P (eqGuard op t x y (.string a) (.string b)) Q Z:=by
 cases op <;> exact h
theorem ox_cmp {op:BinOp} {t:TypeId} {x y:Operand} (h:OX S (.cmp op x y) f K Z):SemV P (do eqGuard op t x y (evl f x) (evl f y);binOp op t (evl f x) (evl f y)) K Z:=by
 simp only [OX] at h
 cases hx:evl f x <;> simp only [hx] at h <;> try exact h.elim
 cases hy:evl f y <;> simp only [hy] at h <;> try exact h.elim
 obtain⟨rfl,h⟩:=h
 rw [sv_bind]
 refine guard_int ?_
 cases op <;> first | exact h.elim | simpa [binOp,Op.intCmp,sv_pure] using h
theorem ox_add {t:TypeId} {x y:Operand} (h:OX S (.add x y) f K Z):SemV P (do eqGuard .add t x y (evl f x) (evl f y);binOp .add t (evl f x) (evl f y)) K Z:=by
 simp only [OX] at h
 split at h
 ·rename_i a b e1 e2
  rw [e1,e2,sv_bind]
  refine guard_int ?_
  simpa [binOp,Op.intArith,sv_pure,wrap_inR h.1] using h.2
 ·exact h.elim
theorem ox_sub {t:TypeId} {x y:Operand} (h:OX S (.sub x y) f K Z):SemV P (do eqGuard .sub t x y (evl f x) (evl f y);binOp .sub t (evl f x) (evl f y)) K Z:=by
 simp only [OX] at h
 split at h
 ·rename_i a b e1 e2
  rw [e1,e2,sv_bind]
  refine guard_int ?_
  simpa [binOp,Op.intArith,sv_pure,wrap_inR h.1] using h.2
 ·exact h.elim
theorem ox_mul {t:TypeId} {x y:Operand} (h:OX S (.mul x y) f K Z):SemV P (do eqGuard .mul t x y (evl f x) (evl f y);binOp .mul t (evl f x) (evl f y)) K Z:=by
 simp only [OX] at h
 split at h
 ·rename_i a b e1 e2
  rw [e1,e2,sv_bind]
  refine guard_int ?_
  simpa [binOp,Op.intArith,sv_pure,wrap_inR h.1] using h.2
 ·exact h.elim
theorem sv_eqBool {t:TypeId} (ht:P.underlying t=some .bool) (a b:Bool) (Q:Bool->View T->Prop) (Z:View T):SemV P (Op.equal t (.bool a) (.bool b)) Q Z=Q (a == b) Z:=by
 have e:Op.equal t (.bool a) (.bool b)=Op.equalIn (9999+1) t (.bool a) (.bool b):=rfl
 rw [e,Op.equalIn,sv_bind,sv_und ht]
 rfl
theorem ox_beq {op:BinOp} {t:TypeId} {x y:Operand} (ht:P.underlying t=some .bool) (h:OX S (.beq op x y) f K Z):SemV P (do eqGuard op t x y (evl f x) (evl f y);binOp op t (evl f x) (evl f y)) K Z:=by
 simp only [OX] at h
 split at h
 ·rename_i a b e1 e2
  rw [e1,e2,sv_bind]
  refine guard_bool ?_
  cases op <;> first | exact h.elim | (simp only [binOp,sv_bind,sv_eqBool ht,sv_pure];exact h)
 ·exact h.elim
theorem ox_teq {op:BinOp} {t:TypeId} {x y:Operand} (h:OX S (.teq op x y) f K Z):SemV P (do eqGuard op t x y (evl f x) (evl f y);binOp op t (evl f x) (evl f y)) K Z:=by
 simp only [OX] at h
 split at h
 ·rename_i a b e1 e2
  rw [e1,e2,sv_bind]
  refine guard_str ?_
  cases op <;> first | exact h.elim | simpa [binOp,Op.stringOp,sv_pure] using h
 ·exact h.elim
theorem ox_ar {op:BinOp} {t:TypeId} {x y:Operand} (h:OX S (.ar op x y) f K Z):SemV P (do eqGuard op t x y (evl f x) (evl f y);binOp op t (evl f x) (evl f y)) K Z:=by
 simp only [OX] at h
 split at h
 ·rename_i k a k' b e1 e2
  rw [e1,e2,sv_bind]
  refine guard_int ?_
  cases op <;> simp only [] at h <;> first
   | exact h.elim
   | (obtain⟨rfl,hb,h⟩:=h;simpa [binOp,Op.intDiv,hb,sv_pure] using h)
   | (obtain⟨rfl,h⟩:=h;simpa [binOp,Op.intArith,Op.intBits,sv_pure] using h)
   | (obtain⟨hb,h⟩:=h;simpa [binOp,Op.shift,Int.not_lt.2 hb,sv_pure] using h)
 ·exact h.elim
theorem nq' {s:Sem Value} (h:SemV P s K Z):SemV P (s >>= λ v=>pure (Next.value v)) (NextQ S K) Z:=by rw [sv_bind];exact h
theorem ox_call {c:Operand} {args:Array Operand} {ats:Array TypeId} {ty:TypeId} {ρ:Operand->Value} (hρ:∀x,ρ x=evl f x) (h:OX S (.call c args) f K Z) :
  SemV P (do let d <- resolve ρ { callee:=.value c,args:=args,argTypes:=ats } ty;invoke d.target d.args:Sem Next) (NextQ S K) Z:=by
 simp only [OX] at h
 have hm:args.map ρ=args.map (evl f):=by rw [show ρ=evl f from funext hρ]
 split at h
 ·rename_i g first capt e
  obtain⟨hb,h⟩:=h
  simp only [sv_bind,resolve,hρ,hm,e,Deferred.ofValue,sv_pure,invoke,callFunc,program,SemV]
  cases hg:P.funcs[g]? with
  | none=>simp [hg] at hb
  | some fd=>
   simp only [hg,Option.any_some,Bool.and_eq_true,bne_iff_ne,ne_eq] at hb
   obtain⟨h1,h2⟩:=hb
   have hnone:fd.body.isNone=false:=by cases hbd:fd.body <;> simp_all
   have hname:(fd.name == "runtime.NumGoroutine")=false:=by simpa using h2
   simp only [hname,hnone,Bool.false_eq_true,if_false,sv_pure,NextQ]
   rw [forceL_eq] at h
   have e:(first++Array.map (evl f) args)++capt=(first.toList++args.toList.map (evl f)++capt.toList).toArray:=by apply Array.ext';simp
   rw [e]
   exact h.sep λ v Z' hs hk=>⟨Z',.refl _,hk hs⟩
 ·rename_i l first capt e
  rw [forceL_eq] at h
  simp only [sv_bind,resolve,hρ,hm,e,Deferred.ofValue,sv_pure,invoke]
  have e:first++Array.map (evl f) args=(first.toList++args.toList.map (evl f)).toArray:=by apply Array.ext';simp
  rw [e]
  exact h
 ·exact h.elim
theorem sb_some {k:IntKind} {i:Int} {y n:Nat} {code:BoundsCode} (hi:i=n) (h:n<=y) {Q:Nat->View T->Prop} (hq:Q n Z):SemV P (Instr.sliceBound (.int k i) y code) Q Z:=by
 subst hi
 unfold Instr.sliceBound
 rw [sv_bind]
 show SemV P (if 0<=(n:Int)/\(n:Int)<=y then pure (n:Int).toNat else boundsPanic k n y code) Q Z
 rw [if_pos (by omega)]
 exact hq
theorem sb1 {len cap:Nat} {Q:Nat×Nat×Nat->View T->Prop} (hq:Q (0,len,cap) Z):SemV P (Instr.sliceBounds true len cap none none none) Q Z:=by
 unfold Instr.sliceBounds
 simp only [sv_bind,sv_pure]
 exact hq
theorem sb2 {len cap l:Nat} {k:IntKind} {i:Int} (hi:i=l) (h:l<=len) {Q:Nat×Nat×Nat->View T->Prop} (hq:Q (l,len,cap) Z):SemV P (Instr.sliceBounds true len cap (some (.int k i)) none none) Q Z:=by
 unfold Instr.sliceBounds
 simp only [sv_bind,sv_pure]
 exact sb_some hi h hq
theorem sb3 {len cap h:Nat} {k:IntKind} {i:Int} (hi:i=h) (hh:h<=cap) {Q:Nat×Nat×Nat->View T->Prop} (hq:Q (0,h,cap) Z):SemV P (Instr.sliceBounds true len cap none (some (.int k i)) none) Q Z:=by
 unfold Instr.sliceBounds
 simp only [sv_bind,sv_pure]
 exact sb_some hi hh hq
theorem sb4 {len cap l h:Nat} {k k':IntKind} {i i':Int} (hi:i=l) (hi':i'=h) (h1:l<=h) (hh:h<=cap) {Q:Nat×Nat×Nat->View T->Prop} (hq:Q (l,h,cap) Z):SemV P (Instr.sliceBounds true len cap (some (.int k i)) (some (.int k' i')) none) Q Z:=by
 unfold Instr.sliceBounds
 simp only [sv_bind,sv_pure]
 exact sb_some hi' hh (sb_some hi h1 hq)
theorem slice_bounds {len cap l hn:Nat} {lo hi:Option Value} (hsb:subBounds len lo hi=some ((l:Int),(hn:Int))) (h2:l<=hn) (h3:hn<=cap) {Q:Nat×Nat×Nat->View T->Prop} (hq:Q (l,hn,cap) Z) :
  SemV P (Instr.sliceBounds true len cap lo hi none) Q Z:=by
 unfold subBounds at hsb
 split at hsb
 ·simp only [Option.some.injEq,Prod.mk.injEq] at hsb
  obtain⟨e1,e2⟩:=hsb
  have e1':l=0:=by omega
  have e2':hn=len:=by omega
  subst e1';subst e2'
  exact sb1 hq
 ·simp only [Option.some.injEq,Prod.mk.injEq] at hsb
  obtain⟨e1,e2⟩:=hsb
  have e2':hn=len:=by omega
  subst e2'
  exact sb2 e1 h2 hq
 ·simp only [Option.some.injEq,Prod.mk.injEq] at hsb
  obtain⟨e1,e2⟩:=hsb
  have e1':l=0:=by omega
  subst e1'
  exact sb3 e2 h3 hq
 ·simp only [Option.some.injEq,Prod.mk.injEq] at hsb
  exact sb4 hsb.1 hsb.2 h2 h3 hq
 ·cases hsb
theorem ox_sub3 {t e:TypeId} {n:Nat} {x:Operand} {lo hi:Option Operand} (hu:P.underlying t=some (.slice e)) (hs:sizeAt P e=some n) (h:OX S (.sub3 n x lo hi) f K Z) :
  SemV P (Instr.sliceAt t (evl f x) (lo.map (evl f)) (hi.map (evl f)) none) K Z:=by
 obtain⟨inf,hi',hsz⟩:∃i,P.info? e=some i/\i.size=n:=by simpa [sizeAt] using hs
 simp only [OX] at h
 split at h
 ·rename_i sa len cap e1
  split at h
  ·rename_i li hh hsb
   obtain⟨l,hn,⟨rfl,rfl,h2,h3⟩,h⟩:=h
   simp only [e1,Instr.sliceAt,Instr.slice,sv_bind,sv_und hu]
   refine slice_bounds hsb h2 h3 ?_
   simp only [sv_size hi',hsz,sv_pure]
   exact h
  ·exact h.elim
 ·exact h.elim
theorem ox_idx {t e:TypeId} {n:Nat} {x i:Operand} (hu:P.underlying t=some (.slice e)) (hs:sizeAt P e=some n) (h:OX S (.idx n x i) f K Z):SemV P (Instr.indexAt t (evl f x) (evl f i)) K Z:=by
 obtain⟨inf,hi',hsz⟩:∃i,P.info? e=some i/\i.size=n:=by simpa [sizeAt] using hs
 simp only [OX] at h
 split at h
 ·rename_i aa len cap k m e1 e2
  obtain⟨ad,j,⟨rfl,rfl,hb⟩,h⟩:=h
  have hb':(0:Int)<=(j:Int)/\(j:Int)<(len:Int):=by omega
  simp only [e1,e2,Instr.indexAt,asIntOf,sv_bind,sv_pure,sv_und hu]
  rw [if_pos hb']
  simp only [sv_bind,sv_size hi',hsz,sv_pure,Int.toNat_natCast]
  exact h
 ·exact h.elim
theorem ox_aidx {t e:TypeId} {len n:Nat} {x i:Operand} (hu:P.underlying t=some (.array len e)) (hs:sizeAt P e=some n) (h:OX S (.aidx len n x i) f K Z):SemV P (Instr.indexAt t (evl f x) (evl f i)) K Z:=by
 obtain⟨inf,hi',hsz⟩:∃i,P.info? e=some i/\i.size=n:=by simpa [sizeAt] using hs
 simp only [OX] at h
 split at h
 ·rename_i ad k m e1 e2
  obtain⟨j,⟨rfl,hb⟩,h⟩:=h
  have hb':(0:Int)<=(j:Int)/\(j:Int)<(len:Int):=by omega
  simp only [e1,e2,Instr.indexAt,asIntOf,sv_bind,sv_pure,sv_und hu,Instr.sureAddr]
  rw [if_pos hb']
  simp only [sv_bind,sv_size hi',hsz,sv_pure,Int.toNat_natCast]
  exact h
 ·exact h.elim
theorem ox_sidx {t:TypeId} {x i:Operand} (hu:P.underlying t=some .string) (h:OX S (.sidx x i) f K Z):SemV P (Instr.index t (evl f x) (evl f i)) K Z:=by
 simp only [OX] at h
 split at h
 ·rename_i s k n e1 e2
  obtain⟨j,b,⟨rfl,hs⟩,h⟩:=h
  simp only [e1,e2,Instr.index,asIntOf,sv_bind,sv_pure,sv_und hu]
  rw [if_pos (by omega),Int.toNat_natCast,hs]
  exact h
 ·exact h.elim
theorem sv_listM' {α β:Type} (g:α->Sem β) (v:α->β):∀(l:List α) (acc:Array β) (Q:Array β->View T->Prop) (Z:View T),(∀a∈l,∀(Q:β->View T->Prop) Z,SemV P (g a) Q Z=Q (v a) Z)->Q (acc++(l.map v).toArray) Z->SemV P (listM g l acc) Q Z
 | [],acc,Q,Z,_,h=>by simpa [listM,sv_pure] using h
 | x::l,acc,Q,Z,hg,h=>by
  simp only [listM,sv_bind,hg x (List.mem_cons_self ..)]
  refine sv_listM' g v l _ Q Z (λ a ha=>hg a (List.mem_cons_of_mem _ ha)) ?_
  have e:acc.push (v x)++(l.map v).toArray=acc++((x::l).map v).toArray:=by apply Array.ext';simp
  rw [e];exact h
theorem sv_places {fs:Array Field} (hall:fs.toList.all (λ fd=>(sizeAt P fd.type).isSome)=true) {Q:Array (Nat×Nat)->View T->Prop} (h:Q (fs.map λ fd=>(fd.offset,(sizeAt P fd.type).getD 0)) Z) :
  SemV P (fs.mapM λ fd=>do pure (fd.offset,<- sizeOf fd.type)) Q Z:=by
 obtain⟨l⟩:=fs
 rw [mapM_eq]
 refine sv_listM' _ (λ fd=>(fd.offset,(sizeAt P fd.type).getD 0)) l #[] Q Z (λ fd hfd Q Z=>?_) (by simpa using h)
 have:=List.all_eq_true.1 hall fd hfd
 obtain⟨n,hn⟩:=Option.isSome_iff_exists.1 this
 obtain⟨inf,hi,hsz⟩:∃i,P.info? fd.type=some i/\i.size=n:=by simpa [sizeAt] using hn
 simp only [sv_bind,sv_size hi,sv_pure,hn,hsz,Option.getD_some]
theorem layAt_eq:∀(vs:List Value) (cells:Array Value) (off j:Nat),(vs.zipIdx j).foldl (λ cs (p:Value×Nat)=>cs.setIfInBounds (off+p.2) p.1) cells=layAt cells off vs j
 | [],_,_,_=>rfl
 | v::r,cells,off,j=>by simp only [List.zipIdx_cons,List.foldl_cons,layAt];exact layAt_eq r _ off (j+1)
theorem fill_eq (place:Nat->Option (Nat×Nat)) (f:Fm):∀(parts:List (Nat×Operand)) (ps:List (Nat×Nat×Operand)) (cells:Array Value),
  parts.mapM (λ p=>(place p.1).map λ q=>(q.1,q.2,p.2))=some ps->Instr.fill place cells (parts.map λ p=>(p.1,evl f p.2))=fillL f cells ps
 | [],ps,cells,h=>by simp at h;subst h;rfl
 | (i,x)::r,ps,cells,h=>by
  simp only [List.mapM_cons,Option.pure_def,Option.bind_eq_bind,Option.bind_eq_some_iff,Option.map_eq_some_iff] at h
  obtain⟨_,⟨⟨off,size⟩,hp,rfl⟩,ps',hps,e⟩:=h
  cases e
  simp only [List.map_cons,Instr.fill,hp,fillL]
  split
  ·rfl
  ·rw [<- fill_eq place f r ps' _ hps]
   congr 1
   rw [<- layAt_eq,<- Array.foldl_toList,Array.toList_zipIdx]
theorem Reads.cells {a:Addr} {vs:List Value} (h:Reads Z a vs) {Q:Array Value->View T->Prop} (hq:Q vs.toArray Z):SemV P (loadCells a vs.length) Q Z:=
 sv_loadCells vs 0 #[] (λ j v hj=>by simpa using h j v hj) (by simpa using hq)
end
theorem extract_list (cs:Array Value) (off n:Nat):cs.extract off (off+n)=((cs.toList.drop off).take n).toArray:=by
 apply Array.ext'
 simp [Array.toList_extract,List.extract_eq_take_drop]
theorem OX_sound {o:Oper} {mu:List Nat} {a:Act} {f:Fm} (hf:∀x,a.eval x=evl f x) {K:Value->View T->Prop} {Z:View T}
  (hsh:∀v Z Z',Shift Z Z'->K v Z'->K v Z) (h:OX S (cleanOp P mu o) f K Z):OpQ S o a K Z:=by
 obtain⟨dst,op,ty,pos,after,guard⟩:=o
 have raw:∀o:Oper,OX S (.raw (rawOf o)) f K Z->SemV P (execOp a.eval o) (NextQ S K) Z:=λ o h=>SemV.mono _ (h a hf) λ n Z hn=>by
  have hk:∀v (Z:View T),(∃Z1,Shift Z Z1/\K v Z1)->K v Z:=λ v Z ⟨Z1,hs,hk⟩=>hsh v Z Z1 hs hk
  cases n <;> first | exact hk _ _ hn | exact CallsV.mono hn hk | exact RoundV.mono hn hk | exact hn
 unfold OpQ
 cases op with
 | move x=>simp only [cleanOp,OX,force_eq] at h;simp only [execOp,hf,sv_pure,NextQ];exact h
 | assign x=>simp only [cleanOp,OX,force_eq] at h;simp only [execOp,hf,sv_pure,NextQ];exact h
 | pick c x y=>
  simp only [cleanOp,OX] at h
  simp only [execOp,hf]
  split at h
  ·rename_i e;rw [force_eq] at h;simp only [e,sv_bind,asBool,sv_pure,NextQ,if_true];exact h
  ·rename_i e;rw [force_eq] at h;simp only [e,sv_bind,asBool,sv_pure,NextQ,Bool.false_eq_true,if_false];exact h
  ·exact h.elim
 | binOp bop t x y yt=>
  simp only [cleanOp,cleanBin] at h
  simp only [execOp,hf]
  split at h
  ·split at h
   ·exact nq' (ox_cmp h)
   ·split at h
    ·exact nq' (ox_add h)
    ·exact nq' (ox_sub h)
    ·exact nq' (ox_mul h)
    ·exact nq' (ox_ar h)
  ·rename_i e;exact nq' (ox_beq e h)
  ·split at h
   ·exact nq' (ox_teq h)
   ·exact nq' (ox_teq h)
   ·have:=raw _ h;simpa only [execOp,hf] using this
  ·have:=raw _ h;simpa only [execOp,hf] using this
 | unOp uop t x=>
  cases uop with
  | not=>
   simp only [cleanOp,OX] at h
   simp only [execOp,hf]
   split at h
   ·rename_i e;simp only [e];exact nq' h
   ·exact h.elim
  | _=>exact raw _ h
 | call c=>
  obtain⟨callee,args,ats⟩:=c
  cases callee with
  | value g=>exact ox_call hf h
  | invoke r mth=>exact raw _ h
  | builtin b=>
   cases b with
   | len=>
    simp only [cleanOp] at h
    split at h
    ·rename_i x t
     split at h
     ·rename_i e hu
      simp only [OX] at h
      split at h
      ·rename_i e2
       simp only [execOp,sv_bind,resolve,sv_pure,invoke,builtin,Builtin.len_]
       simp only [List.map_toArray,List.map_cons,List.map_nil,hf,e2,List.getElem?_toArray,List.getElem?_cons_zero,sv_bind,sv_und hu,sv_pure,NextQ,goInt]
       exact h
      ·exact h.elim
     ·rename_i hu
      simp only [OX] at h
      split at h
      ·rename_i e2
       simp only [execOp,sv_bind,resolve,sv_pure,invoke,builtin,Builtin.len_]
       simp only [List.map_toArray,List.map_cons,List.map_nil,hf,e2,List.getElem?_toArray,List.getElem?_cons_zero,sv_bind,sv_und hu,sv_pure,NextQ,goInt]
       exact h
      ·exact h.elim
     ·rename_i kk ee hu
      simp only [OX] at h
      split at h
      ·rename_i e2
       simp only [execOp,sv_bind,resolve,sv_pure,invoke,builtin,Builtin.len_]
       simp only [List.map_toArray,List.map_cons,List.map_nil,hf,e2,List.getElem?_toArray,List.getElem?_cons_zero,sv_bind,sv_und hu,sv_pure,NextQ,goInt]
       exact h
      ·rename_i r e2
       obtain⟨es,clock,hh,h⟩:=h
       simp only [execOp,sv_bind,resolve,sv_pure,invoke,builtin,Builtin.len_]
       simp only [List.map_toArray,List.map_cons,List.map_nil,hf,e2,List.getElem?_toArray,List.getElem?_cons_zero,sv_bind,sv_und hu,getObj]
       exact⟨_,hh,rfl,rfl,h⟩
      ·exact h.elim
     ·exact raw _ h
    ·exact raw _ h
   | _=>exact raw _ h
 | convert src dt x=>
  simp only [cleanOp] at h
  split at h
  ·rename_i k1 k hu hu'
   simp only [OX] at h
   split at h
   ·rename_i k2 n e
    simp only [execOp,hf,e]
    refine nq' ?_
    simp only [convert,sv_bind,sv_und hu,sv_und hu',Conv.intToInt,sv_pure]
    exact h
   ·exact h.elim
  ·exact raw _ h
 | fieldAddr s x i=>
  simp only [cleanOp] at h
  split at h
  ·rename_i fs hu
   split at h
   ·rename_i fd hfd
    split at h
    ·rename_i n hs
     obtain⟨inf,hi,hsz⟩:=sizeAt_info hs
     simp only [OX] at h
     split at h
     ·rename_i ad e
      simp only [execOp,hf,e]
      refine nq' ?_
      simp only [Instr.fieldAt,sv_bind,sv_und hu,hfd,Instr.sureAddr,sv_pure,fieldPlace,sv_size hi,hsz]
      simpa [sv_pure] using h
     ·exact h.elim
    ·exact raw _ h
   ·exact raw _ h
  ·exact raw _ h
 | indexAddr t x i=>
  simp only [cleanOp] at h
  split at h
  ·rename_i e hu
   split at h
   ·rename_i n hs;simp only [execOp,hf];exact nq' (ox_idx hu hs h)
   ·exact raw _ h
  ·rename_i len e hu
   split at h
   ·rename_i n hs
    split at h
    ·exact raw _ h
    ·simp only [execOp,hf];exact nq' (ox_aidx hu hs h)
   ·exact raw _ h
  ·exact raw _ h
 | index t x i=>
  simp only [cleanOp] at h
  split at h
  ·rename_i hu;simp only [execOp,hf];exact nq' (ox_sidx hu h)
  ·exact raw _ h
 | load t x=>
  simp only [cleanOp] at h
  split at h
  ·rename_i d hu
   split at h
   ·rename_i hag
    split at h
    ·rename_i n hs
     obtain⟨inf,hi,hsz⟩:=sizeAt_info hs
     simp only [OX] at h
     split at h
     ·rename_i ad e
      obtain⟨vs,⟨hl,hr⟩,h⟩:=h
      simp only [execOp,hf,e]
      refine nq' ?_
      simp only [Instr.loadAt,Instr.sureAddr,sv_bind,sv_pure,loadVar,sv_agg hu,hag,if_true,sv_size hi,hsz,<- hl]
      exact hr.cells h
     ·exact h.elim
    ·exact raw _ h
   ·rename_i hag
    simp only [OX] at h
    split at h
    ·rename_i ad e
     obtain⟨v,hs,h⟩:=h
     rw [force_eq] at h
     simp only [execOp,hf,e]
     refine nq' ?_
     simp only [Instr.loadAt,Instr.sureAddr,sv_bind,sv_pure,loadVar,sv_agg hu,hag,Bool.false_eq_true,if_false]
     exact sv_load hs h
    ·exact h.elim
  ·exact raw _ h
 | store t x v=>
  simp only [cleanOp] at h
  split at h
  ·rename_i n hs
   obtain⟨inf,hi,hsz⟩:=sizeAt_info hs
   simp only [OX] at h
   split at h
   ·rename_i ad e
    obtain⟨hn,h⟩:=h
    simp only [execOp,hf,e]
    rw [sv_bind]
    simp only [Instr.storeAt,Instr.sureAddr,sv_bind,sv_pure,storeVar,sv_size hi,hsz,hn,ne_eq,not_true_eq_false,if_false]
    exact sv_storeCells _ 0 Z (StV.mono (λ Z' ⟨Z1,h1,h2⟩=>hsh _ _ _ h1 h2) _ _ _ h)
   ·exact h.elim
  ·exact raw _ h
 | box t x=>
  have key:(∀b,Z.free b->K (.pointer (some ⟨b,0,none⟩)) (Z.put b (.cells (evl f x).cells t)))->SemV P (execOp a.eval ⟨dst,.box t x,ty,pos,after,guard⟩) (NextQ S K) Z:=by
   intro h
   simp only [execOp,hf]
   refine nq' ?_
   simp only [Instr.box,newVar,sv_bind]
   refine sv_new_freeze λ b hb=>?_
   simp only [sv_pure]
   exact h b hb
  simp only [cleanOp] at h
  split at h
  ·split at h
   ·exact key h
   ·exact key λ b hb=>hsh _ _ _ (shift_freeze (Z:=Z.put b (.cells (evl f x).cells t)) (b:=b) (o:=.cells (evl f x).cells t) (M':=Z.M) (List.Perm.refl _)) ((by simpa only [OX,forceC_eq] using h:∀b Z1,Z.le Z1->Blk Z1 b (evl f x).cells->K (.pointer (some ⟨b,0,none⟩)) Z1) b _ (le_add hb) Blk.new)
  ·exact key h
 | alloc t=>
  simp only [cleanOp] at h
  split at h
  ·rename_i z hz
   obtain⟨inf,hi,hzz⟩:=zeroAt_info hz
   simp only [execOp]
   refine nq' ?_
   simp only [Instr.alloc,newVar,sv_bind,sv_zero hi hzz]
   refine sv_new_freeze λ b hb=>?_
   simp only [sv_pure]
   obtain⟨Z1,hs,h⟩:=h b hb
   exact hsh _ _ _ hs h
  ·exact raw _ h
 | extract x i=>
  simp only [cleanOp,OX] at h
  simp only [execOp,hf]
  refine nq' ?_
  split at h
  ·rename_i vs e
   split at h
   ·rename_i v hv
    rw [force_eq] at h
    simp only [e,Instr.extract,hv,sv_pure]
    exact h
   ·exact h.elim
  ·exact h.elim
 | field t x i=>
  simp only [cleanOp] at h
  split at h
  ·rename_i fs hu
   split at h
   ·rename_i fd hfd
    split at h
    ·rename_i d hd
     split at h
     ·rename_i hag
      split at h
      ·rename_i n hs
       obtain⟨inf,hi,hsz⟩:=sizeAt_info hs
       simp only [OX] at h
       split at h
       ·rename_i cs e
        simp only [execOp,hf,e]
        refine nq' ?_
        simp only [Instr.field,sv_bind,sv_und hu,hfd,asAgg,sv_pure,part,sv_agg hd,hag,if_true,sv_size hi,hsz]
        rw [extract_list]
        exact h
       ·exact h.elim
      ·exact raw _ h
     ·rename_i hag
      simp only [OX] at h
      split at h
      ·rename_i cs e
       split at h
       ·rename_i v hv
        rw [force_eq] at h
        simp only [execOp,hf,e]
        refine nq' ?_
        simp only [Instr.field,sv_bind,sv_und hu,hfd,asAgg,sv_pure,part,sv_agg hd,hag,Bool.false_eq_true,if_false,hv]
        exact h
       ·exact h.elim
      ·exact h.elim
    ·exact raw _ h
   ·exact raw _ h
  ·exact raw _ h
 | makeFunc fn first capt=>
  simp only [cleanOp,OX,forceL_eq] at h
  have e:a.eval=evl f:=funext hf
  simp only [execOp,e]
  have e1:∀l:Array Operand,l.map (evl f)=(l.toList.map (evl f)).toArray:=λ l=>by apply Array.ext';simp
  rw [e1,e1]
  exact nq' h
 | nilCheck x=>
  simp only [cleanOp,OX] at h
  simp only [execOp,hf]
  split at h
  ·rename_i ad e;simp only [e];exact nq' (s:=pure (.pointer (some ad))) h
  ·exact h.elim
 | build t parts=>
  simp only [cleanOp] at h
  split at h
  ·rename_i fs z hu hz
   split at h
   ·rename_i hall
    split at h
    ·rename_i ps hps
     obtain⟨inf,hi,hzz⟩:=zeroAt_info hz
     simp only [OX,fillP_eq,Array.toArray_toList] at h
     split at h
     ·rename_i cells hc
      simp only [execOp,hf]
      refine nq' ?_
      simp only [Instr.build,sv_bind,sv_zero hi hzz,sv_und hu]
      refine sv_places hall ?_
      have hf':Instr.fill ((fs.map λ fd=>(fd.offset,(sizeAt P fd.type).getD 0))[·]?) z.cells ((parts.map λ p=>(p.1,evl f p.2)).toList)=some cells:=by
       rw [<- hc,Array.toList_map]
       refine fill_eq _ f parts.toList ps z.cells ?_
       rw [<- hps]
       congr 1
       funext p
       simp only [Array.getElem?_map]
       cases fs[p.1]? <;> rfl
      simp only [hf',sv_pure]
      exact h
     ·exact h.elim
    ·exact raw _ h
   ·exact raw _ h
  ·exact raw _ h
 | buildSlice t len parts=>
  simp only [cleanOp] at h
  split at h
  ·rename_i e hu
   split at h
   ·rename_i n z hs hz
    split at h
    ·rename_i hle
     obtain⟨inf,hi,hzz⟩:=zeroAt_info hz
     obtain⟨inf',hi',hsz⟩:=sizeAt_info hs
     simp only [OX,fillP_eq,Array.toArray_toList] at h
     split at h
     ·rename_i cells hc
      have hfl:Instr.fill (λ i=>some (i*n,n)) (if len*n=0 then #[] else (Array.range (len*n)).map (z.cells[· % z.cells.size]!)) ((parts.map λ p=>(p.1,evl f p.2)).toList)=some cells:=by
       rw [<- hc,Array.toList_map]
       refine fill_eq _ f parts.toList _ _ ?_
       generalize parts.toList=l
       induction l with
       | nil=>rfl
       | cons p l ih=>rw [List.mapM_cons,ih];rfl
      simp only [execOp,hf]
      refine nq' ?_
      simp only [Instr.buildSlice,sv_bind,sv_und hu,sv_size hi',hsz]
      rw [if_neg (by omega)]
      have last:∀(msg:String) (cells':Array Value),cells'=(if len*n=0 then #[] else (Array.range (len*n)).map (z.cells[· % z.cells.size]!)) ->
        SemV P (do
         let some cells:=Instr.fill (λ i=>some (i*n,n)) ((Array.range (len*n)).map (λ k=>(if len*n=0 then #[] else z.cells)[k % (if len*n=0 then #[] else z.cells).size]!)) ((parts.map λ p=>(p.1,evl f p.2)).toList) | stuck msg
         pure (.slice (some (<- newRow e cells)) len len):Sem Value) K Z:=by
       intro msg cells' _
       have e2:(Array.range (len*n)).map (λ k=>(if len*n=0 then #[] else z.cells)[k % (if len*n=0 then #[] else z.cells).size]!)=(if len*n=0 then #[] else (Array.range (len*n)).map (z.cells[· % z.cells.size]!)):=by
        split
        ·rename_i h0;simp [h0]
        ·rfl
       rw [e2,hfl]
       simp only [sv_bind]
       refine sv_new_freeze λ b hb=>?_
       simp only [sv_pure]
       obtain⟨Z1,hss,h⟩:=h b hb
       exact hsh _ _ _ hss h
      have:=λ msg=>last msg _ rfl
      by_cases h0:len*n=0
      ·rw [if_pos h0]
       simp only [h0,if_true] at this
       simp only [h0,sv_pure]
       exact this _
      ·rw [if_neg h0]
       simp only [h0,if_false] at this
       simp only [sv_bind,sv_zero hi hzz,sv_pure]
       exact this _
     ·exact h.elim
    ·exact raw _ h
   ·exact raw _ h
  ·exact raw _ h
 | slice t x lo hi mx=>
  cases mx with
  | some _=>exact raw _ h
  | none=>
   simp only [cleanOp] at h
   split at h
   ·rename_i e hu
    split at h
    ·rename_i n hs
     simp only [execOp,show a.eval=evl f from funext hf]
     exact nq' (ox_sub3 hu hs h)
    ·exact raw _ h
   ·exact raw _ h
 | _=>exact raw _ h
structure St where
 o:O
 dst:Option Nat
 g:Option (Nat×Bool)
 dfr:Option (Operand×Array Operand):=none
abbrev St.d (n:Nat) (o:O):St:=⟨o,some n,none,none⟩
abbrev St.m (n k:Nat):St:=⟨.mv (.tmp k),some n,none,none⟩
abbrev St.u (n j:Nat) (b:Bool) (o:O):St:=⟨o,some n,some (j,b),none⟩
abbrev Kont (T:Type):=Fm->List Deferred->View T->Prop
def GB (b want:Bool) (A B:Prop):Prop:=
 match b,want with
 | true,true=>A
 | false,false=>A
 | true,false=>B
 | false,true=>B
theorem gb_split {b want:Bool} {A B:Prop} (h:b=want->A) (h':b=!want->B):GB b want A B:=by
 cases b <;> cases want <;> first | exact h rfl | exact h' rfl
def CB (b:Bool) (A B:Prop):Prop:=
 match b with
 | true=>A
 | false=>B
theorem cb_split {b:Bool} {A B:Prop} (h:b=true->A) (h':b=false->B):CB b A B:=by cases b <;> first | exact h rfl | exact h' rfl
def OpX1 (S:Sys P T) (ro:Option Nat) (st:St) (ih:Kont T->Kont T) (K:Kont T):Kont T:=λ f ds Z=>
  match st.g with
  | some (j,want)=>(match f j with
   | .bool b=>GB b want (OX S st.o (upd f j (.bool want)) (λ v Z'=>ih K (updO (upd f j (.bool want)) st.dst v) ds Z') Z)
     (ih K (updO (upd f j (.bool !want)) st.dst undef) ds Z)
   | .tuple _=>ih K (updO f st.dst undef) ds Z
   | _=>False)
  | none=>(match st.dfr with
   | some (c,args)=>(match evl f c with
    | .func fn first capt=>ro=none/\ih K (updO f st.dst undef) ({ target:=.fn fn capt,args:=first++args.map (evl f) }::ds) Z
    | _=>False)
   | none=>OX S st.o f (λ v Z'=>ih K (updO f st.dst v) ds Z') Z)
def OpX (S:Sys P T) (ro:Option Nat) (l:List St):Kont T->Kont T:=List.rec (motive:=λ _=>Kont T->Kont T) (λ K=>K) (λ st _ ih=>OpX1 S ro st ih) l
theorem OpX_cons (S:Sys P T) (ro:Option Nat) (st:St) (r:List St) (K:Kont T):OpX S ro (st::r) K=OpX1 S ro st (OpX S ro r) K:=rfl
def DX1 (S:Sys P T) (G:View T->Prop) (kd:Nat) (st:St) (ih:(View T->Prop)->Kont T->Kont T) (C:View T->Prop) (K:Kont T):Kont T:=λ f ds Z=>
  let run (f:Fm):Prop:=match kd with
   | 0=>OX S st.o f (λ v _=>ih C K (updO f st.dst v) ds Z) Z
   | 1=>∃v,(∀Z',Z.le Z'->C Z'->OX S st.o f (λ v' Z2=>v'=v/\∃Z1,Shift Z2 Z1/\Z'.le Z1) Z')/\ih C K (updO f st.dst v) ds Z
   | 3=>∃v,(∀Z',Z.le Z'->C Z'->OX S st.o f (λ v' Z2=>v'=v/\∃Z1,Shift Z2 Z1/\Z'.le Z1) Z')/\(∀Z',G Z'->OX S st.o f (λ v' Z2=>v'=v/\∃Z1,Shift Z2 Z1/\Z'.le Z1) Z')/\ih C K (updO f st.dst v) ds Z
   | _=>∃F:Value->View T->Prop,(∀v,Mono (F v))/\(∀Z',Z.le Z'->C Z'->OX S st.o f (λ v' Z2=>∃Z1,Shift Z2 Z1/\F v' Z1/\Z'.le Z1) Z') /\
     ∀v,(∃Z',Z.le Z'/\C Z'/\F v Z')->ih (λ Z'=>C Z'/\F v Z') K (updO f st.dst v) ds Z
  match st.g with
  | some (j,want)=>(match f j with
   | .bool b=>GB b want (run (upd f j (.bool want))) (ih C K (updO (upd f j (.bool !want)) st.dst undef) ds Z)
   | .tuple _=>ih C K (updO f st.dst undef) ds Z
   | _=>False)
  | none=>run f
def DX (S:Sys P T) (G:View T->Prop) (l:List (Nat×St)):(View T->Prop)->Kont T->Kont T:=
 List.rec (motive:=λ _=>(View T->Prop)->Kont T->Kont T) (λ C K f ds Z=>∀Z',Z.le Z'->C Z'->K f ds Z') (λ p _ ih=>DX1 S G p.1 p.2 ih) l
theorem DX_cons (S:Sys P T) (G:View T->Prop) (kd:Nat) (st:St) (r:List (Nat×St)):DX S G ((kd,st)::r)=DX1 S G kd st (DX S G r):=rfl
def lastX (S:Sys P T) (G:View T->Prop) (st:St) (K:Kont T):Kont T:=λ f ds Z=>
 OX S st.o f (λ v' Z2=>v'=undef/\∃Z1,Shift Z2 Z1/\G Z1) Z/\∀Z',G Z'->K (updO f st.dst undef) ds Z'
def ovr:List (Nat×Value)->Fm->Fm
 | [],f=>f
 | p::l,f=>upd (ovr l f) p.1 p.2
def AllEq (f:Fm) (l:List (Nat×Value)):Prop:=List.rec (motive:=λ _=>Prop) True (λ p _ ih=>f p.1=p.2/\ih) l
theorem upd_same {f:Fm} {d:Nat} {v:Value} (h:f d=v):upd f d v=f:=by
 funext t
 simp only [upd]
 cases e:Nat.beq t d with
 | true=>rw [Nat.eq_of_beq_eq_true e];exact h.symm
 | false=>rfl
theorem AllEq.ovr {f:Fm}:∀{l:List (Nat×Value)},AllEq f l->ovr l f=f
 | [],_=>rfl
 | (d,v)::l,h=>by
  show upd (TM.ovr l f) d v=f
  rw [AllEq.ovr h.2];exact upd_same h.1
structure FR (N:Nat) (a:Act) (f:Fm) (ds:List Deferred):Prop where
 ds:a.defers=ds
 size:a.tmps.size=N
 get:∀t,a.tmps.getD t undef=f t
theorem FR.eval {N:Nat} {a:Act} {f:Fm} {ds:List Deferred} (h:FR N a f ds) (x:Operand):a.eval x=evl f x:=by
 cases x with
 | tmp t=>exact h.get t
 | _=>rfl
theorem FR.put {N:Nat} {a:Act} {f:Fm} {ds:List Deferred} (h:FR N a f ds) (dst:Option Nat) (v:Value) (hd:∀d,dst=some d->d<N):FR N (a.put dst v) (updO f dst v) ds:=by
 cases dst with
 | none=>exact h
 | some d=>
  have hlt:=hd d rfl
  refine⟨h.ds,by simpa [Act.put] using h.size,λ t=>?_⟩
  simp only [Act.put,updO,upd,Array.getD_eq_getD_getElem?,Array.getElem?_setIfInBounds]
  by_cases e:d=t
  ·subst e
   have:d<a.tmps.size:=by rw [h.size];exact hlt
   simp [this]
  ·have e':Nat.beq t d=false:=by cases hb:Nat.beq t d with | false=>rfl | true=>exact absurd (Nat.eq_of_beq_eq_true hb).symm e
   have:=h.get t
   simp only [Array.getD_eq_getD_getElem?] at this
   simp [e,e',this]
theorem FR.slot {N:Nat} {a:Act} {f:Fm} {ds:List Deferred} (h:FR N a f ds) {d:Nat} {b:Bool} (hd:f d=.bool b):a.tmps[d]?=some (.bool b):=by
 have:=h.get d
 rw [hd,Array.getD_eq_getD_getElem?] at this
 cases hx:a.tmps[d]? with
 | none=>rw [hx] at this;cases this
 | some v=>rw [hx] at this;simpa using this
inductive C where
 | skip
 | seq (x y:C)
 | ite (c:Operand) (x y:C)
 | block (id:Nat) (b:C)
 | loop (b:C)
 | exit (id:Nat)
 | ret
 | scope (b:C)
 | reg (l:List St)
 | drw (qs:List (Nat×St)) (ts:List St)
 | drs (qs:List (Nat×St)) (st:St) (ts:List St)
 | rng (N:Nat) (mu dets:List Nat) (f:Operand) (params:Array Tmp) (assign body:C)
 | cd (N:Nat) (c:Code)
 | bad
def cleanSt (P:Program) (mu:List Nat) (ops:Array Oper) (o:Oper):Option St:=
 match o.op,o.guard with
 | .defer { callee:=.value c,args,.. },none=>some ⟨.mv c,o.dst,none,some (c,args)⟩
 | .defer _,_=>none
 | _,none=>some ⟨cleanOp P mu o,o.dst,none,none⟩
 | _,some (j,w)=>(match (ops[j]?).bind (·.dst) with
  | some d=>some ⟨cleanOp P mu o,o.dst,some (d,w),none⟩
  | none=>none)
def stable:O->Bool
 | .mv _ | .pick .. | .add .. | .sub .. | .mul .. | .cmp .. | .beq .. | .ar .. | .teq .. | .not _ | .len _ | .lenT _ | .conv .. | .off .. | .idx .. | .aidx .. | .sidx .. | .ld _ | .ldn .. | .ext .. | .part .. | .part1 .. | .mkf .. | .nilc _ | .sub3 .. | .build ..=>true
 | _=>false
def isLoad:O->Bool
 | .ld _ | .ldn ..=>true
 | _=>false
def isStO:O->Bool
 | .st ..=>true
 | _=>false
def inB (N:Nat) (o:Oper):Bool:=match o.dst with | some d=>decide (d<N) | none=>true
def planGo (ops:Array Oper) (isRel:Nat->Bool):Nat->List Nat->List Nat->List Nat
 | 0,_,done=>done
 | n+1,left,done=>
  let ready:=left.filter λ i=>(edges ops i).all done.contains
  match ready.find? (λ i=>!isRel i) with
  | some i=>planGo ops isRel n (left.filter (· != i)) (done++[i])
  | none=>(match ready with
   | i::_=>planGo ops isRel n (left.filter (· != i)) (done++[i])
   | []=>done)
def tailFrom (ops:Array Oper):Nat->Nat
 | 0=>0
 | k+1=>if (List.range k).all (λ j=>((masks ops ops.size).getD k 0).testBit j) then tailFrom ops k else k+1
def isRelB (P:Program) (mu dets:List Nat) (ops:Array Oper) (i:Nat):Bool:=
 match ops[i]? with
 | some o=>!stable (cleanOp P mu o) && !((o.dst.map dets.contains).getD false)
 | none=>false
def kindOf (P:Program) (mu:List Nat) (ops:Array Oper) (rl:List Nat) (i:Nat):Nat:=
 if rl.contains i then 2 else match ops[i]? with
  | some o=>if stable (cleanOp P mu o) then 0 else 1
  | none=>1
def lateB (ops:Array Oper) (x j:Nat):Bool:=!((masks ops ops.size).getD x 0).testBit j
def kindS (P:Program) (mu:List Nat) (ops:Array Oper) (rl:List Nat) (x i:Nat):Nat:=
 if rl.contains i then 2 else match ops[i]? with
  | some o=>if stable (cleanOp P mu o) && (!isLoad (cleanOp P mu o) || !lateB ops x i) then 0 else if lateB ops x i then 3 else 1
  | none=>3
def cleanRegion (P:Program) (mu:List Nat) (N:Nat) (dets:List Nat) (ops:Array Oper) (draw:Bool):C:=
 if !ops.all (inB N) then .bad else
 match draw with
 | false=>(match (List.range ops.size).mapM (λ i=>(ops[i]?).bind (cleanSt P mu ops)) with | some l=>.reg l | none=>.bad)
 | true=>
  let k:=tailFrom ops ops.size
  let qs:=planGo ops (isRelB P mu dets ops) ops.size (List.range k) []
  let ts:=(List.range ops.size).drop k
  let rl:=(List.range k).filter (isRelB P mu dets ops)
  if !drawOk ops rl qs ts || !rl.all (λ i=>((ops[i]?).map (·.guard.isNone)).getD true) then .bad else
  match qs.getLast?.bind λ x=>((ops[x]?).bind (cleanSt P mu ops)).bind λ st=>if rl.contains x && isStO st.o && st.g.isNone && st.dfr.isNone then some (x,st) else none with
  | some (x,st)=>(match qs.dropLast.mapM (λ i=>((ops[i]?).bind (cleanSt P mu ops)).map λ st=>(kindS P mu ops rl x i,st)),ts.mapM (λ i=>(ops[i]?).bind (cleanSt P mu ops)) with
   | some a,some b=>if a.all (λ x=>x.2.dfr.isNone) then .drs a st b else .bad
   | _,_=>.bad)
  | none=>
  match qs.mapM (λ i=>((ops[i]?).bind (cleanSt P mu ops)).map λ st=>(kindOf P mu ops rl i,st)),ts.mapM (λ i=>(ops[i]?).bind (cleanSt P mu ops)) with
  | some a,some b=>if a.all (λ x=>x.2.dfr.isNone) then .drw a b else .bad
  | _,_=>.bad
def isGo:Op->Bool
 | .go _=>true
 | _=>false
def hasGo (ops:Array Oper):Bool:=ops.any λ o=>isGo o.op
def clean (P:Program) (mu:List Nat) (N:Nat) (dets:List Nat):Code->C
 | .skip=>.skip
 | .label _=>.skip
 | .seq a b=>.seq (clean P mu N dets a) (clean P mu N dets b)
 | .cond c a b=>.ite c (clean P mu N dets a) (clean P mu N dets b)
 | .block id b=>.block id (clean P mu N dets b)
 | .loop b=>.loop (clean P mu N dets b)
 | .exit i=>.exit i
 | .ret=>.ret
 | .scope b=>.scope (clean P mu N dets b)
 | .region id ops d=>if hasGo ops then .cd N (.region id ops d) else match cleanRegion P mu N dets ops d with
  | .bad=>.cd N (.region id ops d)
  | c=>c
 | .rangeFunc f ps as bd=>.rng N mu dets f ps (clean P mu N dets as) (clean P mu N dets bd)
 | .goto _=>.bad
 | .refuse _=>.bad
def loopX (b:Kont T->(Nat->Kont T)->Kont T->Kont T) (x:Nat->Kont T) (r:Kont T):Kont T:=λ f ds Z=>
 ∃(α:Type) (L:α->List (Nat×Value)) (I:α->View T->Prop) (μ:α->Nat) (x0:α),AllEq f (L x0)/\I x0 Z /\
   ∀y f Z,I y Z->b (λ f' ds' Z'=>ds'=ds/\∃y',AllEq f' (L y')/\I y' Z'/\μ y'<μ y) x r (ovr (L y) f) ds Z
def iteX (c:Operand) (a b:Kont T):Kont T:=λ f ds Z=>(match evl f c with
  | .bool t=>CB t (a f ds Z) (b f ds Z)
  | _=>False)
def rngX (S:Sys P T) (fn:FuncId) (ro:Option Nat) (N:Nat) (mu dets:List Nat) (c:Operand) (params:Array Tmp) (as bd:C) (n:Kont T) (x:Nat->Kont T) (r:Kont T):Kont T:=λ f ds Z=>
 ∀ca cb:Code,clean P mu N dets ca=as->clean P mu N dets cb=bd->∀a:Act,FR N a f ds ->
   CodeV S fn ro (.rangeFunc c params ca cb) (λ e a' Z'=>a'.tmps=a.tmps/\(match e with | .normal=>n f a'.defers Z' | .exit i=>x i f a'.defers Z' | .ret=>r f a'.defers Z')) a Z
def cdX (S:Sys P T) (fn:FuncId) (ro:Option Nat) (N:Nat) (c:Code) (n:Kont T) (x:Nat->Kont T) (r:Kont T):Kont T:=λ f ds Z=>
 ∀a:Act,FR N a f ds ->
   CodeV S fn ro c (λ e a' Z'=>a'.tmps.size=a.tmps.size/\∃f',(∀t,a'.tmps.getD t undef=f' t)/\(match e with | .normal=>n f' a'.defers Z' | .exit i=>x i f' a'.defers Z' | .ret=>r f' a'.defers Z')) a Z
def wpC (S:Sys P T) (fn:FuncId) (ro:Option Nat) (c:C):Kont T->(Nat->Kont T)->Kont T->Kont T:=
 C.rec (motive:=λ _=>Kont T->(Nat->Kont T)->Kont T->Kont T)
  (λ n _ _=>n)
  (λ _ _ a b n x r=>a (b n x r) x r)
  (λ c _ _ a b n x r=>iteX c (a n x r) (b n x r))
  (λ id _ b n x r=>b n (λ i f ds Z=>bif Nat.beq i id then n f ds Z else x i f ds Z) r)
  (λ _ b _ x r=>loopX b x r)
  (λ i _ x _=>x i)
  (λ _ _ r=>r)
  (λ _ b n x r=>b n x r)
  (λ l n _ _=>OpX S ro l n)
  (λ qs ts n _ _=>DX S (λ _=>False) qs (λ _=>True) (OpX S ro ts n))
  (λ qs st ts n _ _ f ds Z=>∃G,Mono G/\DX S G qs (λ _=>True) (lastX S G st (OpX S ro ts n)) f ds Z)
  (λ N mu dets c params as bd _ _ n x r=>rngX S fn ro N mu dets c params as bd n x r)
  (λ N c n x r=>cdX S fn ro N c n x r)
  (λ _ _ _ _ _ _=>False) c
end Go.TM
set_option linter.unusedSimpArgs false
namespace Go.TM
variable {T:Type} {P:Program} {S:Sys P T}
theorem View.sees.le {Z Z':View T} {a:Addr} {v:Value} (h:Z.sees a v) (hl:Z.le Z'):Z'.sees a v:=by
 obtain⟨hs,⟨c,t,fr,hb,hc⟩ | ⟨t,n,hm⟩⟩:=h
 ·exact⟨hs,.inl ⟨c,t,fr,hb.imp (hl.imm _ _) (λ h=>hl.own ▸ h),hc⟩⟩
 ·exact⟨hs,.inr ⟨t,n,hl.own ▸ hm⟩⟩
theorem Reads.le {Z Z':View T} {a:Addr} {vs:List Value} (h:Reads Z a vs) (hl:Z.le Z'):Reads Z' a vs:=λ i v hv=>(h i v hv).le hl
theorem NextQ.mono {K K':Value->View T->Prop} (hk:∀v Z,K v Z->K' v Z) {n:Next} {Z:View T} (hn:NextQ S K n Z):NextQ S K' n Z:=by
 cases n <;> first | exact hk _ _ hn | exact CallsV.mono hn hk | exact RoundV.mono hn hk | exact hn
theorem OX.mono {o:O} {f:Fm} {K K':Value->View T->Prop} {Z:View T} (hk:∀v Z,K v Z->K' v Z) (h:OX S o f K Z):OX S o f K' Z:=by
 cases o with
 | raw o=>exact λ a ha=>SemV.mono _ (h a ha) λ n Z hn=>NextQ.mono (λ v Z ⟨Z1,h1,h2⟩=>⟨Z1,h1,hk _ _ h2⟩) hn
 | call c args=>
  simp only [OX] at h ⊢
  split at h
  ·simp only [forceL_eq] at h ⊢;exact⟨h.1,h.2.mono λ v Z h hs=>hk v Z (h hs)⟩
  ·simp only [forceL_eq] at h ⊢;exact SemV.mono _ h λ n Z hn=>NextQ.mono hk hn
  ·exact h
 | st n x v=>
  simp only [OX] at h ⊢
  split at h
  ·exact⟨h.1,StV.mono (λ Z ⟨Z1,a,b⟩=>⟨Z1,a,hk _ Z1 b⟩) _ _ _ h.2⟩
  ·exact h
 | box t x=>simp only [OX,forceC_eq] at h ⊢;exact λ b Z1 hl hb=>hk _ _ (h b Z1 hl hb)
 | boxM t x=>exact λ b hb=>hk _ _ (h b hb)
 | alloc t z=>exact λ b hb=>let ⟨Z1,a,b⟩:=h b hb;⟨Z1,a,hk _ _ b⟩
 | bsl t len z ps=>
  simp only [OX,fillP_eq,Array.toArray_toList] at h ⊢
  split at h
  ·exact λ b hb=>let ⟨Z1,a,b⟩:=h b hb;⟨Z1,a,hk _ _ b⟩
  ·exact h
 | lenM x=>
  simp only [OX] at h ⊢
  split at h
  ·exact hk _ _ h
  ·obtain⟨a,b,c,d⟩:=h;exact⟨a,b,c,hk _ _ d⟩
  ·exact h
 | mv x=>simp only [OX,force_eq] at h ⊢;exact hk _ _ h
 | mkf fn first capt=>simp only [OX,forceL_eq] at h ⊢;exact hk _ _ h
 | pick c a b=>
  simp only [OX,force_eq] at h ⊢
  split at h
  ·exact hk _ _ h
  ·exact hk _ _ h
  ·exact h
 | ext x i=>
  simp only [OX,force_eq] at h ⊢
  split at h
  ·split at h
   ·exact hk _ _ h
   ·exact h
  ·exact h
 | part1 off x=>
  simp only [OX,force_eq] at h ⊢
  split at h
  ·split at h
   ·exact hk _ _ h
   ·exact h
  ·exact h
 | ld x=>
  simp only [OX,force_eq] at h ⊢
  split at h
  ·obtain⟨v,a,b⟩:=h;exact⟨v,a,hk _ _ b⟩
  ·exact h
 | ldn n x=>
  simp only [OX] at h ⊢
  split at h
  ·obtain⟨v,a,b⟩:=h;exact⟨v,a,hk _ _ b⟩
  ·exact h
 | sidx x i=>
  simp only [OX] at h ⊢
  split at h
  ·obtain⟨j,v,a,b⟩:=h;exact⟨j,v,a,hk _ _ b⟩
  ·exact h
 | idx n x i=>
  simp only [OX] at h ⊢
  split at h
  ·obtain⟨ad,j,a,b⟩:=h;exact⟨ad,j,a,hk _ _ b⟩
  ·exact h
 | aidx n m x i=>
  simp only [OX] at h ⊢
  split at h
  ·obtain⟨j,a,b⟩:=h;exact⟨j,a,hk _ _ b⟩
  ·exact h
 | sub3 sz x lo hi=>
  simp only [OX] at h ⊢
  split at h
  ·split at h
   ·obtain⟨l,hh,a,b⟩:=h;exact⟨l,hh,a,hk _ _ b⟩
   ·exact h
  ·exact h
 | build z ps=>
  simp only [OX,fillP_eq,Array.toArray_toList] at h ⊢
  split at h
  ·exact hk _ _ h
  ·exact h
 | cmp op x y=>
  simp only [OX] at h ⊢
  split at h
  ·refine⟨h.1,?_⟩
   cases op <;> first | exact h.2.elim | exact hk _ _ h.2
  ·exact h
 | beq op x y=>
  simp only [OX] at h ⊢
  split at h
  ·cases op <;> first | exact h.elim | exact hk _ _ h
  ·exact h
 | teq op x y=>
  simp only [OX] at h ⊢
  split at h
  ·cases op <;> first | exact h.elim | exact hk _ _ h
  ·exact h
 | ar op x y=>
  simp only [OX] at h ⊢
  split at h
  ·cases op <;> first | exact h.elim | exact⟨h.1,h.2.1,hk _ _ h.2.2⟩ | exact⟨h.1,hk _ _ h.2⟩
  ·exact h
 | _=>
  simp only [OX] at h ⊢
  split at h
  ·first | exact⟨h.1,hk _ _ h.2⟩ | exact hk _ _ h
  ·exact h
theorem OX.stable {o:O} {f:Fm} {K:Value->View T->Prop} {Z:View T} (hs:stable o=true) (h:OX S o f K Z):∃v,K v Z/\∀(Z':View T) (K':Value->View T->Prop),(isLoad o=false\/Z.le Z')->K' v Z'->OX S o f K' Z':=by
 cases o with
 | raw o=>cases hs
 | call c args=>cases hs
 | st n x v=>cases hs
 | box t x=>cases hs
 | boxM t x=>cases hs
 | alloc t z=>cases hs
 | bsl t len z ps=>cases hs
 | lenM x=>cases hs
 | mv x=>simp only [OX,force_eq] at h;exact⟨_,h,λ _ _ _ k=>by simpa only [OX,force_eq] using k⟩
 | mkf fn first capt=>simp only [OX,forceL_eq] at h;exact⟨_,h,λ _ _ _ k=>by simpa only [OX,forceL_eq] using k⟩
 | pick c a b=>
  simp only [OX,force_eq] at h
  split at h <;> rename_i e
  ·exact⟨_,h,λ _ _ _ k=>by simpa [OX,force_eq,e] using k⟩
  ·exact⟨_,h,λ _ _ _ k=>by simpa [OX,force_eq,e] using k⟩
  ·exact h.elim
 | ext x i=>
  simp only [OX,force_eq] at h
  split at h <;> rename_i e
  ·split at h <;> rename_i e'
   ·exact⟨_,h,λ _ _ _ k=>by simpa [OX,force_eq,e,e'] using k⟩
   ·exact h.elim
  ·exact h.elim
 | part1 off x=>
  simp only [OX,force_eq] at h
  split at h <;> rename_i e
  ·split at h <;> rename_i e'
   ·exact⟨_,h,λ _ _ _ k=>by simpa [OX,force_eq,e,e'] using k⟩
   ·exact h.elim
  ·exact h.elim
 | ld x=>
  simp only [OX,force_eq] at h
  split at h <;> rename_i e
  ·obtain⟨v,a,b⟩:=h;exact⟨v,b,λ Z' K' hl k=>by simp only [OX,force_eq,e];exact⟨v,a.le (hl.resolve_left (by simp [isLoad])),k⟩⟩
  ·exact h.elim
 | ldn n x=>
  simp only [OX] at h
  split at h <;> rename_i e
  ·obtain⟨v,a,b⟩:=h;exact⟨_,b,λ Z' K' hl k=>by simp only [OX,force_eq,e];exact⟨v,⟨a.1,a.2.le (hl.resolve_left (by simp [isLoad]))⟩,k⟩⟩
  ·exact h.elim
 | sidx x i=>
  simp only [OX] at h
  split at h
  ·rename_i e e'
   obtain⟨j,v,a,b⟩:=h;exact⟨_,b,λ Z' K' hl k=>by simp only [OX,force_eq,e,e'];exact⟨j,v,a,k⟩⟩
  ·exact h.elim
 | sub3 sz x lo hi=>
  simp only [OX] at h
  split at h <;> rename_i e
  ·split at h <;> rename_i e'
   ·obtain⟨l,hh,a,b⟩:=h
    exact⟨_,b,λ Z' K' hl k=>by simp only [OX,force_eq,e,e'];exact⟨l,hh,a,k⟩⟩
   ·exact h.elim
  ·exact h.elim
 | build z ps=>
  simp only [OX,fillP_eq,Array.toArray_toList] at h
  split at h <;> rename_i e
  ·exact⟨_,h,λ Z' K' hl k=>by simp only [OX,force_eq,fillP_eq,Array.toArray_toList,e];exact k⟩
  ·exact h.elim
 | cmp op x y=>
  simp only [OX] at h
  split at h
  ·rename_i e e'
   obtain⟨hk,h⟩:=h
   cases op <;> first | exact h.elim | exact⟨_,h,λ Z' K' hl k=>by simp only [OX,force_eq,e,e'];exact⟨hk,k⟩⟩
  ·exact h.elim
 | beq op x y=>
  simp only [OX] at h
  split at h
  ·rename_i e e'
   cases op <;> first | exact h.elim | exact⟨_,h,λ Z' K' hl k=>by simp only [OX,force_eq,e,e'];exact k⟩
  ·exact h.elim
 | teq op x y=>
  simp only [OX] at h
  split at h
  ·rename_i e e'
   cases op <;> first | exact h.elim | exact⟨_,h,λ Z' K' hl k=>by simp only [OX,force_eq,e,e'];exact k⟩
  ·exact h.elim
 | ar op x y=>
  simp only [OX] at h
  split at h
  ·rename_i e e'
   cases op <;> first
    | exact h.elim
    | exact⟨_,h.2.2,λ Z' K' hl k=>by simp only [OX,force_eq,e,e'];exact⟨h.1,h.2.1,k⟩⟩
    | exact⟨_,h.2,λ Z' K' hl k=>by simp only [OX,force_eq,e,e'];exact⟨h.1,k⟩⟩
  ·exact h.elim
 | add x y=>simp only [OX] at h;split at h;{ rename_i e e';exact⟨_,h.2,λ Z' K' hl k=>by simp only [OX,force_eq,e,e'];exact⟨h.1,k⟩⟩ };exact h.elim
 | sub x y=>simp only [OX] at h;split at h;{ rename_i e e';exact⟨_,h.2,λ Z' K' hl k=>by simp only [OX,force_eq,e,e'];exact⟨h.1,k⟩⟩ };exact h.elim
 | mul x y=>simp only [OX] at h;split at h;{ rename_i e e';exact⟨_,h.2,λ Z' K' hl k=>by simp only [OX,force_eq,e,e'];exact⟨h.1,k⟩⟩ };exact h.elim
 | idx n x y=>simp only [OX] at h;split at h;{ rename_i e e';obtain⟨ad,j,a,b⟩:=h;exact⟨_,b,λ Z' K' hl k=>by simp only [OX,force_eq,e,e'];exact⟨ad,j,a,k⟩⟩ };exact h.elim
 | aidx n m x y=>simp only [OX] at h;split at h;{ rename_i e e';obtain⟨j,a,b⟩:=h;exact⟨_,b,λ Z' K' hl k=>by simp only [OX,force_eq,e,e'];exact⟨j,a,k⟩⟩ };exact h.elim
 | _=>
  simp only [OX] at h
  split at h <;> rename_i e
  ·exact⟨_,h,λ Z' K' hl k=>by simp only [OX,force_eq,e];exact k⟩
  ·exact h.elim
section region
variable {N:Nat} {fn:FuncId} {ro:Option Nat} {mu:List Nat} {ops:Array Oper}
theorem hsh_opsv {todo:List Nat} {Q:Ex->Act->View T->Prop} {A:Value->Act}:∀v Z Z',Shift Z Z'->OpsV S fn ro ops todo Q (A v) Z'->OpsV S fn ro ops todo Q (A v) Z:=λ _ _ _ hs h=>ov_shift hs h
inductive Cleaned (P:Program) (mu:List Nat) (ops:Array Oper) (o:Oper):St->Prop
 | plain:(∀c,o.op≠.defer c)->o.guard=none->Cleaned P mu ops o ⟨cleanOp P mu o,o.dst,none,none⟩
 | guarded {j:Nat} {w:Bool} {d:Nat}:(∀c,o.op≠.defer c)->o.guard=some (j,w)->(ops[j]?).bind (·.dst)=some d->Cleaned P mu ops o ⟨cleanOp P mu o,o.dst,some (d,w),none⟩
 | dfr {c:Operand} {args:Array Operand} {ats:Array TypeId}:o.op=.defer { callee:=.value c,args:=args,argTypes:=ats }->o.guard=none->Cleaned P mu ops o ⟨.mv c,o.dst,none,some (c,args)⟩
theorem cleanSt_cleaned {o:Oper} {st:St} (h:cleanSt P mu ops o=some st):Cleaned P mu ops o st:=by
 unfold cleanSt at h
 split at h
 ·rename_i ho hg;cases h;exact .dfr ho hg
 ·cases h
 ·rename_i hg hnd0 hnd;cases h;exact .plain (λ c hc=>hnd c hc) hg
 ·rename_i j w hg hnd
  split at h
  ·rename_i hd;cases h;exact .guarded (λ c hc=>hnd c hc) hg hd
  ·cases h
theorem wanted_none {o:Oper} {a:Act} (hg:o.guard=none):Region.wanted o (yielded ops a.tmps)=true:=by simp [Region.wanted,hg]
theorem wanted_some {o:Oper} {a:Act} {j:Nat} {w:Bool} {d:Nat} {b:Bool} (hg:o.guard=some (j,w)) (hd:(ops[j]?).bind (·.dst)=some d) (hs:a.tmps[d]?=some (.bool b)) :
  Region.wanted o (yielded ops a.tmps)=(b == w):=by
 simp only [Region.wanted,hg,yielded,hd,Option.bind_some,hs]
 cases b <;> cases w <;> rfl
theorem wanted_not {o:Oper} {N:Nat} {a:Act} {f:Fm} {ds:List Deferred} (hf:FR N a f ds) {j:Nat} {w:Bool} {d:Nat} {vs:Array Value} (hg:o.guard=some (j,w)) (hd:(ops[j]?).bind (·.dst)=some d) (hs:f d=.tuple vs) :
  Region.wanted o (yielded ops a.tmps)=false:=by
 have:=hf.get d
 rw [hs,Array.getD_eq_getD_getElem?] at this
 have hy:yielded ops a.tmps j=none:=by
  simp only [yielded,hd,Option.bind_some]
  cases hx:a.tmps[d]? with
  | none=>rfl
  | some v=>
   rw [hx] at this
   simp only [Option.getD_some] at this
   subst this
   rfl
 simp only [Region.wanted,hg,hy]
 cases w <;> rfl
theorem opx_ops {Q:Ex->Act->View T->Prop} {n:Kont T} (hQ:∀a f ds Z,FR N a f ds->n f ds Z->Q .normal a Z) (hN:∀(i:Nat) (o:Oper),ops[i]?=some o->∀d,o.dst=some d->d<N) :
  ∀(idxs:List Nat) (l:List St),idxs.mapM (λ i=>(ops[i]?).bind (cleanSt P mu ops))=some l ->
   ∀(a:Act) (f:Fm) (ds:List Deferred) (Z:View T),FR N a f ds->OpX S ro l n f ds Z->OpsV S fn ro ops idxs Q a Z:=by
 intro idxs
 induction idxs with
 | nil=>
  intro l hl a f ds Z hf h
  simp at hl
  subst hl
  exact ov_nil (hQ a f ds Z hf h)
 | cons i idxs ih=>
  intro l hl a f ds Z hf h
  simp only [List.mapM_cons,Option.pure_def,Option.bind_eq_bind,Option.bind_eq_some_iff] at hl
  obtain⟨st,⟨o,ho,hst⟩,l',hl',e⟩:=hl
  cases e
  have hd:=hN i o ho
  have step:∀{f:Fm},FR N a f ds->(∀c,o.op≠.defer c)->Region.wanted o (yielded ops a.tmps)=true->OX S (cleanOp P mu o) f (λ v Z'=>OpX S ro l' n (updO f o.dst v) ds Z') Z->OpsV S fn ro ops (i::idxs) Q a Z:=by
   intro f hf hnd hw h
   refine ov_cons ho hw (.inr hnd) (OpQ.opV (OX_sound (λ x=>hf.eval x) hsh_opsv (OX.mono (λ v Z' hv=>?_) h)))
   exact ih l' hl' _ _ _ _ (hf.put o.dst v hd) hv
  cases cleanSt_cleaned hst with
  | plain hnd hg=>simp only [OpX_cons,OpX1] at h;exact step hf hnd (wanted_none hg) h
  | @guarded j w d hnd hg hdj=>
   simp only [OpX_cons,OpX1] at h
   split at h
   ·rename_i b hb
    have hw:=wanted_some (ops:=ops) (o:=o) hg hdj (hf.slot hb)
    have e:upd f d (.bool b)=f:=upd_same hb
    cases b <;> cases w <;> simp only [GB,Bool.not_true,Bool.not_false] at h <;> rw [e] at h
    ·exact step hf hnd (by rw [hw];rfl) h
    ·exact ov_unwanted ho (by rw [hw];rfl) (ih l' hl' _ _ _ _ (hf.put o.dst undef hd) h)
    ·exact ov_unwanted ho (by rw [hw];rfl) (ih l' hl' _ _ _ _ (hf.put o.dst undef hd) h)
    ·exact step hf hnd (by rw [hw];rfl) h
   ·rename_i vs hb
    exact ov_unwanted ho (wanted_not hf hg hdj hb) (ih l' hl' _ _ _ _ (hf.put o.dst undef hd) h)
   ·exact h.elim
  | @dfr c args ats hop hg=>
   simp only [OpX_cons,OpX1] at h
   split at h
   ·rename_i g first capt e
    obtain⟨hro,h⟩:=h
    have hee:a.eval=evl f:=funext hf.eval
    refine ov_cons ho (wanted_none hg) (.inl hro) ?_
    unfold OpV
    simp only [execOp,hop,sv_bind,resolve,hee,e,Deferred.ofValue,sv_pure,NextV]
    refine⟨hro,ih l' hl' _ _ _ _ ?_ h⟩
    have h1:FR N { a with defers:={ target:=.fn g capt,args:=first++args.map (evl f) }::a.defers } f ({ target:=.fn g capt,args:=first++args.map (evl f) }::ds):=⟨by rw [hf.ds],hf.size,hf.get⟩
    exact h1.put o.dst undef hd
   ·exact h.elim
theorem le_shift_closed {Z':View T} {v:Value}:∀(v':Value) (Z2 Z3:View T),Shift Z2 Z3->(v'=v/\∃Z1,Shift Z3 Z1/\Z'.le Z1)->(v'=v/\∃Z1,Shift Z2 Z1/\Z'.le Z1):=
 λ _ _ _ hs ⟨e,Z1,h1,h2⟩=>⟨e,Z1,hs.trans h1,h2⟩
theorem dx_draw {Fin:Act->View T->Prop} {K:Kont T} {Z:View T} {rl:List Nat} {B:Nat->Nat->Prop} {late:Nat->Bool} {G:View T->Prop} {tail:List Nat} {kind:Nat->Nat} (hnil:∀a f ds Cn,FR N a f ds->(∀Z',Z.le Z'->Cn Z'->K f ds Z')->DrawG S ops rl B late G Z Fin tail Cn a) (hN:∀(i:Nat) (o:Oper),ops[i]?=some o->∀d,o.dst=some d->d<N)
  (hk2:∀i,kind i=0\/kind i=1\/kind i=3->i∉rl) (hk3:∀i,kind i≠0->kind i≠1->kind i≠3->i∈rl) (hk0:∀i,kind i=0->∀o,ops[i]?=some o->stable (cleanOp P mu o)=true/\(late i=true->isLoad (cleanOp P mu o)=false)) (hk1:∀i,kind i=1->late i=false) :
  ∀(idxs:List Nat) (l:List (Nat×St)),idxs.mapM (λ i=>((ops[i]?).bind (cleanSt P mu ops)).map λ st=>(kind i,st))=some l->(l.all λ x=>x.2.dfr.isNone)=true->(∀i∈idxs,∀o,ops[i]?=some o->o.guard=none\/i∉rl) ->
   ∀(a:Act) (f:Fm) (ds:List Deferred) (Cn:View T->Prop),FR N a f ds->DX S G l Cn K f ds Z->DrawG S ops rl B late G Z Fin (idxs++tail) Cn a:=by
 intro idxs
 induction idxs with
 | nil=>
  intro l hl _ _ a f ds Cn hf h
  simp at hl
  subst hl
  exact hnil a f ds Cn hf h
 | cons i idxs ih=>
  intro l hl hnd' hgr a f ds Cn hf h
  simp only [List.mapM_cons,Option.pure_def,Option.bind_eq_bind,Option.bind_eq_some_iff,Option.map_eq_some_iff] at hl
  obtain⟨x,⟨st,⟨o,ho,hst⟩,rfl⟩,l',hl',e⟩:=hl
  cases e
  simp only [List.all_cons,Bool.and_eq_true] at hnd'
  have hd:=hN i o ho
  have ihx:=ih l' hl' hnd'.2 (λ j hj=>hgr j (List.mem_cons_of_mem _ hj))
  have run:∀{f:Fm},FR N a f ds->Region.wanted o (yielded ops a.tmps)=true ->
    (match kind i with
     | 0=>OX S (cleanOp P mu o) f (λ v _=>DX S G l' Cn K (updO f o.dst v) ds Z) Z
     | 1=>∃v,(∀Z',Z.le Z'->Cn Z'->OX S (cleanOp P mu o) f (λ v' Z2=>v'=v/\∃Z1,Shift Z2 Z1/\Z'.le Z1) Z')/\DX S G l' Cn K (updO f o.dst v) ds Z
     | 3=>∃v,(∀Z',Z.le Z'->Cn Z'->OX S (cleanOp P mu o) f (λ v' Z2=>v'=v/\∃Z1,Shift Z2 Z1/\Z'.le Z1) Z')/\(∀Z',G Z'->OX S (cleanOp P mu o) f (λ v' Z2=>v'=v/\∃Z1,Shift Z2 Z1/\Z'.le Z1) Z')/\DX S G l' Cn K (updO f o.dst v) ds Z
     | _=>∃F:Value->View T->Prop,(∀v,Mono (F v))/\(∀Z',Z.le Z'->Cn Z'->OX S (cleanOp P mu o) f (λ v' Z2=>∃Z1,Shift Z2 Z1/\F v' Z1/\Z'.le Z1) Z') /\
       ∀v,(∃Z',Z.le Z'/\Cn Z'/\F v Z')->DX S G l' (λ Z'=>Cn Z'/\F v Z') K (updO f o.dst v) ds Z)->DrawG S ops rl B late G Z Fin (i::(idxs++tail)) Cn a:=by
   intro f hf hw h
   split at h
   ·rename_i hk
    obtain⟨v,hn,hst⟩:=OX.stable (hk0 i hk o ho).1 h
    refine .det v (hk2 i (.inl hk)) ho hw (λ Z' hle _=>?_) (λ hlt Z' _=>?_) (ihx _ _ _ _ (hf.put o.dst v hd) hn)
    ·exact OX_sound (λ x=>hf.eval x) le_shift_closed (hst Z' _ (.inr hle) ⟨rfl,Z',.refl _,.refl _⟩)
    ·exact OX_sound (λ x=>hf.eval x) le_shift_closed (hst Z' _ (.inl ((hk0 i hk o ho).2 hlt)) ⟨rfl,Z',.refl _,.refl _⟩)
   ·rename_i hk
    obtain⟨v,hop,hn⟩:=h
    refine .det v (hk2 i (.inr (.inl hk))) ho hw (λ Z' hle hc=>?_) (λ hlt=>by rw [hk1 i hk] at hlt;cases hlt) (ihx _ _ _ _ (hf.put o.dst v hd) hn)
    exact OX_sound (λ x=>hf.eval x) le_shift_closed (hop Z' hle hc)
   ·rename_i hk
    obtain⟨v,hop,hop',hn⟩:=h
    refine .det v (hk2 i (.inr (.inr hk))) ho hw (λ Z' hle hc=>?_) (λ _ Z' hg=>?_) (ihx _ _ _ _ (hf.put o.dst v hd) hn)
    ·exact OX_sound (λ x=>hf.eval x) le_shift_closed (hop Z' hle hc)
    ·exact OX_sound (λ x=>hf.eval x) le_shift_closed (hop' Z' hg)
   ·rename_i h0 h1 h3
    obtain⟨F,hF,hop,hn⟩:=h
    refine .rel F (hk3 i (λ e=>h0 e) (λ e=>h1 e) (λ e=>h3 e)) hF ho hw (λ Z' hle hc=>?_) (λ v hv=>ihx _ _ _ _ (hf.put o.dst v hd) (hn v hv))
    exact OX_sound (λ x=>hf.eval x) (λ v' Z2 Z3 hs ⟨Z1,a,b,c⟩=>⟨Z1,hs.trans a,b,c⟩) (hop Z' hle hc)
  cases cleanSt_cleaned hst with
  | plain hnd hg=>simp only [DX_cons,DX1] at h;exact run hf (wanted_none hg) h
  | @guarded j w d hnd hg hdj=>
   simp only [DX_cons,DX1] at h
   have hrl:i∉rl:=(hgr i (List.mem_cons_self ..) o ho).resolve_left (by rw [hg];simp)
   split at h
   ·rename_i b hb
    have hw:=wanted_some (ops:=ops) (o:=o) hg hdj (hf.slot hb)
    have e:upd f d (.bool b)=f:=upd_same hb
    cases b <;> cases w <;> simp only [GB,Bool.not_true,Bool.not_false] at h <;> rw [e] at h
    ·exact run hf (by rw [hw];rfl) h
    ·exact .un hrl ho (by rw [hw];rfl) (ihx _ _ _ _ (hf.put o.dst undef hd) h)
    ·exact .un hrl ho (by rw [hw];rfl) (ihx _ _ _ _ (hf.put o.dst undef hd) h)
    ·exact run hf (by rw [hw];rfl) h
   ·rename_i vs hb
    exact .un hrl ho (wanted_not hf hg hdj hb) (ihx _ _ _ _ (hf.put o.dst undef hd) h)
   ·exact h.elim
  | dfr=>simp at hnd'
end region
def PostC (N:Nat) (n:Kont T) (x:Nat->Kont T) (r:Kont T) (e:Ex) (a:Act) (Z:View T):Prop:=
 ∃f ds,FR N a f ds/\(match e with | .normal=>n f ds Z | .exit i=>x i f ds Z | .ret=>r f ds Z)
theorem DrawG.fin {ops:Array Oper} {rl:List Nat} {B:Nat->Nat->Prop} {late:Nat->Bool} {G:View T->Prop} {Z:View T} {Fin Fin':Act->View T->Prop} (hF:∀a Z,Fin a Z->Fin' a Z) {l:List Nat} {Cn:View T->Prop} {a:Act} (h:DrawG S ops rl B late G Z Fin l Cn a):DrawG S ops rl B late G Z Fin' l Cn a:=by
 induction h with
 | nil h=>exact .nil λ Z' a b=>hF _ _ (h Z' a b)
 | un a b c _ ih=>exact .un a b c ih
 | det v a b c d e _ ih=>exact .det v a b c d e ih
 | rel F a b c d e _ ih=>exact .rel F a b c d e ih
 | last a b c d e f g=>exact .last a b c d e f λ hx Z' h=>hF _ _ (g hx Z' h)
section code
variable {N:Nat} {fn:FuncId} {ro:Option Nat} {mu dets:List Nat}
theorem cv_loopG {G:Type} {c:Code} {Q:Ex->Act->View T->Prop} (I:G->Act->View T->Prop) (μ:G->Nat) {g:G} {a:Act} {Z:View T} (h_0:I g a Z)
  (round:∀g a Z,I g a Z->CodeV S fn ro c (λ e a' Z'=>match e with | .normal=>∃g',I g' a' Z'/\μ g'<μ g | e=>Q e a' Z') a Z):CodeV S fn ro (.loop c) Q a Z:=by
 intro Stop m b k cs hb hc
 refine .still rfl (λ _=>sg_loop) ?_
 have key:∀N g a Z,μ g<=N->I g a Z->J S Stop m (R b a (.code c::.inLoop c::k) cs) Z:=by
  intro N
  induction N with
  | zero=>
   intro g a Z hμ hI
   refine round g a Z hI Stop m b (.inLoop c::k) cs hb λ e a' Z' q=>?_
   cases e with
   | normal=>obtain⟨g',_,hlt⟩:=q;exact absurd hlt (by omega)
   | exit id=>exact (hc _ _ _ q).push (λ _ _=>rfl) (by simp)
   | ret=>exact (hc _ _ _ q).push (x:=.inLoop c) (λ _ _=>rfl) (by simp)
  | succ N ih=>
   intro g a Z hμ hI
   refine round g a Z hI Stop m b (.inLoop c::k) cs hb λ e a' Z' q=>?_
   cases e with
   | normal=>obtain⟨g',hI',hlt⟩:=q;exact .still rfl (λ _=>sg_inLoop) (ih g' a' Z' (by omega) hI')
   | exit id=>exact (hc _ _ _ q).push (λ _ _=>rfl) (by simp)
   | ret=>exact (hc _ _ _ q).push (x:=.inLoop c) (λ _ _=>rfl) (by simp)
 exact key _ g a Z (Nat.le_refl _) h_0
theorem inB_all {ops:Array Oper} (h:ops.all (inB N)=true):∀(i:Nat) (o:Oper),ops[i]?=some o->∀d,o.dst=some d->d<N:=by
 intro i o ho d hd
 have:=(Array.all_eq_true'.1 h) o (Array.mem_of_getElem? ho)
 simpa [inB,hd] using this
theorem region_sound (hm:P.follows .mixedOrders=true) {id:Nat} {ops:Array Oper} {d:Bool} {n:Kont T} {x:Nat->Kont T} {r:Kont T} {f:Fm} {ds:List Deferred} {Z:View T} {a:Act} (hf:FR N a f ds)
  (h:wpC S fn ro (cleanRegion P mu N dets ops d) n x r f ds Z):CodeV S fn ro (.region id ops d) (PostC N n x r) a Z:=by
 unfold cleanRegion at h
 split at h
 ·exact h.elim
 ·rename_i hall
  have hN:=inB_all (N:=N) (ops:=ops) (by simpa using hall)
  have hQ:∀a f ds Z,FR N a f ds->n f ds Z->PostC N n x r .normal a Z:=λ a f ds Z hf h=>⟨f,ds,hf,h⟩
  split at h
  ·split at h
   ·rename_i l hl
    exact cv_region (opx_ops hQ hN _ l hl a f ds Z hf h)
   ·exact h.elim
  ·dsimp only at h
   split at h
   ·exact h.elim
   ·rename_i hok
    simp only [Bool.or_eq_true,Bool.not_eq_true',not_or,Bool.not_eq_false] at hok
    obtain⟨hok,hgr⟩:=hok
    split at h
    ·rename_i x st hx
     split at h
     ·rename_i la lb hla hlb
      split at h
      ·rename_i hdf
       obtain⟨G,hG,h⟩:=h
       simp only [Option.bind_eq_some_iff] at hx
       obtain⟨x',hlast,st',⟨o,ho,hst⟩,hx⟩:=hx
       split at hx
       ·rename_i hc
        cases hx
        simp only [Bool.and_eq_true,List.contains_iff_mem,Option.isNone_iff_eq_none] at hc
        obtain⟨⟨⟨hxr,hss⟩,hsg⟩,hsd⟩:=hc
        refine cv_drawn (late:=lateB ops x) (G:=G) _ _ _ hm hok ?_
        refine DrawG.fin (Fin:=λ a Z=>∃f ds,FR N a f ds/\OpX S ro lb n f ds Z) (λ a Z ⟨f,ds,hf,h⟩=>opx_ops hQ hN _ lb hlb a f ds Z hf h) ?_
        obtain⟨hg,rfl⟩:o.guard=none/\st=⟨cleanOp P mu o,o.dst,none,none⟩:=by
         cases cleanSt_cleaned hst with
         | plain _ hg=>exact⟨hg,rfl⟩
         | guarded=>cases hsg
         | dfr=>cases hsd
        have hq:planGo ops (isRelB P mu dets ops) ops.size (List.range (tailFrom ops ops.size)) []=(planGo ops (isRelB P mu dets ops) ops.size (List.range (tailFrom ops ops.size)) []).dropLast++[x]:=by
         rw [List.getLast?_eq_some_iff] at hlast
         obtain⟨ys,hys⟩:=hlast
         rw [hys];simp
        rw [hq]
        refine dx_draw (S:=S) (mu:=mu) (tail:=[x]) (K:=lastX S G ⟨cleanOp P mu o,o.dst,none,none⟩ (OpX S ro lb n)) (λ a f ds Cn hf h=>.last hxr hG (λ j hj=>?_) ho (wanted_none hg) (λ Z' hle hc=>?_) (λ hx Z'' hg=>?_)) hN ?_ ?_ ?_ ?_ _ la hla hdf ?_ a f ds _ hf h
        ·refine masks_before ops ops.size x j ?_
         simpa [lateB] using hj
        ·exact OX_sound (λ x=>hf.eval x) (λ v' Z2 Z3 hs ⟨e,Z1,a,b⟩=>⟨e,Z1,hs.trans a,b⟩) (h Z' hle hc).1
        ·obtain⟨Z',hle,hc⟩:=hx
         exact⟨_,_,hf.put o.dst undef (hN x o ho),(h Z' hle hc).2 Z'' hg⟩
        ·intro i hi hc
         have hc':=List.contains_iff_mem.2 hc
         simp only [kindS,hc',if_true] at hi
         rcases hi with hi | hi | hi <;> cases hi
        ·intro i h0 h1 h3
         apply Classical.byContradiction
         intro hc
         have hc':(List.filter (isRelB P mu dets ops) (List.range (tailFrom ops ops.size))).contains i=false:=by
          cases hcc:(List.filter (isRelB P mu dets ops) (List.range (tailFrom ops ops.size))).contains i with
          | false=>rfl
          | true=>exact absurd (List.contains_iff_mem.1 hcc) hc
         simp only [kindS,hc',Bool.false_eq_true,if_false] at h0 h1 h3
         cases ho:ops[i]? with
         | none=>simp [ho] at h3
         | some o=>
          simp only [ho] at h0 h1 h3
          split at h0
          ·exact h0 rfl
          ·rename_i hh
           simp only [hh,Bool.false_eq_true,if_false] at h1 h3
           split at h1
           ·rename_i hl;simp [hl] at h3
           ·exact h1 rfl
        ·intro i h0 o ho
         simp only [kindS] at h0
         split at h0
         ·cases h0
         ·simp only [ho] at h0
          split at h0
          ·rename_i hh
           simp only [Bool.and_eq_true,Bool.or_eq_true,Bool.not_eq_true'] at hh
           exact⟨hh.1,λ hl=>hh.2.resolve_right (by rw [hl];simp)⟩
          ·split at h0 <;> cases h0
        ·intro i h1
         simp only [kindS] at h1
         split at h1
         ·cases h1
         ·split at h1
          ·split at h1
           ·cases h1
           ·split at h1
            ·cases h1
            ·rename_i hl;simpa using hl
          ·cases h1
        ·intro i _ o ho
         by_cases hc:i∈List.filter (isRelB P mu dets ops) (List.range (tailFrom ops ops.size))
         ·refine .inl ?_
          have:=List.all_eq_true.1 hgr i hc
          simpa [ho] using this
         ·exact .inr hc
       ·cases hx
      ·exact h.elim
     ·exact h.elim
    ·split at h
     ·rename_i la lb hla hlb
      split at h
      ·rename_i hdf
       refine cv_drawn (late:=λ _=>false) (G:=λ _=>False) _ _ _ hm hok ?_
       refine DrawG.fin (Fin:=λ a Z=>∃f ds,FR N a f ds/\OpX S ro lb n f ds Z) (λ a Z ⟨f,ds,hf,h⟩=>opx_ops hQ hN _ lb hlb a f ds Z hf h) ?_
       have key:=dx_draw (S:=S) (mu:=mu) (rl:=List.filter (isRelB P mu dets ops) (List.range (tailFrom ops ops.size))) (B:=BefOp ops) (late:=λ _=>false) (G:=λ _=>False) (tail:=[]) (Fin:=λ a Z=>∃f ds,FR N a f ds/\OpX S ro lb n f ds Z) (K:=OpX S ro lb n) (Z:=Z) (λ a f ds Cn hf h=>.nil λ Z' hle hc=>⟨f,ds,hf,h Z' hle hc⟩) hN ?_ ?_ ?_ (λ _ _=>rfl) _ la hla hdf ?_ a f ds (λ _=>True) hf h
       ·simpa using key
       ·intro i hi hc
        have hc':=List.contains_iff_mem.2 hc
        simp only [kindOf,hc',if_true] at hi
        rcases hi with hi | hi | hi <;> cases hi
       ·intro i h0 h1 h3
        apply Classical.byContradiction
        intro hc
        have hc':(List.filter (isRelB P mu dets ops) (List.range (tailFrom ops ops.size))).contains i=false:=by
         cases hcc:(List.filter (isRelB P mu dets ops) (List.range (tailFrom ops ops.size))).contains i with
         | false=>rfl
         | true=>exact absurd (List.contains_iff_mem.1 hcc) hc
        simp only [kindOf,hc',Bool.false_eq_true,if_false] at h0 h1
        cases ho:ops[i]? with
        | none=>simp [ho] at h1
        | some o=>
         simp only [ho] at h0 h1
         by_cases hs:stable (cleanOp P mu o)=true <;> simp [hs] at h0 h1
       ·intro i h0 o ho
        simp only [kindOf] at h0
        split at h0
        ·cases h0
        ·simp only [ho] at h0
         by_cases hs:stable (cleanOp P mu o)=true
         ·exact⟨hs,λ h=>by cases h⟩
         ·simp [hs] at h0
       ·intro i _ o ho
        by_cases hc:i∈List.filter (isRelB P mu dets ops) (List.range (tailFrom ops ops.size))
        ·refine .inl ?_
         have:=List.all_eq_true.1 hgr i hc
         simpa [ho] using this
        ·exact .inr hc
      ·exact h.elim
     ·exact h.elim
theorem wpC_sound (hm:P.follows .mixedOrders=true):∀(code:Code) {n:Kont T} {x:Nat->Kont T} {r:Kont T} {f:Fm} {ds:List Deferred} {Z:View T} {a:Act},FR N a f ds->wpC S fn ro (clean P mu N dets code) n x r f ds Z ->
  CodeV S fn ro code (PostC N n x r) a Z:=by
 intro code
 induction code with
 | skip=>exact λ hf h=>cv_skip ⟨_,_,hf,h⟩
 | label l=>exact λ hf h=>cv_label ⟨_,_,hf,h⟩
 | region id ops d=>
  intro n x r f ds Z a hf h
  simp only [clean] at h
  have cd:wpC S fn ro (.cd N (.region id ops d)) n x r f ds Z->CodeV S fn ro (.region id ops d) (PostC N n x r) a Z:=λ h=>by
   refine CodeV.mono (h a hf) λ e a' Z' ⟨ht,f',hf',hp⟩=>⟨f',a'.defers,⟨rfl,by rw [ht];exact hf.size,hf'⟩,?_⟩
   cases e <;> exact hp
  split at h
  ·exact cd h
  ·split at h
   ·exact cd h
   ·exact region_sound hm hf h
 | seq c_1 c_2 ih1 ih2=>
  intro n x r f ds Z a hf h
  refine cv_seq (CodeV.mono (ih1 hf h) λ e a' Z' hp=>?_)
  obtain⟨f',ds',hf',hp⟩:=hp
  cases e with
  | normal=>exact ih2 hf' hp
  | exit i=>exact⟨f',ds',hf',hp⟩
  | ret=>exact⟨f',ds',hf',hp⟩
 | cond c c_1 c_2 ih1 ih2=>
  intro n x r f ds Z a hf h
  replace h:iteX c (wpC S fn ro (clean P mu N dets c_1) n x r) (wpC S fn ro (clean P mu N dets c_2) n x r) f ds Z:=h
  unfold iteX at h
  split at h
  ·rename_i t ht
   refine cv_cond t (by rw [hf.eval];exact ht) ?_
   cases t
   ·exact ih2 hf h
   ·exact ih1 hf h
  ·exact h.elim
 | block id c ih=>
  intro n x r f ds Z a hf h
  refine cv_block (CodeV.mono (ih hf h) λ e a' Z' hp=>?_)
  obtain⟨f',ds',hf',hp⟩:=hp
  cases e with
  | normal=>exact⟨f',ds',hf',hp⟩
  | exit i=>
   simp only at hp ⊢
   by_cases e:i=id
   ·subst e
    have:Nat.beq i i=true:=by simp
    rw [this] at hp
    rw [if_pos rfl];exact⟨f',ds',hf',hp⟩
   ·have:Nat.beq i id=false:=by cases hb:Nat.beq i id with | false=>rfl | true=>exact absurd (Nat.eq_of_beq_eq_true hb) e
    rw [this] at hp
    rw [if_neg e];exact⟨f',ds',hf',hp⟩
  | ret=>exact⟨f',ds',hf',hp⟩
 | loop c ih=>
  intro n x r f ds Z a hf h
  obtain⟨α,L,I,μ,x0,he,hI,hr⟩:=h
  refine cv_loopG (G:=α) (λ y a Z=>∃f,FR N a (ovr (L y) f) ds/\I y Z) μ (g:=x0) ⟨f,by rw [he.ovr];exact hf,hI⟩ λ y a Z ⟨f,hf,hI⟩=>?_
  refine CodeV.mono (ih hf (hr y f Z hI)) λ e a' Z' hp=>?_
  obtain⟨f',ds',hf',hp⟩:=hp
  cases e with
  | normal=>
   obtain⟨rfl,y',he',hI',hlt⟩:=hp
   exact⟨y',⟨f',by rw [he'.ovr];exact hf',hI'⟩,hlt⟩
  | exit i=>exact⟨f',ds',hf',hp⟩
  | ret=>exact⟨f',ds',hf',hp⟩
 | rangeFunc c params assign body _ _=>
  intro n x r f ds Z a hf h
  refine CodeV.mono (h _ _ rfl rfl a hf) λ e a' Z' ⟨ht,hp⟩=>⟨f,a'.defers,⟨rfl,by rw [ht];exact hf.size,λ t=>by rw [ht];exact hf.get t⟩,?_⟩
  cases e <;> exact hp
 | exit id=>exact λ hf h=>cv_exit ⟨_,_,hf,h⟩
 | scope c ih=>exact λ hf h=>cv_scope (ih hf h)
 | goto l=>exact λ _ h=>h.elim
 | ret=>exact λ hf h=>cv_ret ⟨_,_,hf,h⟩
 | refuse w=>exact λ _ h=>h.elim
end code
def fm (args:List Value):Fm:=λ t=>args.getD t undef
end Go.TM
