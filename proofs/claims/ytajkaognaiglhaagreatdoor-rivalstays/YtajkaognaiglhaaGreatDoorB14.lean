/- Lemmas. No conditions. -/
import Derived.Conc.ClockLaws
import Derived.Test.YtajkaognaiglhaaGreatDoorB13
import Derived.Test.YtajkaognaiglhaaGreatDoorB12
set_option linter.all false
set_option maxRecDepth 100000
open List
namespace Go.TM
open Go.Proofs
abbrev Zz5:=List (Sum St (Oper×Option Nat×Option (Nat×Bool)))
variable{P:Program}{t:TypeId}{b i N d s c:Nat}{fd:Func}{e:Array Value->Sem Value}{o:Oper}{xs:Array Operand}{M:Operand->Value}{V:Array Value}{st sm st' sm' v:Value}{δ r u:Int}{es:Array Event}{vs:List Value}{A:Mark}{fn:FuncId}{a:Act}{ops:Array Oper}{rest mu is:List Nat}{y:Bool}{k:List Item}{cs:List Frame}{bs h:List (Nat×Bool)}{Q:Ex->Act->Qa Tk->Prop}{U:Qa Tk}{D:Spec}{x:ZA}{me:LP}{lo:Nat×Nat}{I:Nat->Bool}{M₁ M₂:List Q2}{T:Type}{S:Sys P T}{ro:Option Nat}{n:Zh T}{f:Fm}{ds:List Deferred}{W:Qa T}{j:Ex->Act->Qa T->Prop}{X:Code}{l:Zz5}
def qx{x:Operand}{f:Array TypeId}
  (w:o.op=.call { callee:=.value x,args:=xs,argTypes:=f }) (K:M x=.func (.func b) #[] #[]) (I:xs.map M=V)
  (F:P.funcs[b]?=some fd) (G:(fd.name== "runtime.NumGoroutine", fd.body.isNone)=(false,true)) (z:Extern.findNext fd=none) (B:Extern.find fd=some e) :
  Jo P t (execOp M o) st sm #[] []=Jo P t (e V >>= λ v=>pure (Next.value v)) st sm #[⟨.mark (.extern b),false,true⟩] []:=by
 obtain⟨H,E⟩:=by simpa only[Prod.mk.injEq]using G
 unfold execOp;rw[w];simp only[resolve,K,I,Deferred.ofValue,invoke,callFunc,program];simp only[Bind.bind,Pure.pure,Sem.bind,Jo,F,H,E,z,B,mark,Bool.false_eq_true,if_false,if_true,Array.empty_append,Array.append_empty];rfl
def GG(P:Program)(t:TypeId)(b:Nat):Prop:=∀(k:Bool->Sem Next)(st sm:Value)(es:Array Event),Jo P t (Extern.Atomic.touchesFrozen ⟨b,0,none⟩ >>= k) st sm es []=Jo P t (k false) st sm es [(b,false),(b,false)]
def qw(f:GG P t b) :
  Jo P t (Extern.Atomic.casT (.int .i32) #[.pb b,.int .i32 δ,.int .i32 r] >>= λ v=>pure (Next.value v)) (.int .i32 u) sm es [] =
   .ok (.value (.bool (u==δ))) (.int .i32 (if u=δ then r else u)) sm (if u=δ then(es.push (QA b 0)).push (QD b 0)else es.push (QA b 0)) (if u=δ then[(b,true),(b,true),(b,false),(b,false)]else[(b,true),(b,false),(b,false)]):=by
 show Jo P t (Sem.bind (Sem.bind (Extern.Atomic.touchesFrozen ⟨b,0,none⟩) _) _) _ _ _ _=_;rw[KC];refine(f _ _ _ _).trans ?_;by_cases e:u=δ
 .subst e;simp[Sem.bind,Bind.bind,Pure.pure,Extern.Atomic.read,load,store,Jo,ZQ,XE,QA,QD,Array.getLit]
 .have e':(u==δ)=false:=by simpa using e
  simp[Sem.bind,Bind.bind,Pure.pure,Extern.Atomic.read,load,store,Jo,ZQ,XE,QA,QD,Array.getLit,e,e']
def qv:
  Jo P t (Extern.Atomic.update (Op.intArith .add) .i32 true #[.pb b,.int .i32 r] >>= λ v=>pure (Next.value v)) (.int .i32 δ) sm es [] =
   .ok (.value (.int .i32 (IntKind.i32.wrap (δ+r)))) (.int .i32 (IntKind.i32.wrap (δ+r))) sm ((es.push (QA b 0)).push (QD b 0)) [(b,true),(b,true)]:=rfl
def To:
  Jo P t (Extern.Sync.semacquire ((.pointer (some ⟨b,1,none⟩)::vs).toArray) >>= λ v=>pure (Next.value v)) st (Zx 0) es []=.blocked st (Zx 0) [(b,true)]:=rfl
def Tp:
  Jo P t (Extern.Sync.semacquire ((.pointer (some ⟨b,1,none⟩)::vs).toArray) >>= λ v=>pure (Next.value v)) st (Zx 1) es []=.ok (.value (.tuple #[])) st (Zx 0) ((((es.push (Wj .disable)).push (QA b 1)).push (QD b 1)).push (Wj .enable)) [(b,true),(b,true)]:=rfl
def CS:
  Jo P t (Extern.Sync.semrelease ((.pointer (some ⟨b,1,none⟩)::vs).toArray) >>= λ v=>pure (Next.value v)) st (Zx 0) es []=.ok (.value (.tuple #[])) st (Zx 1) ((((es.push (Wj .disable)).push (QA b 1)).push (QD b 1)).push (Wj .enable)) [(b,true),(b,true)]:=rfl
def Od:Jo P t ((do mark A;pure (Value.tuple #[]):Sem Value) >>= λ v=>pure (Next.value v)) st sm es []=.ok (.value (.tuple #[])) st sm (es.push (Wj A)) []:=rfl
def OJ(B:ops[i]?=some o)(E:Region.wanted o (yielded ops a.tmps)=true){f:Frame}(z:Fr fn none f) :
  Q5 P t y (R f a (.inRegion ops (i::rest)::k) cs) st sm=X0 P (fr f a (.inRegion ops (i::rest)::k)) cs (Jo P t (execOp a.eval o) st sm #[] []):=by
 have w:f.roundOf=none:=z.2.1;have e:=PA f a (.inRegion ops (i::rest)::k);unfold Q5 R;simp only[fr];unfold GN;simp only[B,E,w];simp only[fr]at e;rw[w]at e;rw[e]
def Ww(F:ops[i]?=some o)(G:Region.wanted o (yielded ops a.tmps)=true){f:Frame}(z:Fr fn none f)
  (h:Jo P t (execOp a.eval o) st sm #[] []=.ok (.value v) st' sm' es bs):Q5 P t y (R f a (.inRegion ops (i::rest)::k) cs) st sm=.go (R f (a.put o.dst v) (.inRegion ops rest::k) cs) st' sm' (seen P fn es) bs:=by
 have E:f.kind≠.early:=z.2.2.1;have B:f.fn=fn:=z.1;have e:=HJ (b:=f) (a:=a) (k:=k) (rest:=rest) F v;rw[OJ F G z,h];unfold X0;simp only;cases w:f.kind with
 |early=>exact absurd w E
 |_=>
  simp only[Wq];simp only[fr,w]at e ⊢;rw[e];simp only[R,fr,w,B]
def En(B:ops[i]?=some o)(E:Region.wanted o (yielded ops a.tmps)=true){e:Frame}(z:Fr fn none e)
  (h:Jo P t (execOp a.eval o) st sm #[] []=.blocked st' sm' bs):Q5 P t y (R e a (.inRegion ops (i::rest)::k) cs) st sm=.blocked { R e a (.inRegion ops (i::rest)::k) cs with status:=.blocked } st' sm' bs:=by
 have w:e.kind≠.early:=z.2.2.1;rw[OJ B E z,h];unfold X0;simp only;cases f:e.kind with
 |early=>exact absurd f w
 |_=>simp only[R,fr,f]
def qF(W:ops[i]?=some o)(hw:Region.wanted o (yielded ops a.tmps)=true)(Z:U.tok=⟨d,.wrk b D,some (.lok x s me lo)⟩)
  (h:∀z p,lo.1<=p->(lo.1=p->lo.2=z.st)->p<=PB N->me.fits N z->∃v es bs me' z' d' lo',Js x.m bs/\Jo P x.t (execOp a.eval o) (QB z.st) (Zx z.f) #[] []=.ok (.value v) (QB z'.st) (Zx z'.f) es bs/\Tz me z me' z'/\lo'.1<=p/\(lo'.1=p->lo'.2=z'.st) /\
   me'.rels=me.rels/\me'.isOwn=me.isOwn/\(∀e∈seen P fn es,HW x.m e)/\deafBehind d (seen P fn es)=d'/\(z'.f=z.f\/z'.f=0\/∀b k cs,mayWake P (R b a (.inRegion ops (i::rest)::k) cs)=true)/\J7 (Zj P t N) fn none ops rest Q (a.put o.dst v) (U.lk d' b D x s me' lo')) :
  J7 (Zj P t N) fn none ops (i::rest) Q a U:=by
 intro Stop m E k cs B w;refine .syn (QC.mu (X:=J (Zj P t N) Stop) rfl Z λ z p q1 q2 q3 q4=>?_);obtain⟨v,es,bs,me',z',d',lo',F,G,H,I,K,L,M,S,T,V,Y⟩:=h z p q1 q2 q3 q4;exact⟨_,bs,_,me',z',d',lo',F,Ww W hw B G,H,I,K,L,M,S,T,V.imp id λ q=>q.imp id λ q=>q _ _ _,Y Stop m E k cs B w⟩
def N6(F:ops[i]?=some o)(G:Region.wanted o (yielded ops a.tmps)=true)(M:U.tok=⟨d,.wrk b D,some (.lok x s (.wai c) lo)⟩)(K:Js x.m bs)(B:Js x.m h)
  (H:∀st,Jo P x.t (execOp a.eval o) st (Zx 0) #[] []=.blocked st (Zx 0) bs) (I:∀st,Jo P x.t (execOp a.eval o) st (Zx 1) #[] []=.ok (.value v) st (Zx 0) es h) (L:seen P fn es=#[Wj .disable,QA x.m 1,QD x.m 1,Wj .enable])
  (k:∀z,z=.wok c\/z=.wos c 0->J7 (Zj P t N) fn none ops rest Q (a.put o.dst v) (U.lk d b D x s z lo)):J7 (Zj P t N) fn none ops (i::rest) Q a U:=by
 intro Stop m E k' cs e w;refine .syn (QC.mblk (X:=J (Zj P t N) Stop) rfl rfl M (λ st=>⟨bs,K,En F G e (H st)⟩) ⟨_,h,B,λ st=>?_,k _ (.inl rfl) Stop m E k' cs e w,k _ (.inr rfl) Stop m E k' cs e w⟩);rw[<- L];exact Ww F G e (I _)
def N5(F:ops[i]?=some o)(H:Region.wanted o (yielded ops a.tmps)=true)(G:U.tok=⟨0,.wrk b D,some (.lok x s .got lo)⟩)
  (h:∀st sm,Jo P x.t (execOp a.eval o) st sm #[] []=.ok (.value v) st sm es []) (E:seen P fn es=#[Wj (.acquire ⟨x.m,0,none⟩)])
  (k:∀R M,R s=false->x.sp R M->J7 (Zj P t N) fn none ops rest Q (a.put o.dst v) { U with M:=U.M++M,tok:=⟨0,.wrk b D,some (.lok x s (.own R) lo)⟩ }):J7 (Zj P t N) fn none ops (i::rest) Q a U:=by
 intro Stop m w k' cs e f;refine .syn (QC.macq (X:=J (Zj P t N) Stop) rfl G Z0 (λ st sm=>?_) λ R M z B=>k R M z B Stop m w k' cs e f);rw[<- E];exact Ww F H e (h _ _)
def N7(F:ops[i]?=some o)(H:Region.wanted o (yielded ops a.tmps)=true)(G:U.tok=⟨0,.wrk b D,some (.lok x s (.own I) lo)⟩)(B:U.M=M₁++M₂)(z:x.sp (Q9 I s true) M₁)
  (h:∀st sm,Jo P x.t (execOp a.eval o) st sm #[] []=.ok (.value v) st sm es []) (E:seen P fn es=#[Wj (.releaseMerge ⟨x.m,0,none⟩)])
  (k:J7 (Zj P t N) fn none ops rest Q (a.put o.dst v) { U with M:=M₂,tok:=⟨0,.wrk b D,some (.lok x s .rls lo)⟩ }):J7 (Zj P t N) fn none ops (i::rest) Q a U:=by
 intro Stop m w k' cs e f;refine .syn (QC.mrel (X:=J (Zj P t N) Stop) rfl G Z0 B z (λ st sm=>?_) (k Stop m w k' cs e f));rw[<- E];exact Ww F H e (h _ _)
def Jy(ev:Operand->Value)(o:Oper):execOp ev (Jg o)=execOp ev o:=rfl
def ZD(S:Sys P T)(fn:FuncId)(r:Oper)(f:Fm)(K:Value->Qa T->Prop)(U:Qa T):Prop:=
 ∀(ops:Array Oper)(i:Nat)(rest:List Nat)(Q:Ex->Act->Qa T->Prop)(a:Act)(o:Oper),a.eval=Zc f->ops[i]?=some o->Jg o=r->Region.wanted o (yielded ops a.tmps)=true ->
  (∀v U',K v U'->J7 S fn none ops rest Q (a.put o.dst v) U')->J7 S fn none ops (i::rest) Q a U
def V4(S:Sys P T)(fn:FuncId)(r:Oper)(dst:Option Nat)(g:Option (Nat×Bool))(K:Zh T):Zh T:=λ f ds U=>
 match g with
 |none=>ZD S fn r f (λ v U'=>K (QW f dst v) ds U') U
 |some (j,w)=>(match f j with
  |.bool b=>GB b w (ZD S fn r f (λ v U'=>K (QW f dst v) ds U') U) (K (QW f dst undef) ds U)
  |_=>False)
def Ol(ops:Array Oper)(o:Oper):Option (Option (Nat×Bool)):=
 match o.guard with
 |none=>some none
 |some (j,w)=>((ops[j]?).bind (·.dst)).map λ d=>some (d,w)
def Mo{Q:Ex->Act->Qa T->Prop}(hQ:∀a f ds U,FR N a f ds->n f ds U->J7 S fn ro ops rest Q a U)(hN:∀(i:Nat)(o:Oper),ops[i]?=some o->∀d,o.dst=some d->d<N) :
  ∀(idxs:List Nat)(l:List St),idxs.mapM (λ i=>(ops[i]?).bind (Z7 P mu ops))=some l ->
   ∀(a:Act)(f:Fm)(ds:List Deferred)(U:Qa T),FR N a f ds->ZV S ro l n f ds U->J7 S fn ro ops (idxs++rest) Q a U:=by
 intro idxs
 induction idxs with
 |nil=>
  intro l L a f ds U z h;simp at L;subst L;exact hQ a f ds U z h
 |cons i idxs V=>
  intro l L a f ds U z h;simp only[mapM_cons,Option.pure_def,Option.bind_eq_bind,Option.bind_eq_some_iff]at L;obtain⟨st,⟨o,G,Y⟩,l',E,e⟩:=L;cases e;have I:=hN i o G
  have step:∀{f:Fm},FR N a f ds->(∀c,o.op≠.defer c)->Region.wanted o (yielded ops a.tmps)=true->OX S (Zb P mu o) f (λ v U'=>ZV S ro l' n (QW f o.dst v) ds U') U->J7 S fn ro ops (i::(idxs++rest)) Q a U:=by
   intro f z B H h;refine Xl G H (.inr B) (QL.opV (Wx (λ x=>z.eval x) Ee (OX.mono (λ v U' hv=>?_) h)));exact V l' E _ _ _ _ (z.put o.dst v I) hv
  cases W0 Y with
  |plain B F=>simp only[Gh,H7]at h;exact step z B (Jr F) h
  |@guarded j w d B F K=>
   simp only[Gh,H7]at h;split at h
   .rename_i b hb;have H:=P7 (ops:=ops) (o:=o) F K (z.slot hb);have e:JC f d (.bool b)=f:=Pu hb;cases b <;> cases w <;> simp only[GB,Bool.not_true,Bool.not_false]at h <;> rw[e]at h
    .exact step z B (by rw[H];rfl) h
    .exact We G (by rw[H];rfl) (V l' E _ _ _ _ (z.put o.dst undef I) h)
    .exact We G (by rw[H];rfl) (V l' E _ _ _ _ (z.put o.dst undef I) h)
    .exact step z B (by rw[H];rfl) h
   .rename_i vs hb;exact We G (Vm z F K hb) (V l' E _ _ _ _ (z.put o.dst undef I) h)
   .exact h.elim
  |@dfr c args Z X F=>
   simp only[Gh,H7]at h;split at h
   .rename_i g first capt e
    obtain⟨M,h⟩:=h;have W:a.eval=Zc f:=funext z.eval;refine Xl G (Jr F) (.inl M) ?_;unfold HC;simp only[execOp,X,Qc,resolve,W,e,Deferred.ofValue,Qi,PL];refine⟨M,V l' E _ _ _ _ ?_ h⟩;have h1:FR N { a with defers:={ target:=.fn g capt,args:=first++args.map (Zc f) }::a.defers } f ({ target:=.fn g capt,args:=first++args.map (Zc f) }::ds):=⟨by rw[z.ds],z.size,z.get⟩;exact h1.put o.dst undef I
   .exact h.elim
def CL{g:Option (Nat×Bool)}{Q:Ex->Act->Qa T->Prop}(M:ops[i]?=some o)(E:Ol ops o=some g)(H:∀d,o.dst=some d->d<N)
  (G:∀a f ds W,FR N a f ds->n f ds W->J7 S fn none ops rest Q a W)     (B:FR N a f ds) (h:V4 S fn (Jg o) o.dst g n f ds W):J7 S fn none ops (i::rest) Q a W:=by
 unfold Ol at E;split at E
 .rename_i e;cases E;exact h ops i rest Q a o (funext B.eval) M rfl (Jr e) λ v U' L=>G _ _ _ _ (B.put o.dst v H) L
 .rename_i j w e;simp only[Option.map_eq_some_iff]at E;obtain⟨d,I,rfl⟩:=E;unfold V4 at h;simp only at h;split at h
  .rename_i b hb;have z:=P7 (ops:=ops) (o:=o) e I (B.slot hb);have F:ZD S fn (Jg o) f (λ v U'=>n (QW f o.dst v) ds U') W->Region.wanted o (yielded ops a.tmps)=true->J7 S fn none ops (i::rest) Q a W:=λ h z=>h ops i rest Q a o (funext B.eval) M rfl z λ v U' L=>G _ _ _ _ (B.put o.dst v H) L;have no:n (QW f o.dst undef) ds W->Region.wanted o (yielded ops a.tmps)=false->J7 S fn none ops (i::rest) Q a W:=λ h z=>We M z (G _ _ _ _ (B.put o.dst undef H) h);cases b <;> cases w <;> simp only[GB]at h
   .exact F h (by rw[z];rfl)
   .exact no h (by rw[z];rfl)
   .exact no h (by rw[z];rfl)
   .exact F h (by rw[z];rfl)
  .exact h.elim
def PX(S:Sys P T)(fn:FuncId)(l:Zz5):Zh T->Zh T:=
 List.rec (motive:=λ _=>Zh T->Zh T) (λ K=>K) (λ s _ e=>λ K=>match s with
  |.inl st=>H7 S none st e K
  |.inr (r,d,g)=>V4 S fn r d g (e K)) l
def Kq(P:Program)(mu is:List Nat)(ops:Array Oper)(i:Nat):Option (Sum St (Oper×Option Nat×Option (Nat×Bool))):=
 if is.contains i then(ops[i]?).bind λ o=>(Ol ops o).map λ g=>.inr (Jg o,o.dst,g)else((ops[i]?).bind (Z7 P mu ops)).map .inl
def Jc(P:Program)(mu:List Nat)(N:Nat)(c:Code)(is:List Nat):Option (Zz5):=
 match c with
 |.region _ ops false=>if ops.all (λ o=>o.dst.all (· < N))then(range ops.size).mapM (Kq P mu is ops)else none
 |_=>none
def N3(I:∀a f ds U,FR N a f ds->n f ds U->j .normal a U)(F:∀(i:Nat)(o:Oper),ops[i]?=some o->∀d,o.dst=some d->d<N) :
  ∀(idxs:List Nat)(l:Zz5),idxs.mapM (Kq P mu is ops)=some l ->
   ∀(a:Act)(f:Fm)(ds:List Deferred)(U:Qa T),FR N a f ds->PX S fn l n f ds U->J7 S fn none ops idxs j a U:=by
 intro idxs
 induction idxs with
 |nil=>
  intro l B a f ds U z h;simp at B;subst B;exact Og (I a f ds U z h)
 |cons i idxs H=>
  intro l B a f ds U z h;simp only[mapM_cons,Option.pure_def,Option.bind_eq_bind,Option.bind_eq_some_iff]at B;obtain⟨st,w,l',E,e⟩:=B;cases e;unfold Kq at w;split at w
  .simp only[Option.bind_eq_some_iff,Option.map_eq_some_iff]at w;obtain⟨o,G,g,K,rfl⟩:=w;have h:V4 S fn (Jg o) o.dst g (PX S fn l' n) f ds U:=h;exact CL G K (F i o G) (λ a f ds U z h=>H l' E a f ds U z h) z h
  .simp only[Option.map_eq_some_iff]at w;obtain⟨st,w,rfl⟩:=w;have h:ZV S none [st] (PX S fn l' n) f ds U:=h;exact Mo (mu:=mu) (idxs:=[i]) (rest:=idxs) (λ a f ds U z h=>H l' E a f ds U z h) F [st] (by simp[w]) a f ds U z h
def Zf(is:List Nat)(w:FR N a f ds)(e:Jc P mu N X is=some l)
  (h:PX S fn l (λ f ds W=>∀a',FR N a' f ds->j .normal a' W) f ds W):Zt S fn none X j a W:=by
 unfold Jc at e;split at e
 .rename_i id ops;split at e
  .rename_i hall
   have B:∀(i:Nat)(o:Oper),ops[i]?=some o->∀d,o.dst=some d->d<N:=by
    intro i o z d E;have:=Array.all_eq_true.1 hall i (Array.getElem?_eq_some_iff.1 z).1;rw[(Array.getElem?_eq_some_iff.1 z).2,E]at this;simpa using this
   exact Yf (N3 (n:=λ f ds W=>∀a',FR N a' f ds->j .normal a' W) (λ a f ds W w h=>h a w) B _ _ e a f ds W w h)
  .cases e
 .cases e
variable{g:FuncId}{K:Value->Qa Tk->Prop}{m:Nat}{z:Bool}{G H B:Operand}{ps:List Operand}{F w:Array TypeId}
section
open Go.Conc (seen_def seenStep)
def Gt:∀(l:List Event),(∀e∈l,e.sync=true/\∀g,e.loc≠.mark (.extern g))->seen P fn ((⟨.mark (.extern g),false,true⟩::l:List Event).toArray)=l.toArray:=by
 intro l E;rw[seen_def]
 have key:∀(l:List Event)(q:Bool)(k:Array Event),(∀e∈l,e.sync=true/\∀g,e.loc≠.mark (.extern g))->(l.foldl (seenStep λ f=>(P.funcs[f]?).any (·.norace)) (q,k)).2=k++l.toArray:=by
  intro l
  induction l with
  |nil=>intro q k _;simp
  |cons e l F=>
   intro q k h;obtain⟨z,G⟩:=h e (mem_cons_self ..)
   have w:seenStep (λ f=>(P.funcs[f]?).any (·.norace)) (q,k) e=(q,k.push e):=by
    unfold seenStep;simp only;split
    .simp_all
    .simp[z]
   rw[foldl_cons,w,F _ _ λ e B=>h e (mem_cons_of_mem _ B)];simp
 simp only[foldl_cons];have w:seenStep (λ f=>(P.funcs[f]?).any (·.norace)) ((P.funcs[fn]?).any (·.norace),#[]) ⟨.mark (.extern g),false,true⟩=((P.funcs[g]?).any (·.norace),#[]):=rfl;rw[w,key l _ _ E];simp
structure Jl(P:Program)(g:FuncId)(e:Array Value->Sem Value):Prop where
 fd:∃fd,P.funcs[g]?=some fd/\(fd.name== "runtime.NumGoroutine", fd.body.isNone)=(false,true)/\Extern.findNext fd=none/\Extern.find fd=some e
def Jl.ev{g:FuncId}{e:Array Value->Sem Value}(h:Jl P g e){c:Operand}{xs:Array Operand}{f:Array TypeId}{ev:Operand->Value}{st sm:Value}(w:o.op=.call { callee:=.value c,args:=xs,argTypes:=f })(G:ev c=.func (.func g) #[] #[]) :
  Jo P t (execOp ev o) st sm #[] []=Jo P t (e (xs.map ev) >>= λ v=>pure (Next.value v)) st sm #[⟨.mark (.extern g),false,true⟩] []:=by
 obtain⟨fd,z,B,E,F⟩:=h.fd;exact qx w G rfl z B E F
def Jl.wakes(h:Jl P g e){f:Array TypeId}(z:o.op=.call { callee:=.value (.func g),args:=xs,argTypes:=f })(F:ops[i]?=some o)(b:Frame)(k:List Item)(cs:List Frame) :
  mayWake P (R b a (.inRegion ops (i::rest)::k) cs)=true:=by
 obtain⟨fd,B,E,G,H⟩:=h.fd;obtain⟨L,I⟩:=by simpa only[Prod.mk.injEq]using E
 have w:fd.body.isSome=false:=by cases K:fd.body <;> simp_all
 have:(R b a (.inRegion ops (i::rest)::k) cs).frame.eval (.func g)=.func (.func g) #[] #[]:=rfl;unfold mayWake R;simp only[fr,F,Option.map_some,z];simp only[R,fr]at this;rw[this];simp[B,w]
def Ho(ht:U.tok=⟨d,.wrk b D,some (.lok x s me lo)⟩)
  (h:∀z p,lo.1<=p->(lo.1=p->lo.2=z.st)->p<=PB N->me.fits N z->∃v es bs me' z' d' lo',Js x.m bs/\Jo P x.t (execOp (Zc f) o) (QB z.st) (Zx z.f) #[] []=.ok (.value v) (QB z'.st) (Zx z'.f) es bs/\Tz me z me' z'/\lo'.1<=p/\(lo'.1=p->lo'.2=z'.st) /\
   me'.rels=me.rels/\me'.isOwn=me.isOwn/\(∀e∈seen P fn es,HW x.m e)/\deafBehind d (seen P fn es)=d'/\(z'.f=z.f\/z'.f=0\/∃g e xs w,Jl P g e/\o.op=.call { callee:=.value (.func g),args:=xs,argTypes:=w })/\K v (U.lk d' b D x s me' lo')):ZD (Zj P t N) fn o f K U:=by
 intro ops i rest Q a I ha G H hw hk;refine qF G hw ht λ z p q1 q2 q3 q4=>?_;rw[ha,<- Jy _ I,H];obtain⟨v,es,bs,me',z',d',lo',L,M,S,T,V,W,X,Y,Z,B,E⟩:=h z p q1 q2 q3 q4;exact⟨v,es,bs,me',z',d',lo',L,M,S,T,V,W,X,Y,Z,B.imp id λ q=>q.imp id λ⟨g,e,xs,w,he,F⟩b k cs=>he.wakes (o:=I) (by rw[<- F,<- H];rfl) G b k cs,hk _ _ E⟩
def Ku:∀e∈[QA m 0,QD m 0],HW m e:=by
 intro e f;simp at f;rcases f with rfl|rfl
 .exact .inr ⟨0,false,O1,rfl⟩
 .exact .inr ⟨0,true,O1,rfl⟩
def Kk:∀e∈[QA m 0,QD m 0],e.sync=true/\∀g,e.loc≠.mark (.extern g):=by
 intro e f;simp at f;rcases f with rfl|rfl <;> exact⟨rfl,λ g=>by simp[QA,QD]⟩
def K8{x w:Bool}:Js m [(m,x),(m,y),(m,z),(m,w)]/\Js m [(m,x),(m,y),(m,z)]:=by
 constructor <;> intro v h <;> simp at h
 .rcases h with rfl|rfl|rfl|rfl <;> rfl
 .rcases h with rfl|rfl|rfl <;> rfl
def VW{F:Operand}{M:Array TypeId}{w n:Nat}(L:Jl P g (Extern.Atomic.casT (.int .i32)))(hp:GG P x.t x.m)(Q:o.op=.call { callee:=.value (.func g),args:=#[F,G,H],argTypes:=M })
  (Y:Zc f F=.pb x.m) (Z:Zc f G=QB w) (h3:Zc f H=QB n) (ht:U.tok=⟨d,.wrk b D,some (.lok x s me lo)⟩)
  (S:∀z p,lo.1<=p->p<=PB N->me.fits N z->z.st=w->∃me' z',Tz me z me' z'/\z'.st=n/\z'.f=z.f/\me'.rels=me.rels/\me'.isOwn=me.isOwn/\K (.bool true) (U.lk d b D x s me' (p,n)))
  (no:∀z p,lo.1<=p->(lo.1=p->lo.2=z.st)->p<=PB N->me.fits N z->z.st≠w->K (.bool false) (U.lk d b D x s me (p,z.st))):ZD (Zj P t N) fn o f K U:=by
 refine Ho ht λ z p T q2 V W=>?_;have B:Jo P x.t (execOp (Zc f) o) (QB z.st) (Zx z.f) #[] []=_:=L.ev Q rfl;have hm:(#[F,G,H]:Array Operand).map (Zc f)=#[.pb x.m,QB w,QB n]:=by simp[Y,Z,h3]
 rw[hm]at B;rw[B];unfold QB;rw[qw hp];by_cases e:z.st=w
 .obtain⟨me',z',k1,k2,k3,k4,k5,k6⟩:=S z p T V W e;have e':(z.st:Int)=(w:Int):=by rw[e]
  have I:=Gt (P:=P) (fn:=fn) (g:=g) [QA x.m 0,QD x.m 0] Kk;refine⟨.bool true,(#[⟨.mark (.extern g),false,true⟩].push (QA x.m 0)).push (QD x.m 0),[(x.m,true),(x.m,true),(x.m,false),(x.m,false)],me',z',d,(p,n),?_,?_,k1,Nat.le_refl _,λ _=>k2.symm,k4,k5,?_,?_,.inl k3,k6⟩
  rotate_left
  .simp only[e',if_true,beq_self_eq_true,k2,k3]
  .intro ev B
   have:ev∈[QA x.m 0,QD x.m 0]:=by
    have E:(seen P fn ((#[⟨.mark (.extern g),false,true⟩].push (QA x.m 0)).push (QD x.m 0)))=#[QA x.m 0,QD x.m 0]:=I;rw[E]at B;simpa using B
   exact Ku ev this
  .have E:(seen P fn ((#[⟨.mark (.extern g),false,true⟩].push (QA x.m 0)).push (QD x.m 0)))=#[QA x.m 0,QD x.m 0]:=I;rw[E];rfl
  .exact K8.1
 .have e':¬(z.st:Int)=(w:Int):=O1
  have X:((z.st:Int)==(w:Int))=false:=by simpa using e'
  have I:=Gt (P:=P) (fn:=fn) (g:=g) [QA x.m 0] λ e L=>Kk (m:=x.m) e (by simp at L;subst L;simp);refine⟨.bool false,#[⟨.mark (.extern g),false,true⟩].push (QA x.m 0),[(x.m,true),(x.m,false),(x.m,false)],me,z,d,(p,z.st),?_,?_,.stay,Nat.le_refl _,λ _=>rfl,rfl,rfl,?_,?_,.inl rfl,no z p T q2 V W e⟩
  rotate_left
  .simp only[e',if_false,X]
  .intro ev B
   have:ev∈[QA x.m 0]:=by
    have E:(seen P fn (#[⟨.mark (.extern g),false,true⟩].push (QA x.m 0)))=#[QA x.m 0]:=I;rw[E]at B;simpa using B
   exact Ku ev (by simp at this;subst this;simp)
  .have E:(seen P fn (#[⟨.mark (.extern g),false,true⟩].push (QA x.m 0)))=#[QA x.m 0]:=I;rw[E];rfl
  .exact(K8 (x:=true) (y:=false) (z:=false) (w:=false)).2
def PY:seen P fn ((#[⟨.mark (.extern g),false,true⟩].push (QA m 0)).push (QD m 0))=#[QA m 0,QD m 0]:=Gt (P:=P) (fn:=fn) (g:=g) [QA m 0,QD m 0] Kk
def YY{w:Operand}{E:Array TypeId}(M:Jl P g (Extern.Atomic.update (Op.intArith .add) .i32 true))(F:o.op=.call { callee:=.value (.func g),args:=#[w,B],argTypes:=E })
  (I:Zc f w=.pb x.m) (L:Zc f B=.int .i32 δ) (S:U.tok=⟨d,.wrk b D,some (.lok x s me lo)⟩)
  (G:∀z p,p<=PB N->me.fits N z->(lo.1=p->lo.2=z.st)->∃me' z',Tz me z me' z'/\IntKind.i32.wrap (z.st+δ)=z'.st/\z'.f=z.f/\me'.rels=me.rels/\me'.isOwn=me.isOwn/\K (QB z'.st) (U.lk d b D x s me' (p,z'.st))):ZD (Zj P t N) fn o f K U:=by
 refine Ho S λ z p q1 Z q3 q4=>?_;have e:Jo P x.t (execOp (Zc f) o) (QB z.st) (Zx z.f) #[] []=_:=M.ev F rfl;have Q:(#[w,B]:Array Operand).map (Zc f)=#[.pb x.m,.int .i32 δ]:=by simp[I,L]
 rw[Q]at e;obtain⟨me',z',T,V,H,W,X,Y⟩:=G z p q3 q4 Z;refine⟨QB z'.st,(#[⟨.mark (.extern g),false,true⟩].push (QA x.m 0)).push (QD x.m 0),[(x.m,true),(x.m,true)],me',z',d,(p,z'.st),Z9,?_,T,Nat.le_refl _,λ _=>rfl,W,X,?_,?_,.inl H,Y⟩
 .rw[e];unfold QB;rw[qv,V,H]
 .intro ev e;rw[PY]at e;exact Ku ev (by simpa using e)
 .rw[PY];rfl
def qR:∀e∈[Wj .disable,QA m 1,QD m 1,Wj .enable],e.sync=true/\∀g,e.loc≠.mark (.extern g):=by
 intro e f;simp at f;rcases f with rfl|rfl|rfl|rfl <;> exact⟨rfl,λ g=>by simp[QA,QD,Wj]⟩
def PZ:seen P fn ((((#[⟨.mark (.extern g),false,true⟩].push (Wj .disable)).push (QA m 1)).push (QD m 1)).push (Wj .enable))=#[Wj .disable,QA m 1,QD m 1,Wj .enable]:=by
 have h:=Gt (P:=P) (fn:=fn) (g:=g) [Wj .disable,QA m 1,QD m 1,Wj .enable] qR;simpa using h
def Mx{e:Operand}{B:Array TypeId}(G:Jl P g Extern.Sync.semacquire)(w:o.op=.call { callee:=.value (.func g),args:=(e::ps).toArray,argTypes:=B })
  (S:Zc f e=.pointer (some ⟨x.m,1,none⟩)) (W:U.tok=⟨d,.wrk b D,some (.lok x s (.wai c) lo)⟩)
  (k:∀me,me=.wok c\/me=.wos c 0->K (.tuple #[]) (U.lk d b D x s me lo)):ZD (Zj P t N) fn o f K U:=by
 intro ops i rest Q a z F V I X T;have H:((e::ps).toArray).map (Zc f)=((.pointer (some ⟨x.m,1,none⟩))::ps.map (Zc f)).toArray:=by simp[S]
 have L:∀st,Jo P x.t (execOp a.eval z) st (Zx 0) #[] []=.blocked st (Zx 0) [(x.m,true)]:=λ st=>by
  rw[F,<- Jy _ z,I,G.ev w rfl,H];exact To
 have M:∀st,Jo P x.t (execOp a.eval z) st (Zx 1) #[] []=.ok (.value (.tuple #[])) st (Zx 0) ((((#[⟨.mark (.extern g),false,true⟩].push (Wj .disable)).push (QA x.m 1)).push (QD x.m 1)).push (Wj .enable)) [(x.m,true),(x.m,true)]:=λ st=>by
  rw[F,<- Jy _ z,I,G.ev w rfl,H];exact Tp
 exact N6 V X W Xz Z9 L M PZ λ me E=>T _ _ (k me E)
def OO(G:Jl P g Extern.Sync.semrelease)(E:o.op=.call { callee:=.value (.func g),args:=(B::ps).toArray,argTypes:=F })
  (I:Zc f B=.pointer (some ⟨x.m,1,none⟩)) (M:U.tok=⟨d,.wrk b D,some (.lok x s me lo)⟩) (e:me=.unl2\/me=.uls)
  (k:∀lo,K (.tuple #[]) (U.lk d b D x s .fin lo)):ZD (Zj P t N) fn o f K U:=by
 refine Ho M λ z p T V W Q=>?_;have L:((B::ps).toArray).map (Zc f)=((.pointer (some ⟨x.m,1,none⟩))::ps.map (Zc f)).toArray:=by simp[I]
 obtain⟨l,w,H,n,S⟩:=z
 obtain rfl:S=0:=by
  obtain⟨_,_,_,_,_,q⟩:=Q;rcases e with rfl|rfl <;> exact q
 refine⟨.tuple #[],(((#[⟨.mark (.extern g),false,true⟩].push (Wj .disable)).push (QA x.m 1)).push (QD x.m 1)).push (Wj .enable),[(x.m,true),(x.m,true)],.fin,⟨l,w,H,n,1⟩,d,(p,LZ.st ⟨l,w,H,n,1⟩),Z9,?_,?_,Nat.le_refl _,λ _=>rfl,?_,?_,?_,?_,.inr (.inr ⟨g,_,_,_,G,E⟩),k _⟩
 .rw[G.ev E rfl,L];exact CS
 .rcases e with rfl|rfl
  .exact .sem
  .exact .sems
 .rcases e with rfl|rfl <;> rfl
 .rcases e with rfl|rfl <;> rfl
 .intro ev hev;rw[PZ]at hev;simp at hev;rcases hev with rfl|rfl|rfl|rfl
  .exact .inl rfl
  .exact .inr ⟨1,false,O1,rfl⟩
  .exact .inr ⟨1,true,O1,rfl⟩
  .exact .inl rfl
 .rw[PZ];rfl
def qQ(w:∀g,A≠.extern g):∀e∈[Wj A],e.sync=true/\∀g,e.loc≠.mark (.extern g):=by
 intro e f;simp at f;subst f;exact⟨rfl,λ g h=>w g (by simpa[Wj]using h)⟩
def H1{m:Mark}(e:∀g,m≠.extern g):seen P fn (#[⟨.mark (.extern g),false,true⟩].push (Wj m))=#[Wj m]:=Gt (P:=P) (fn:=fn) (g:=g) [Wj m] (qQ e)
def XA{e:Array TypeId}{m:Mark}(B:m=.disable\/m=.enable)(G:Jl P g λ _=>do mark m;pure (Value.tuple #[]))(w:o.op=.call { callee:=.value (.func g),args:=xs,argTypes:=e })
  (H:U.tok=⟨d,.wrk b D,some (.lok x s me lo)⟩) {d':Nat} (F:deafBehind d #[Wj m]=d') (k:K (.tuple #[]) (U.lk d' b D x s me lo)):ZD (Zj P t N) fn o f K U:=by
 have E:∀g,m≠.extern g:=by intro g;rcases B with rfl|rfl <;> simp
 refine Ho H λ z p I L M Q=>?_;refine⟨.tuple #[],#[⟨.mark (.extern g),false,true⟩].push (Wj m),[],me,z,d',lo,Z0,?_,.stay,I,L,rfl,rfl,?_,?_,.inl rfl,k⟩
 .rw[G.ev w rfl];exact Od
 .intro ev hev;rw[H1 E]at hev;simp at hev;subst hev;rcases B with rfl|rfl <;> exact .inl rfl
 .rw[H1 E];exact F
def Gp{e:Operand}(G:Jl P g (Extern.Race.marked .acquire))(B:o.op=.call { callee:=.value (.func g),args:=#[e],argTypes:=w })
  (z:Zc f e=.pb x.m) (T:U.tok=⟨0,.wrk b D,some (.lok x s .got lo)⟩)
  (k:∀R M,R s=false->x.sp R M->K (.tuple #[]) { U with M:=U.M++M,tok:=⟨0,.wrk b D,some (.lok x s (.own R) lo)⟩ }):ZD (Zj P t N) fn o f K U:=by
 intro ops i rest Q a W F L S V H;have I:(#[e]:Array Operand).map (Zc f)=#[.pb x.m]:=by simp[z]
 refine N5 (x:=x) (v:=.tuple #[]) (es:=#[⟨.mark (.extern g),false,true⟩].push (Wj (.acquire ⟨x.m,0,none⟩))) L V T (λ st sm=>?_) (H1 λ g=>S1) λ R M z E=>H _ _ (k R M z E);rw[F,<- Jy _ W,S,G.ev B rfl,I];rfl
def L0{e:Operand}{R:Nat->Bool}(H:Jl P g (Extern.Race.marked .releaseMerge))(z:o.op=.call { callee:=.value (.func g),args:=#[e],argTypes:=w })
  (B:Zc f e=.pb x.m) (V:U.tok=⟨0,.wrk b D,some (.lok x s (.own R) lo)⟩) (F:U.M=M₁++M₂) (E:x.sp (Q9 R s true) M₁)
  (k:K (.tuple #[]) { U with M:=M₂,tok:=⟨0,.wrk b D,some (.lok x s .rls lo)⟩ }):ZD (Zj P t N) fn o f K U:=by
 intro ops i rest Q a X G S T W I;have L:(#[e]:Array Operand).map (Zc f)=#[.pb x.m]:=by simp[B]
 refine N7 (x:=x) (v:=.tuple #[]) (es:=#[⟨.mark (.extern g),false,true⟩].push (Wj (.releaseMerge ⟨x.m,0,none⟩))) S W V F E (λ st sm=>?_) (H1 λ g=>S1) (I _ _ k);rw[G,<- Jy _ X,T,H.ev z rfl,L];rfl
def JV(e:∀st sm,Jo P x.t (execOp (Zc f) o) st sm #[] []=.ok (.value st) st sm es [(x.m,true)])(w:seen P fn es=#[])(B:U.tok=⟨d,.wrk b D,some (.lok x s me lo)⟩)
  (k:∀z p,lo.1<=p->(lo.1=p->lo.2=z.st)->p<=PB N->me.fits N z->K (QB z.st) (U.lk d b D x s me (p,z.st))):ZD (Zj P t N) fn o f K U:=by
 refine Ho B λ z p E F G H=>?_;exact⟨QB z.st,es,[(x.m,true)],me,z,d,(p,z.st),Xz,e _ _,.stay,Nat.le_refl _,λ _=>rfl,rfl,rfl,by rw[w];simp,by rw[w];rfl,.inl rfl,k z p E F G H⟩
def My(e:∀st sm,Jo P x.t (execOp (Zc f) o) st sm #[] []=.ok (.value st) st sm es [(x.m,true)])(w:seen P fn es=#[])(H:U.tok=⟨d,.wrk b D,some (.lok x s (.wos c i) lo)⟩)
  (k:∀z p,p<=PB N->LP.fits N (.wos c z.n) z->K (QB z.st) (U.lk d b D x s (.wos c z.n) (p,z.st))):ZD (Zj P t N) fn o f K U:=by
 refine Ho H λ z p M Q I L=>?_;obtain⟨a1,a2,a3,a4,a5,E,a7,F,G,B⟩:=L;exact⟨QB z.st,es,[(x.m,true)],.wos c z.n,z,d,(p,z.st),Xz,e _ _,.see,Nat.le_refl _,λ _=>rfl,rfl,rfl,by rw[w];simp,by rw[w];rfl,.inl rfl,k z p I ⟨a1,a2,a3,a4,a5,E,a7,F,G,Nat.le_refl _⟩⟩
def Mz(nx:LZ->LP)(e:∀st sm,Jo P x.t (execOp (Zc f) o) st sm #[] []=.ok (.value st) st sm es [(x.m,true)])(w:seen P fn es=#[])(I:U.tok=⟨d,.wrk b D,some (.lok x s me lo)⟩)
  (H:∀z,me.fits N z->Tz me z (nx z) z/\(nx z).rels=me.rels/\(nx z).isOwn=me.isOwn)
  (k:∀z p,lo.1<=p->p<=PB N->me.fits N z->K (QB z.st) (U.lk d b D x s (nx z) (p,z.st))):ZD (Zj P t N) fn o f K U:=by
 refine Ho I λ z p L Q M B=>?_;obtain⟨E,F,G⟩:=H z B;exact⟨QB z.st,es,[(x.m,true)],nx z,z,d,(p,z.st),Xz,e _ _,E,Nat.le_refl _,λ _=>rfl,F,G,by rw[w];simp,by rw[w];rfl,.inl rfl,k z p L M B⟩
def H0(e:∀st sm,Jo P x.t (execOp (Zc f) o) st sm #[] []=.ok (.value v) st sm #[] bs)(E:Js x.m bs)(w:seen P fn #[]=#[])(B:U.tok=⟨d,.wrk b D,some (.lok x s me lo)⟩)
  (k:K v U):ZD (Zj P t N) fn o f K U:=by
 refine Ho B λ z p F G H I=>?_;exact⟨v,#[],bs,me,z,d,lo,E,e _ _,.stay,F,G,rfl,rfl,by rw[w];simp,by rw[w];rfl,.inl rfl,by rw[Qa.lk_self B];exact k⟩
def Cu(U:Qa Tk)(w:World):Z_ U w w.later U:=
 ⟨⟨w.tick,rfl⟩,rfl,rfl,Nat.le_refl _,λ _ c _ fr h=>⟨c,fr,h,rfl,λ _ _=>rfl,.inl rfl⟩,λ _ _ h _ _=>h,λ _ h=>.inl h,λ _ h=>.inl h⟩
def HK(I:o.op=.call { callee:=.value (.func g),args:=xs,argTypes:=F })(S:P.funcs[g]?=some fd)(B:(fd.name== "runtime.NumGoroutine")=false)(L:fd.body.isNone=true)(V:Extern.findNext fd=none)(M:Extern.find fd=some Extern.OsHooks.nano)(X:fd.norace=true)
  (k:∀n:Int,K (.int .i64 n) U):ZD (Zj P t N) fn o f K U:=by
 intro ops i rest Q a o' ha W Y Z T Stop m E kk cs z H;refine .priv ⟨rfl,λ w ok=>⟨_,w.later,#[],U,?_,S1,Cu U w,⟨ok.imm,ok.held,ok.apart,ok.sep⟩,rfl,T _ _ (k ((w.os.mono+w.tick:Nat):Int)) Stop m E kk cs z H⟩⟩
 have e:∀(a:Act)(todo:List Item),R E a todo cs=Go.Conc.G (E.at a todo) cs:=by
  intro a todo;simp only[R,fr,Go.Conc.G,Frame.at];obtain⟨_,_,_,_,_,_,ro⟩:=E;have:ro=none:=z.2.1;subst this;rfl
 rw[e,e];exact Go.Conc.stepG_nanotime W Z z.2.2.1 (by rw[<- I,<- Y];rfl) S B L V M X
end
section
open Go.Conc (QuitsD)
variable(b:Nat)(T:Array Value)(todo:List Item)
def Rj:QuitsD Tryz.prog 24 1 (KF b T todo):=SX (n:=17) (NE b T todo) (Fo (NF b T todo) (by simp[Wj,Event.mute]) (SX (n:=6) (k:=0) (NG b T todo) ⟨NM b T todo,rfl⟩))
def RJ:Tl Tryz.prog 118 20 b 177 1 (.lst b 0) (KE b T todo):=
 Tl.calm (n:=103) (k:=73+1) (NA b T todo) Z0 ⟨Zp (SE.of_info (g:=Vf b T todo) (TE b T todo)),.inr (.inr (.inl ⟨rfl,rfl,_,_,Xz,SE.of_info (g:=Vf b T todo) (TE b T todo),
 Tl.calm (n:=20) (k:=52+1) (NB b T todo) Z0 ⟨Zp (SE.of_info (g:=Vg b T todo) (TF b T todo)),.inr (.inr (.inr (.inl ⟨rfl,rfl,_,_,Xz,SE.of_info (g:=Vg b T todo) (TF b T todo),
 Tl.calm (n:=27) (k:=24+1) (NC b T todo) Z0 ⟨Zp (SE.of_info (g:=P3 b T todo) (TG b T todo)),.inr (.inr (.inr (.inr ⟨rfl,rfl,ND b T todo,_,_,Z9,SE.of_info (g:=P3 b T todo) (TG b T todo),Rj b T todo⟩)))⟩⟩)))⟩⟩))⟩
def qz(e:1<=c)(f:c<=20)(w:N<=1):IntKind.u64.wrap (((c*4294967296+N:Nat):Int)+18446744069414584320)=(((c-1)*4294967296+N:Nat):Int):=by
 have key:(range 20).all (λ c=>(range 2).all λ N=>decide (IntKind.u64.wrap ((((c+1)*4294967296+N:Nat):Int)+18446744069414584320)=(((c+1-1)*4294967296+N:Nat):Int)))=true:=K1
 have:=of_decide_eq_true (all_eq_true.1 (all_eq_true.1 key (c-1) (mem_range.2 O1)) N (mem_range.2 O1))
 rwa [show c-1+1=c by omega]at this
def Fv(c wt:Nat)(z:1<=c)(B:c<=20)(E:wt<=1):∃g' bs,Js b bs/\Q5 Tryz.prog 118 false (Hg b T todo) (Jh c wt) (Zx 0)=.go g' (Jh (c-1) wt) (Zx 0) #[QA b 0,QD b 0] bs /\
  (if c=1/\wt=1 then Tl Tryz.prog 118 20 b 177 1 (.lst b 0) g' else QuitsD Tryz.prog 177 1 g'):=by
 have w:=TX b T todo c wt;rw[qz z B E]at w;refine⟨XT (Hg b T todo) (Jh c wt) (Zx 0),_,Z9,SE.of_info (g:=Hg b T todo) w,?_⟩;by_cases e:c=1/\wt=1
 .rw[if_pos e];obtain⟨rfl,rfl⟩:=e;exact RJ b T todo
 .rw[if_neg e];have:=all_eq_true.1 (AA b T todo) (c-1) (mem_range.2 O1);rw[show c-1+1=c by omega]at this;obtain⟨F,f⟩:=Bool.and_eq_true_iff.1 this;obtain rfl|rfl:wt=0\/wt=1:=O1
  .exact KU (k:=67) (KH F)
  .rcases Bool.or_eq_true_iff.1 f with f|f
   .have:c-1=0:=by simpa using f
    omega
   .exact KU (k:=67) (KH f)
def Bj:∃n,Tl Tryz.prog 118 20 b n 0 (.rel b) (Yx b T todo):=
 ⟨_,Tl.calm (n:=3) (R1 b T todo) Z0 (Tl.mute (n:=34+(177+1)) (d:=0) (R2 b T todo) rfl Z0 (by simp[Wj,Event.mute]) (Tl.calm (n:=34) (R3 b T todo) Z0
  ⟨Zp (SE.of_info (g:=Hg b T todo) (TX b T todo 1 0)),.inr (.inl ⟨rfl,rfl,λ c wt e f w=>Fv b T todo c wt e f w⟩)⟩))⟩
