/- Lemmas. No conditions. -/
import Derived.Test.YtajkaognaiglhaaGreatDoorB00
set_option linter.all false
open List
namespace Go
abbrev Operand.t(n:Nat):Operand:=.tmp n
abbrev Operand.ci(n:Int):Operand:=.const (.int .i64 n)
abbrev Operand.cb(b:Bool):Operand:=.const (.bool b)
abbrev Operand.cn:Operand:=.const (.slice none 0 0)
end Go
namespace Go.TM
variable{T:Type}{P:Program}{S:Sys P T}
structure St where
 o:O
 dst:Option Nat
 g:Option (Nat×Bool)
 dfr:Option (Operand×Array Operand):=none
abbrev St.d(n:Nat)(o:O):St:=⟨o,some n,none,none⟩
abbrev St.m(n k:Nat):St:=⟨.mv (.tmp k),some n,none,none⟩
abbrev St.u(n j:Nat)(b:Bool)(o:O):St:=⟨o,some n,some (j,b),none⟩
abbrev Zh(T:Type):=Fm->List Deferred->Qa T->Prop
def GB(b e:Bool)(A B:Prop):Prop:=
 match b,e with
 |true,true=>A
 |false,false=>A
 |true,false=>B
 |false,true=>B
def Jb{b e:Bool}{A B:Prop}(h:b=e->A)(f:b=!e->B):GB b e A B:=by
 cases b <;> cases e <;> first|exact h rfl|exact f rfl
def CB(b:Bool)(A B:Prop):Prop:=
 match b with
 |true=>A
 |false=>B
def Qe{b:Bool}{A B:Prop}(h:b=true->A)(e:b=false->B):CB b A B:=by cases b <;> first|exact h rfl|exact e rfl
def H0(S:Sys P T)(ro:Option Nat)(st:St)(z:Zh T->Zh T)(K:Zh T):Zh T:=λ f ds U=>
  match st.g with
  |some (j,e)=>(match f j with
   |.bool b=>GB b e (OX S st.o (JB f j (.bool e)) (λ v U'=>z K (QW (JB f j (.bool e)) st.dst v) ds U') U)
     (z K (QW (JB f j (.bool !e)) st.dst undef) ds U)
   |.tuple _=>z K (QW f st.dst undef) ds U
   |_=>False)
  |none=>(match st.dfr with
   |some (c,args)=>(match Zc f c with
    |.func fn first w=>ro=none/\z K (QW f st.dst undef) ({ target:=.fn fn w,args:=first++args.map (Zc f) }::ds) U
    |_=>False)
   |none=>OX S st.o f (λ v U'=>z K (QW f st.dst v) ds U') U)
def ZT(S:Sys P T)(ro:Option Nat)(l:List St):Zh T->Zh T:=List.rec (motive:=λ _=>Zh T->Zh T) (λ K=>K) (λ st _ e=>H0 S ro st e) l
def Gh(S:Sys P T)(ro:Option Nat)(st:St)(r:List St)(K:Zh T):ZT S ro (st::r) K=H0 S ro st (ZT S ro r) K:=rfl
def PX(S:Sys P T)(G:Qa T->Prop)(H:Nat)(st:St)(E:(Qa T->Prop)->Zh T->Zh T)(C:Qa T->Prop)(K:Zh T):Zh T:=λ f ds U=>
  let run (f:Fm):Prop:=match H with
   |0=>OX S st.o f (λ v _=>E C K (QW f st.dst v) ds U) U
   |1=>∃v,(∀U',U.le U'->C U'->OX S st.o f (λ B z=>B=v/\∃e,Q1 z e/\U'.le e) U')/\E C K (QW f st.dst v) ds U
   |3=>∃v,(∀U',U.le U'->C U'->OX S st.o f (λ B z=>B=v/\∃e,Q1 z e/\U'.le e) U')/\(∀U',G U'->OX S st.o f (λ B z=>B=v/\∃e,Q1 z e/\U'.le e) U')/\E C K (QW f st.dst v) ds U
   |_=>∃F:Value->Qa T->Prop,(∀v,XJ (F v))/\(∀U',U.le U'->C U'->OX S st.o f (λ B z=>∃e,Q1 z e/\F B e/\U'.le e) U') /\
     ∀v,(∃U',U.le U'/\C U'/\F v U')->E (λ U'=>C U'/\F v U') K (QW f st.dst v) ds U
  match st.g with
  |some (j,w)=>(match f j with
   |.bool b=>GB b w (run (JB f j (.bool w))) (E C K (QW (JB f j (.bool !w)) st.dst undef) ds U)
   |.tuple _=>E C K (QW f st.dst undef) ds U
   |_=>False)
  |none=>run f
def DX(S:Sys P T)(G:Qa T->Prop)(l:List (Nat×St)):(Qa T->Prop)->Zh T->Zh T:=
 List.rec (motive:=λ _=>(Qa T->Prop)->Zh T->Zh T) (λ C K f ds U=>∀U',U.le U'->C U'->K f ds U') (λ p _ e=>PX S G p.1 p.2 e) l
def OO(S:Sys P T)(G:Qa T->Prop)(e:Nat)(st:St)(r:List (Nat×St)):DX S G ((e,st)::r)=PX S G e st (DX S G r):=rfl
def ES(S:Sys P T)(G:Qa T->Prop)(st:St)(K:Zh T):Zh T:=λ f ds U=>
 OX S st.o f (λ z w=>z=undef/\∃e,Q1 w e/\G e) U/\∀U',G U'->K (QW f st.dst undef) ds U'
def ovr:List (Nat×Value)->Fm->Fm
 |[],f=>f
 |p::l,f=>JB (ovr l f) p.1 p.2
def XE(f:Fm)(l:List (Nat×Value)):Prop:=List.rec (motive:=λ _=>Prop) True (λ p _ e=>f p.1=p.2/\e) l
def Pw{f:Fm}{d:Nat}{v:Value}(h:f d=v):JB f d v=f:=by
 funext t;simp only[JB];cases e:Nat.beq t d with
 |true=>rw[Nat.eq_of_beq_eq_true e];exact h.symm
 |false=>rfl
def XE.ovr{f:Fm}:∀{l:List (Nat×Value)},XE f l->ovr l f=f
 |[],_=>rfl
 |(d,v)::l,h=>by
  show JB (TM.ovr l f) d v=f;rw[XE.ovr h.2];exact Pw h.1
structure FR(N:Nat)(a:Act)(f:Fm)(ds:List Deferred):Prop where
 ds:a.defers=ds
 size:a.tmps.size=N
 get:∀t,a.tmps.getD t undef=f t
def FR.eval{N:Nat}{a:Act}{f:Fm}{ds:List Deferred}(h:FR N a f ds)(x:Operand):a.eval x=Zc f x:=by
 cases x with
 |tmp t=>exact h.get t
 |_=>rfl
def FR.put{N:Nat}{a:Act}{f:Fm}{ds:List Deferred}(h:FR N a f ds)(dst:Option Nat)(v:Value)(B:∀d,dst=some d->d<N):FR N (a.put dst v) (QW f dst v) ds:=by
 cases dst with
 |none=>exact h
 |some d=>
  have w:=B d rfl;refine⟨h.ds,by simpa[Act.put]using h.size,λ t=>?_⟩;simp only[Act.put,QW,JB,Array.getD_eq_getD_getElem?,Array.getElem?_setIfInBounds];by_cases e:d=t
  .subst e;have:d<a.tmps.size:=by rw[h.size];exact w
   simp[this]
  .have e':Nat.beq t d=false:=by cases z:Nat.beq t d with|false=>rfl|true=>exact absurd (Nat.eq_of_beq_eq_true z).symm e
   have:=h.get t;simp only[Array.getD_eq_getD_getElem?]at this;simp[e,e',this]
def FR.slot{N:Nat}{a:Act}{f:Fm}{ds:List Deferred}(h:FR N a f ds){d:Nat}{b:Bool}(w:f d=.bool b):a.tmps[d]?=some (.bool b):=by
 have:=h.get d;rw[w,Array.getD_eq_getD_getElem?]at this;cases e:a.tmps[d]? with
 |none=>rw[e]at this;cases this
 |some v=>rw[e]at this;simpa using this
inductive C where
 |skip
 |seq (x y:C)
 |ite (c:Operand) (x y:C)
 |block (id:Nat) (b:C)
 |loop (b:C)
 |exit (id:Nat)
 |ret
 |scope (b:C)
 |reg (l:List St)
 |drw (qs:List (Nat×St)) (ts:List St)
 |drs (qs:List (Nat×St)) (st:St) (ts:List St)
 |rng (N:Nat) (mu dets:List Nat) (f:Operand) (params:Array Tmp) (assign body:C)
 |cd (N:Nat) (c:Code)
 |bad
def Z7(P:Program)(mu:List Nat)(ops:Array Oper)(o:Oper):Option St:=
 match o.op,o.guard with
 |.defer { callee:=.value c,args,.. },none=>some ⟨.mv c,o.dst,none,some (c,args)⟩
 |.defer _,_=>none
 |_,none=>some ⟨Zb P mu o,o.dst,none,none⟩
 |_,some (j,w)=>(match(ops[j]?).bind (·.dst)with
  |some d=>some ⟨Zb P mu o,o.dst,some (d,w),none⟩
  |none=>none)
def stable:O->Bool
 |.mv _|.pick ..|.add ..|.sub ..|.mul ..|.cmp ..|.beq ..|.ar ..|.teq ..|.not _|.len _|.lenT _|.conv ..|.off ..|.idx ..|.aidx ..|.sidx ..|.ld _|.ldn ..|.ext ..|.part ..|.part1 ..|.mkf ..|.nilc _|.sub3 ..|.build ..=>true
 |_=>false
def GC:O->Bool
 |.ld _|.ldn ..=>true
 |_=>false
def qJ:O->Bool
 |.st ..=>true
 |_=>false
def GQ(N:Nat)(o:Oper):Bool:=match o.dst with|some d=>decide (d<N)|none=>true
def PJ(ops:Array Oper)(e:Nat->Bool):Nat->List Nat->List Nat->List Nat
 |0,_,done=>done
 |n+1,left,done=>
  let ready:=left.filter λ i=>(W1 ops i).all done.contains
  match ready.find? (λ i=>!e i)with
  |some i=>PJ ops e n (left.filter (· != i)) (done++[i])
  |none=>(match ready with
   |i::_=>PJ ops e n (left.filter (· != i)) (done++[i])
   |[]=>done)
def Xg(ops:Array Oper):Nat->Nat
 |0=>0
 |k+1=>if(range k).all (λ j=>((Xb ops ops.size).getD k 0).testBit j)then Xg ops k else k+1
def Xk(P:Program)(mu dets:List Nat)(ops:Array Oper)(i:Nat):Bool:=
 match ops[i]? with
 |some o=>!stable (Zb P mu o)&&!((o.dst.map dets.contains).getD false)
 |none=>false
def Ke(P:Program)(mu:List Nat)(ops:Array Oper)(rl:List Nat)(i:Nat):Nat:=
 if rl.contains i then 2 else match ops[i]? with
  |some o=>if stable (Zb P mu o)then 0 else 1
  |none=>1
def V2(ops:Array Oper)(x j:Nat):Bool:=!((Xb ops ops.size).getD x 0).testBit j
def PO(P:Program)(mu:List Nat)(ops:Array Oper)(rl:List Nat)(x i:Nat):Nat:=
 if rl.contains i then 2 else match ops[i]? with
  |some o=>if stable (Zb P mu o)&&(!GC (Zb P mu o)|| !V2 ops x i)then 0 else if V2 ops x i then 3 else 1
  |none=>3
def KL(P:Program)(mu:List Nat)(N:Nat)(dets:List Nat)(ops:Array Oper)(e:Bool):C:=
 if !ops.all (GQ N)then .bad else
 match e with
 |false=>(match(range ops.size).mapM (λ i=>(ops[i]?).bind (Z7 P mu ops))with|some l=>.reg l|none=>.bad)
 |true=>
  let k:=Xg ops ops.size
  let qs:=PJ ops (Xk P mu dets ops) ops.size (range k) []
  let ts:=(range ops.size).drop k
  let rl:=(range k).filter (Xk P mu dets ops)
  if !PG ops rl qs ts|| !rl.all (λ i=>((ops[i]?).map (·.guard.isNone)).getD true)then .bad else
  match qs.getLast?.bind λ x=>((ops[x]?).bind (Z7 P mu ops)).bind λ st=>if rl.contains x&&qJ st.o&&st.g.isNone&&st.dfr.isNone then some (x,st)else none with
  |some (x,st)=>(match qs.dropLast.mapM (λ i=>((ops[i]?).bind (Z7 P mu ops)).map λ st=>(PO P mu ops rl x i,st)),ts.mapM (λ i=>(ops[i]?).bind (Z7 P mu ops))with
   |some a,some b=>if a.all (λ x=>x.2.dfr.isNone)then .drs a st b else .bad
   |_,_=>.bad)
  |none=>
  match qs.mapM (λ i=>((ops[i]?).bind (Z7 P mu ops)).map λ st=>(Ke P mu ops rl i,st)),ts.mapM (λ i=>(ops[i]?).bind (Z7 P mu ops))with
  |some a,some b=>if a.all (λ x=>x.2.dfr.isNone)then .drw a b else .bad
  |_,_=>.bad
def qX:Op->Bool
 |.go _=>true
 |_=>false
def qI:Op->Bool
 |.mapEntry ..=>true
 |_=>false
def EQ(ops:Array Oper):Bool:=ops.any λ o=>qX o.op|| qI o.op
def clean(P:Program)(mu:List Nat)(N:Nat)(dets:List Nat):Code->C
 |.skip=>.skip
 |.label _=>.skip
 |.seq a b=>.seq (clean P mu N dets a) (clean P mu N dets b)
 |.cond c a b=>.ite c (clean P mu N dets a) (clean P mu N dets b)
 |.block id b=>.block id (clean P mu N dets b)
 |.loop b=>.loop (clean P mu N dets b)
 |.exit i=>.exit i
 |.ret=>.ret
 |.scope b=>.scope (clean P mu N dets b)
 |.region id ops d=>if EQ ops|| mu.contains (1000+id)then .cd N (.region id ops d)else match KL P mu N dets ops d with
  |.bad=>.cd N (.region id ops d)
  |c=>c
 |.rangeFunc f ps as e=>.rng N mu dets f ps (clean P mu N dets as) (clean P mu N dets e)
 |.goto _=>.bad
 |.refuse _=>.bad
def qK(b:Zh T->(Nat->Zh T)->Zh T->Zh T)(x:Nat->Zh T)(r:Zh T):Zh T:=λ f ds U=>
 ∃(α:Type)(L:α->List (Nat×Value))(I:α->Qa T->Prop)(μ:α->Nat)(e:α),XE f (L e)/\I e U /\
   ∀y f U,I y U->b (λ f' w U'=>w=ds/\∃z,XE f' (L z)/\I z U'/\μ z<μ y) x r (ovr (L y) f) ds U
def OC(c:Operand)(a b:Zh T):Zh T:=λ f ds U=>(match Zc f c with
  |.bool t=>CB t (a f ds U) (b f ds U)
  |_=>False)
def W5(S:Sys P T)(fn:FuncId)(ro:Option Nat)(N:Nat)(mu dets:List Nat)(c:Operand)(params:Array Tmp)(as w:C)(n:Zh T)(x:Nat->Zh T)(r:Zh T):Zh T:=λ f ds U=>
 ∀ca cb:Code,clean P mu N dets ca=as->clean P mu N dets cb=w->∀a:Act,FR N a f ds ->
   Zu S fn ro (.rangeFunc c params ca cb) (λ e a' U'=>a'.tmps=a.tmps/\(match e with|.normal=>n f a'.defers U'|.exit i=>x i f a'.defers U'|.ret=>r f a'.defers U')) a U
def OE(S:Sys P T)(fn:FuncId)(ro:Option Nat)(N:Nat)(c:Code)(n:Zh T)(x:Nat->Zh T)(r:Zh T):Zh T:=λ f ds U=>
 ∀a:Act,FR N a f ds ->
   Zu S fn ro c (λ e a' U'=>a'.tmps.size=a.tmps.size/\∃f',(∀t,a'.tmps.getD t undef=f' t)/\(match e with|.normal=>n f' a'.defers U'|.exit i=>x i f' a'.defers U'|.ret=>r f' a'.defers U')) a U
def JL(S:Sys P T)(fn:FuncId)(ro:Option Nat)(c:C):Zh T->(Nat->Zh T)->Zh T->Zh T:=
 C.rec (motive:=λ _=>Zh T->(Nat->Zh T)->Zh T->Zh T)
  (λ n _ _=>n)
  (λ _ _ a b n x r=>a (b n x r) x r)
  (λ c _ _ a b n x r=>OC c (a n x r) (b n x r))
  (λ id _ b n x r=>b n (λ i f ds U=>bif Nat.beq i id then n f ds U else x i f ds U) r)
  (λ _ b _ x r=>qK b x r)
  (λ i _ x _=>x i)
  (λ _ _ r=>r)
  (λ _ b n x r=>b n x r)
  (λ l n _ _=>ZT S ro l n)
  (λ qs ts n _ _=>DX S (λ _=>False) qs (λ _=>True) (ZT S ro ts n))
  (λ qs st ts n _ _ f ds U=>∃G,XJ G/\DX S G qs (λ _=>True) (ES S G st (ZT S ro ts n)) f ds U)
  (λ N mu dets c params as e _ _ n x r=>W5 S fn ro N mu dets c params as e n x r)
  (λ N c n x r=>OE S fn ro N c n x r)
  (λ _ _ _ _ _ _=>False) c
end Go.TM
set_option linter.unusedSimpArgs false
namespace Go.TM
variable{T:Type}{P:Program}{S:Sys P T}
def Qa.sees.le{U U':Qa T}{a:Addr}{v:Value}(h:U.sees a v)(e:U.le U'):U'.sees a v:=by
 obtain⟨f,⟨c,t,fr,w,z⟩|⟨t,n,B⟩⟩:=h
 .exact⟨f,.inl ⟨c,t,fr,w.imp (e.imm _ _) (λ h=>e.own▸h),z⟩⟩
 .exact⟨f,.inr ⟨t,n,e.own▸B⟩⟩
def Ju.le{U U':Qa T}{a:Addr}{vs:List Value}(h:Ju U a vs)(e:U.le U'):Ju U' a vs:=λ i v f=>(h i v f).le e
def ZL.mono{K w:Value->Qa T->Prop}(f:∀v U,K v U->w v U){n:Next}{U:Qa T}(e:ZL S K n U):ZL S w n U:=by
 cases n <;> first|exact f _ _ e|exact Qb.mono e f|exact WE.mono e f|exact e
def OX.mono{o:O}{f:Fm}{K F:Value->Qa T->Prop}{U:Qa T}(e:∀v U,K v U->F v U)(h:OX S o f K U):OX S o f F U:=by
 cases o with
 |raw o=>exact λ a L=>Qw.mono _ (h a L) λ n U E=>ZL.mono (λ v U⟨w,H,I⟩=>⟨w,H,e _ _ I⟩) E
 |call c args=>
  simp only[OX]at h ⊢;split at h
  .simp only[Wa]at h ⊢;exact⟨h.1,h.2.mono λ v U h N=>e v U (h N)⟩
  .simp only[Wa]at h ⊢;exact Qw.mono _ h λ n U E=>ZL.mono e E
  .exact h
 |st n x v=>
  simp only[OX]at h ⊢;split at h
  .exact⟨h.1,ZF.mono (λ U⟨w,a,b⟩=>⟨w,a,e _ w b⟩) _ _ _ h.2⟩
  .exact h
 |box t x=>simp only[OX,Y5]at h ⊢;exact λ b w M B=>e _ _ (h b w M B)
 |boxM t x=>exact λ b B=>e _ _ (h b B)
 |alloc t z=>exact λ b B=>let ⟨w,a,b⟩:=h b B;⟨w,a,e _ _ b⟩
 |bsl t len z ps=>
  simp only[OX,HJ,Array.toArray_toList]at h ⊢;split at h
  .exact λ b B=>let ⟨w,a,b⟩:=h b B;⟨w,a,e _ _ b⟩
  .exact h
 |lenM x=>
  simp only[OX]at h ⊢;split at h
  .exact e _ _ h
  .obtain⟨a,b,c,d⟩:=h;exact⟨a,b,c,e _ _ d⟩
  .exact h
 |mv x=>simp only[OX,Q4]at h ⊢;exact e _ _ h
 |mkf fn first G=>simp only[OX,Wa]at h ⊢;exact e _ _ h
 |pick c a b=>
  simp only[OX,Q4]at h ⊢;split at h
  .exact e _ _ h
  .exact e _ _ h
  .exact h
 |ext x i=>
  simp only[OX,Q4]at h ⊢;split at h
  .split at h
   .exact e _ _ h
   .exact h
  .exact h
 |part1 off x=>
  simp only[OX,Q4]at h ⊢;split at h
  .split at h
   .exact e _ _ h
   .exact h
  .exact h
 |ld x=>
  simp only[OX,Q4]at h ⊢;split at h
  .obtain⟨v,a,b⟩:=h;exact⟨v,a,e _ _ b⟩
  .exact h
 |ldn n x=>
  simp only[OX]at h ⊢;split at h
  .obtain⟨v,a,b⟩:=h;exact⟨v,a,e _ _ b⟩
  .exact h
 |sidx x i=>
  simp only[OX]at h ⊢;split at h
  .obtain⟨j,v,a,b⟩:=h;exact⟨j,v,a,e _ _ b⟩
  .exact h
 |idx n x i=>
  simp only[OX]at h ⊢;split at h
  .obtain⟨ad,j,a,b⟩:=h;exact⟨ad,j,a,e _ _ b⟩
  .exact h
 |aidx n m x i=>
  simp only[OX]at h ⊢;split at h
  .obtain⟨j,a,b⟩:=h;exact⟨j,a,e _ _ b⟩
  .exact h
 |sub3 sz x lo P=>
  simp only[OX]at h ⊢;split at h
  .split at h
   .obtain⟨l,hh,a,b⟩:=h;exact⟨l,hh,a,e _ _ b⟩
   .exact h
  .exact h
 |build z ps=>
  simp only[OX,HJ,Array.toArray_toList]at h ⊢;split at h
  .exact e _ _ h
  .exact h
 |cmp op x y=>
  simp only[OX]at h ⊢;split at h
  .refine⟨h.1,?_⟩;cases op <;> first|exact h.2.elim|exact e _ _ h.2
  .exact h
 |beq op x y=>
  simp only[OX]at h ⊢;split at h
  .cases op <;> first|exact h.elim|exact e _ _ h
  .exact h
 |teq op x y=>
  simp only[OX]at h ⊢;split at h
  .cases op <;> first|exact h.elim|exact e _ _ h
  .exact h
 |ar op x y=>
  simp only[OX]at h ⊢;split at h
  .cases op <;> first|exact h.elim|exact⟨h.1,h.2.1,e _ _ h.2.2⟩|exact⟨h.1,e _ _ h.2⟩
  .exact h
 |_=>
  simp only[OX]at h ⊢;split at h
  .first|exact⟨h.1,e _ _ h.2⟩|exact e _ _ h
  .exact h
def OX.stable{o:O}{f:Fm}{K:Value->Qa T->Prop}{U:Qa T}(E:stable o=true)(h:OX S o f K U):∃v,K v U/\∀(U':Qa T)(w:Value->Qa T->Prop),(GC o=false\/U.le U')->w v U'->OX S o f w U':=by
 cases o with
 |raw o=>cases E
 |call c args=>cases E
 |st n x v=>cases E
 |box t x=>cases E
 |boxM t x=>cases E
 |alloc t z=>cases E
 |bsl t len z ps=>cases E
 |lenM x=>cases E
 |mv x=>simp only[OX,Q4]at h;exact⟨_,h,λ _ _ _ k=>by simpa only[OX,Q4]using k⟩
 |mkf fn first F=>simp only[OX,Wa]at h;exact⟨_,h,λ _ _ _ k=>by simpa only[OX,Wa]using k⟩
 |pick c a b=>
  simp only[OX,Q4]at h;split at h <;> rename_i e
  .exact⟨_,h,λ _ _ _ k=>by simpa[OX,Q4,e]using k⟩
  .exact⟨_,h,λ _ _ _ k=>by simpa[OX,Q4,e]using k⟩
  .exact h.elim
 |ext x i=>
  simp only[OX,Q4]at h;split at h <;> rename_i e
  .split at h <;> rename_i e'
   .exact⟨_,h,λ _ _ _ k=>by simpa[OX,Q4,e,e']using k⟩
   .exact h.elim
  .exact h.elim
 |part1 off x=>
  simp only[OX,Q4]at h;split at h <;> rename_i e
  .split at h <;> rename_i e'
   .exact⟨_,h,λ _ _ _ k=>by simpa[OX,Q4,e,e']using k⟩
   .exact h.elim
  .exact h.elim
 |ld x=>
  simp only[OX,Q4]at h;split at h <;> rename_i e
  .obtain⟨v,a,b⟩:=h;exact⟨v,b,λ U' w B k=>by simp only[OX,Q4,e];exact⟨v,a.le (B.resolve_left (by simp[GC])),k⟩⟩
  .exact h.elim
 |ldn n x=>
  simp only[OX]at h;split at h <;> rename_i e
  .obtain⟨v,a,b⟩:=h;exact⟨_,b,λ U' w B k=>by simp only[OX,Q4,e];exact⟨v,⟨a.1,a.2.le (B.resolve_left (by simp[GC]))⟩,k⟩⟩
  .exact h.elim
 |sidx x i=>
  simp only[OX]at h;split at h
  .rename_i e e';obtain⟨j,v,a,b⟩:=h;exact⟨_,b,λ U' w B k=>by simp only[OX,Q4,e,e'];exact⟨j,v,a,k⟩⟩
  .exact h.elim
 |sub3 sz x lo I=>
  simp only[OX]at h;split at h <;> rename_i e
  .split at h <;> rename_i e'
   .obtain⟨l,hh,a,b⟩:=h;exact⟨_,b,λ U' w B k=>by simp only[OX,Q4,e,e'];exact⟨l,hh,a,k⟩⟩
   .exact h.elim
  .exact h.elim
 |build z ps=>
  simp only[OX,HJ,Array.toArray_toList]at h;split at h <;> rename_i e
  .exact⟨_,h,λ U' w B k=>by simp only[OX,Q4,HJ,Array.toArray_toList,e];exact k⟩
  .exact h.elim
 |cmp op x y=>
  simp only[OX]at h;split at h
  .rename_i e e';obtain⟨H,h⟩:=h;cases op <;> first|exact h.elim|exact⟨_,h,λ U' w B k=>by simp only[OX,Q4,e,e'];exact⟨H,k⟩⟩
  .exact h.elim
 |beq op x y=>
  simp only[OX]at h;split at h
  .rename_i e e';cases op <;> first|exact h.elim|exact⟨_,h,λ U' w B k=>by simp only[OX,Q4,e,e'];exact k⟩
  .exact h.elim
 |teq op x y=>
  simp only[OX]at h;split at h
  .rename_i e e';cases op <;> first|exact h.elim|exact⟨_,h,λ U' w B k=>by simp only[OX,Q4,e,e'];exact k⟩
  .exact h.elim
 |ar op x y=>
  simp only[OX]at h;split at h
  .rename_i e e'
   cases op <;> first
    |exact h.elim
    |exact⟨_,h.2.2,λ U' w B k=>by simp only[OX,Q4,e,e'];exact⟨h.1,h.2.1,k⟩⟩
    |exact⟨_,h.2,λ U' w B k=>by simp only[OX,Q4,e,e'];exact⟨h.1,k⟩⟩
  .exact h.elim
 |add x y=>simp only[OX]at h;split at h;{ rename_i e e';exact⟨_,h.2,λ U' w B k=>by simp only[OX,Q4,e,e'];exact⟨h.1,k⟩⟩ };exact h.elim
 |sub x y=>simp only[OX]at h;split at h;{ rename_i e e';exact⟨_,h.2,λ U' w B k=>by simp only[OX,Q4,e,e'];exact⟨h.1,k⟩⟩ };exact h.elim
 |mul x y=>simp only[OX]at h;split at h;{ rename_i e e';exact⟨_,h.2,λ U' w B k=>by simp only[OX,Q4,e,e'];exact⟨h.1,k⟩⟩ };exact h.elim
 |idx n x y=>simp only[OX]at h;split at h;{ rename_i e e';obtain⟨G,j,a,b⟩:=h;exact⟨_,b,λ U' w B k=>by simp only[OX,Q4,e,e'];exact⟨G,j,a,k⟩⟩ };exact h.elim
 |aidx n m x y=>simp only[OX]at h;split at h;{ rename_i e e';obtain⟨j,a,b⟩:=h;exact⟨_,b,λ U' w B k=>by simp only[OX,Q4,e,e'];exact⟨j,a,k⟩⟩ };exact h.elim
 |_=>
  simp only[OX]at h;split at h <;> rename_i e
  .exact⟨_,h,λ U' w B k=>by simp only[OX,Q4,e];exact k⟩
  .exact h.elim
section region
variable{N:Nat}{fn:FuncId}{ro:Option Nat}{mu:List Nat}{ops:Array Oper}
def Ev{todo:List Nat}{Q:Ex->Act->Qa T->Prop}{A:Value->Act}:∀v U U',Q1 U U'->J7 S fn ro ops todo Q (A v) U'->J7 S fn ro ops todo Q (A v) U:=λ _ _ _ e h=>Gs e h
inductive VY(P:Program)(mu:List Nat)(ops:Array Oper)(o:Oper):St->Prop
 |plain:(∀c,o.op≠.defer c)->o.guard=none->VY P mu ops o ⟨Zb P mu o,o.dst,none,none⟩
 |guarded {j:Nat} {w:Bool} {d:Nat}:(∀c,o.op≠.defer c)->o.guard=some (j,w)->(ops[j]?).bind (·.dst)=some d->VY P mu ops o ⟨Zb P mu o,o.dst,some (d,w),none⟩
 |dfr {c:Operand} {args:Array Operand} {ats:Array TypeId}:o.op=.defer { callee:=.value c,args:=args,argTypes:=ats }->o.guard=none->VY P mu ops o ⟨.mv c,o.dst,none,some (c,args)⟩
def W0{o:Oper}{st:St}(h:Z7 P mu ops o=some st):VY P mu ops o st:=by
 unfold Z7 at h;split at h
 .rename_i ho hg;cases h;exact .dfr ho hg
 .cases h
 .rename_i hg hnd0 hnd;cases h;exact .plain (λ c e=>hnd c e) hg
 .rename_i j w hg hnd;split at h
  .rename_i hd;cases h;exact .guarded (λ c e=>hnd c e) hg hd
  .cases h
def Jr{o:Oper}{a:Act}(e:o.guard=none):Region.wanted o (yielded ops a.tmps)=true:=by simp[Region.wanted,e]
def P8{o:Oper}{a:Act}{j:Nat}{w:Bool}{d:Nat}{b:Bool}(f:o.guard=some (j,w))(e:(ops[j]?).bind (·.dst)=some d)(z:a.tmps[d]?=some (.bool b)) :
  Region.wanted o (yielded ops a.tmps)=(b==w):=by
 simp only[Region.wanted,f,yielded,e,Option.bind_some,z];cases b <;> cases w <;> rfl
def Vp{o:Oper}{N:Nat}{a:Act}{f:Fm}{ds:List Deferred}(z:FR N a f ds){j:Nat}{w:Bool}{d:Nat}{vs:Array Value}(B:o.guard=some (j,w))(e:(ops[j]?).bind (·.dst)=some d)(E:f d=.tuple vs) :
  Region.wanted o (yielded ops a.tmps)=false:=by
 have:=z.get d;rw[E,Array.getD_eq_getD_getElem?]at this
 have G:yielded ops a.tmps j=none:=by
  simp only[yielded,e,Option.bind_some];cases F:a.tmps[d]? with
  |none=>rfl
  |some v=>
   rw[F]at this;simp only[Option.getD_some]at this;subst this;rfl
 simp only[Region.wanted,B,G];cases w <;> rfl
def Pz{Q:Ex->Act->Qa T->Prop}{n:Zh T}(hQ:∀a f ds U,FR N a f ds->n f ds U->Q .normal a U)(hN:∀(i:Nat)(o:Oper),ops[i]?=some o->∀d,o.dst=some d->d<N) :
  ∀(idxs:List Nat)(l:List St),idxs.mapM (λ i=>(ops[i]?).bind (Z7 P mu ops))=some l ->
   ∀(a:Act)(f:Fm)(ds:List Deferred)(U:Qa T),FR N a f ds->ZT S ro l n f ds U->J7 S fn ro ops idxs Q a U:=by
 intro idxs
 induction idxs with
 |nil=>
  intro l L a f ds U z h;simp at L;subst L;exact Om (hQ a f ds U z h)
 |cons i idxs V=>
  intro l L a f ds U z h;simp only[mapM_cons,Option.pure_def,Option.bind_eq_bind,Option.bind_eq_some_iff]at L;obtain⟨st,⟨o,G,Y⟩,l',E,e⟩:=L;cases e;have I:=hN i o G
  have step:∀{f:Fm},FR N a f ds->(∀c,o.op≠.defer c)->Region.wanted o (yielded ops a.tmps)=true->OX S (Zb P mu o) f (λ v U'=>ZT S ro l' n (QW f o.dst v) ds U') U->J7 S fn ro ops (i::idxs) Q a U:=by
   intro f z B H h;refine Xi G H (.inr B) (QL.opV (Wx (λ x=>z.eval x) Ev (OX.mono (λ v U' hv=>?_) h)));exact V l' E _ _ _ _ (z.put o.dst v I) hv
  cases W0 Y with
  |plain B F=>simp only[Gh,H0]at h;exact step z B (Jr F) h
  |@guarded j w d B F K=>
   simp only[Gh,H0]at h;split at h
   .rename_i b hb;have H:=P8 (ops:=ops) (o:=o) F K (z.slot hb);have e:JB f d (.bool b)=f:=Pw hb;cases b <;> cases w <;> simp only[GB,Bool.not_true,Bool.not_false]at h <;> rw[e]at h
    .exact step z B (by rw[H];rfl) h
    .exact We G (by rw[H];rfl) (V l' E _ _ _ _ (z.put o.dst undef I) h)
    .exact We G (by rw[H];rfl) (V l' E _ _ _ _ (z.put o.dst undef I) h)
    .exact step z B (by rw[H];rfl) h
   .rename_i vs hb;exact We G (Vp z F K hb) (V l' E _ _ _ _ (z.put o.dst undef I) h)
   .exact h.elim
  |@dfr c args Z X F=>
   simp only[Gh,H0]at h;split at h
   .rename_i g first capt e
    obtain⟨M,h⟩:=h;have W:a.eval=Zc f:=funext z.eval;refine Xi G (Jr F) (.inl M) ?_;unfold HA;simp only[execOp,X,Qc,resolve,W,e,Deferred.ofValue,Qi,PM];refine⟨M,V l' E _ _ _ _ ?_ h⟩;have h1:FR N { a with defers:={ target:=.fn g capt,args:=first++args.map (Zc f) }::a.defers } f ({ target:=.fn g capt,args:=first++args.map (Zc f) }::ds):=⟨by rw[z.ds],z.size,z.get⟩;exact h1.put o.dst undef I
   .exact h.elim
def Jv{U':Qa T}{v:Value}:∀(B:Value)(w z:Qa T),Q1 w z->(B=v/\∃f,Q1 z f/\U'.le f)->(B=v/\∃f,Q1 w f/\U'.le f):=
 λ _ _ _ G⟨e,f,E,F⟩=>⟨e,f,G.trans E,F⟩
def T4{Fin:Act->Qa T->Prop}{K:Zh T}{U:Qa T}{rl:List Nat}{B:Nat->Nat->Prop}{late:Nat->Bool}{G:Qa T->Prop}{tail:List Nat}{kind:Nat->Nat}(af:∀a f ds E,FR N a f ds->(∀U',U.le U'->E U'->K f ds U')->ZX S ops rl B late G U Fin tail E a)(hN:∀(i:Nat)(o:Oper),ops[i]?=some o->∀d,o.dst=some d->d<N)
  (aa:∀i,kind i=0\/kind i=1\/kind i=3->i∉rl) (ai:∀i,kind i≠0->kind i≠1->kind i≠3->i∈rl) (ae:∀i,kind i=0->∀o,ops[i]?=some o->stable (Zb P mu o)=true/\(late i=true->GC (Zb P mu o)=false)) (ah:∀i,kind i=1->late i=false) :
  ∀(idxs:List Nat)(l:List (Nat×St)),idxs.mapM (λ i=>((ops[i]?).bind (Z7 P mu ops)).map λ st=>(kind i,st))=some l->(l.all λ x=>x.2.dfr.isNone)=true->(∀i∈idxs,∀o,ops[i]?=some o->o.guard=none\/i∉rl) ->
   ∀(a:Act)(f:Fm)(ds:List Deferred)(E:Qa T->Prop),FR N a f ds->DX S G l E K f ds U->ZX S ops rl B late G U Fin (idxs++tail) E a:=by
 intro idxs
 induction idxs with
 |nil=>
  intro l hl _ _ a f ds E z h;simp at hl;subst hl;exact af a f ds E z h
 |cons i idxs ih=>
  intro l hl M ad a f ds E z h;simp only[mapM_cons,Option.pure_def,Option.bind_eq_bind,Option.bind_eq_some_iff,Option.map_eq_some_iff]at hl;obtain⟨x,⟨st,⟨o,Q,X⟩,rfl⟩,l',aj,e⟩:=hl;cases e;simp only[all_cons,Bool.and_eq_true]at M;have hd:=hN i o Q;have I:=ih l' aj M.2 (λ j hj=>ad j (mem_cons_of_mem _ hj))
  have run:∀{f:Fm},FR N a f ds->Region.wanted o (yielded ops a.tmps)=true ->
    (match kind i with
     |0=>OX S (Zb P mu o) f (λ v _=>DX S G l' E K (QW f o.dst v) ds U) U
     |1=>∃v,(∀U',U.le U'->E U'->OX S (Zb P mu o) f (λ v' Z=>v'=v/\∃L,Q1 Z L/\U'.le L) U')/\DX S G l' E K (QW f o.dst v) ds U
     |3=>∃v,(∀U',U.le U'->E U'->OX S (Zb P mu o) f (λ v' Z=>v'=v/\∃L,Q1 Z L/\U'.le L) U')/\(∀U',G U'->OX S (Zb P mu o) f (λ v' Z=>v'=v/\∃L,Q1 Z L/\U'.le L) U')/\DX S G l' E K (QW f o.dst v) ds U
     |_=>∃F:Value->Qa T->Prop,(∀v,XJ (F v))/\(∀U',U.le U'->E U'->OX S (Zb P mu o) f (λ v' Z=>∃L,Q1 Z L/\F v' L/\U'.le L) U') /\
       ∀v,(∃U',U.le U'/\E U'/\F v U')->DX S G l' (λ U'=>E U'/\F v U') K (QW f o.dst v) ds U)->ZX S ops rl B late G U Fin (i::(idxs++tail)) E a:=by
   intro f z Y h;split at h
   .rename_i hk;obtain⟨v,hn,X⟩:=OX.stable (ae i hk o Q).1 h;refine .det v (aa i (.inl hk)) Q Y (λ U' H _=>?_) (λ W U' _=>?_) (I _ _ _ _ (z.put o.dst v hd) hn)
    .exact Wx (λ x=>z.eval x) Jv (X U' _ (.inr H) ⟨rfl,U',.refl _,.refl _⟩)
    .exact Wx (λ x=>z.eval x) Jv (X U' _ (.inl ((ae i hk o Q).2 W)) ⟨rfl,U',.refl _,.refl _⟩)
   .rename_i hk;obtain⟨v,V,hn⟩:=h;refine .det v (aa i (.inr (.inl hk))) Q Y (λ U' H hc=>?_) (λ W=>by rw[ah i hk]at W;cases W) (I _ _ _ _ (z.put o.dst v hd) hn);exact Wx (λ x=>z.eval x) Jv (V U' H hc)
   .rename_i hk;obtain⟨v,V,ag,hn⟩:=h;refine .det v (aa i (.inr (.inr hk))) Q Y (λ U' H hc=>?_) (λ _ U' hg=>?_) (I _ _ _ _ (z.put o.dst v hd) hn)
    .exact Wx (λ x=>z.eval x) Jv (V U' H hc)
    .exact Wx (λ x=>z.eval x) Jv (ag U' hg)
   .rename_i h0 h1 h3;obtain⟨F,hF,V,hn⟩:=h;refine .rel F (ai i (λ e=>h0 e) (λ e=>h1 e) (λ e=>h3 e)) hF Q Y (λ U' H hc=>?_) (λ v hv=>I _ _ _ _ (z.put o.dst v hd) (hn v hv));exact Wx (λ x=>z.eval x) (λ v' Z U3 hs⟨L,a,b,c⟩=>⟨L,hs.trans a,b,c⟩) (V U' H hc)
  cases W0 X with
  |plain ak hg=>simp only[OO,PX]at h;exact run z (Jr hg) h
  |@guarded j w d ak hg ac=>
   simp only[OO,PX]at h;have ab:i∉rl:=(ad i (mem_cons_self ..) o Q).resolve_left (by rw[hg];simp);split at h
   .rename_i b hb;have Y:=P8 (ops:=ops) (o:=o) hg ac (z.slot hb);have e:JB f d (.bool b)=f:=Pw hb;cases b <;> cases w <;> simp only[GB,Bool.not_true,Bool.not_false]at h <;> rw[e]at h
    .exact run z (by rw[Y];rfl) h
    .exact .un ab Q (by rw[Y];rfl) (I _ _ _ _ (z.put o.dst undef hd) h)
    .exact .un ab Q (by rw[Y];rfl) (I _ _ _ _ (z.put o.dst undef hd) h)
    .exact run z (by rw[Y];rfl) h
   .rename_i vs hb;exact .un ab Q (Vp z hg ac hb) (I _ _ _ _ (z.put o.dst undef hd) h)
   .exact h.elim
  |dfr=>simp at M
end region
def GK(N:Nat)(n:Zh T)(x:Nat->Zh T)(r:Zh T)(e:Ex)(a:Act)(U:Qa T):Prop:=
 ∃f ds,FR N a f ds/\(match e with|.normal=>n f ds U|.exit i=>x i f ds U|.ret=>r f ds U)
def ZX.fin{ops:Array Oper}{rl:List Nat}{B:Nat->Nat->Prop}{late:Nat->Bool}{G:Qa T->Prop}{U:Qa T}{Fin w:Act->Qa T->Prop}(H:∀a U,Fin a U->w a U){l:List Nat}{E:Qa T->Prop}{a:Act}(h:ZX S ops rl B late G U Fin l E a):ZX S ops rl B late G U w l E a:=by
 induction h with
 |nil h=>exact .nil λ U' a b=>H _ _ (h U' a b)
 |un a b c _ z=>exact .un a b c z
 |det v a b c d e _ z=>exact .det v a b c d e z
 |rel F a b c d e _ z=>exact .rel F a b c d e z
 |last a b c d e f g=>exact .last a b c d e f λ I U' h=>H _ _ (g I U' h)
section code
variable{N:Nat}{fn:FuncId}{ro:Option Nat}{mu dets:List Nat}
def M8{G:Type}{c:Code}{Q:Ex->Act->Qa T->Prop}(I:G->Act->Qa T->Prop)(μ:G->Nat){g:G}{a:Act}{U:Qa T}(E:I g a U)
  (round:∀g a U,I g a U->Zu S fn ro c (λ e a' U'=>match e with|.normal=>∃g',I g' a' U'/\μ g'<μ g|e=>Q e a' U') a U):Zu S fn ro (.loop c) Q a U:=by
 intro Stop m b k cs F w;refine .still rfl (λ _=>CT) ?_
 have key:∀N g a U,μ g<=N->I g a U->J S Stop m (R b a (.code c::.inLoop c::k) cs) U:=by
  intro N
  induction N with
  |zero=>
   intro g a U H z;refine round g a U z Stop m b (.inLoop c::k) cs F λ e a' U' q=>?_;cases e with
   |normal=>obtain⟨g',_,f⟩:=q;exact absurd f O1
   |exit id=>exact(w _ _ _ q).push (λ _ _=>rfl) S1
   |ret=>exact(w _ _ _ q).push (x:=.inLoop c) (λ _ _=>rfl) S1
  |succ N K=>
   intro g a U H z;refine round g a U z Stop m b (.inLoop c::k) cs F λ e a' U' q=>?_;cases e with
   |normal=>obtain⟨g',B,f⟩:=q;exact .still rfl (λ _=>Ir) (K g' a' U' O1 B)
   |exit id=>exact(w _ _ _ q).push (λ _ _=>rfl) S1
   |ret=>exact(w _ _ _ q).push (x:=.inLoop c) (λ _ _=>rfl) S1
 exact key _ g a U (Nat.le_refl _) E
def Nm{ops:Array Oper}(h:ops.all (GQ N)=true):∀(i:Nat)(o:Oper),ops[i]?=some o->∀d,o.dst=some d->d<N:=by
 intro i o f d e;have:=(Array.all_eq_true'.1 h) o (Array.mem_of_getElem? f);simpa[GQ,e]using this
def Ac(hm:P.follows .mixedOrders=true){id:Nat}{ops:Array Oper}{d:Bool}{n:Zh T}{x:Nat->Zh T}{r:Zh T}{f:Fm}{ds:List Deferred}{U:Qa T}{a:Act}(F:FR N a f ds)
  (h:JL S fn ro (KL P mu N dets ops d) n x r f ds U):Zu S fn ro (.region id ops d) (GK N n x r) a U:=by
 unfold KL at h;split at h
 .exact h.elim
 .rename_i hall;have X:=Nm (N:=N) (ops:=ops) (by simpa using hall);have hQ:∀a f ds U,FR N a f ds->n f ds U->GK N n x r .normal a U:=λ a f ds U F h=>⟨f,ds,F,h⟩;split at h
  .split at h
   .rename_i l W;exact Y4 (Pz hQ X _ l W a f ds U F h)
   .exact h.elim
  .dsimp only at h
   split at h
   .exact h.elim
   .rename_i M;simp only[Bool.or_eq_true,Bool.not_eq_true',not_or,Bool.not_eq_false]at M;obtain⟨M,aa⟩:=M;split at h
    .rename_i x st Q;split at h
     .rename_i la lb hla hlb;split at h
      .rename_i hdf;obtain⟨G,hG,h⟩:=h;simp only[Option.bind_eq_some_iff]at Q;obtain⟨x',I,st',⟨o,z,ad⟩,Q⟩:=Q;split at Q
       .rename_i w;cases Q;simp only[Bool.and_eq_true,contains_iff_mem,Option.isNone_iff_eq_none]at w;obtain⟨⟨⟨ae,ag⟩,ac⟩,ab⟩:=w;refine Eo (late:=V2 ops x) (G:=G) _ _ _ hm M ?_;refine ZX.fin (Fin:=λ a U=>∃f ds,FR N a f ds/\ZT S ro lb n f ds U) (λ a U⟨f,ds,F,h⟩=>Pz hQ X _ lb hlb a f ds U F h) ?_
        obtain⟨Z,rfl⟩:o.guard=none/\st=⟨Zb P mu o,o.dst,none,none⟩:=by
         cases W0 ad with
         |plain _ Z=>exact⟨Z,rfl⟩
         |guarded=>cases ac
         |dfr=>cases ab
        have hq:PJ ops (Xk P mu dets ops) ops.size (range (Xg ops ops.size)) []=(PJ ops (Xk P mu dets ops) ops.size (range (Xg ops ops.size)) []).dropLast++[x]:=by
         rw[getLast?_eq_some_iff]at I;obtain⟨ys,af⟩:=I;rw[af];simp
        rw[hq];refine T4 (S:=S) (mu:=mu) (tail:=[x]) (K:=ES S G ⟨Zb P mu o,o.dst,none,none⟩ (ZT S ro lb n)) (λ a f ds Cn F h=>.last ae hG (λ j hj=>?_) z (Jr Z) (λ U' L w=>?_) (λ Q U'' Z=>?_)) X ?_ ?_ ?_ ?_ _ la hla hdf ?_ a f ds _ F h
        .refine Wu ops ops.size x j ?_;simpa[V2]using hj
        .exact Wx (λ x=>F.eval x) (λ v' U2 U3 Y⟨e,U1,a,b⟩=>⟨e,U1,Y.trans a,b⟩) (h U' L w).1
        .obtain⟨U',L,w⟩:=Q;exact⟨_,_,F.put o.dst undef (X x o z),(h U' L w).2 U'' Z⟩
        .intro i H w;have E:=contains_iff_mem.2 w;simp only[PO,E,if_true]at H;rcases H with H|H|H <;> cases H
        .intro i h0 h1 h3;apply Classical.byContradiction;intro w
         have E:(List.filter (Xk P mu dets ops) (range (Xg ops ops.size))).contains i=false:=by
          cases V:(List.filter (Xk P mu dets ops) (range (Xg ops ops.size))).contains i with
          |false=>rfl
          |true=>exact absurd (contains_iff_mem.1 V) w
         simp only[PO,E,Bool.false_eq_true,if_false]at h0 h1 h3;cases z:ops[i]? with
         |none=>simp[z]at h3
         |some o=>
          simp only[z]at h0 h1 h3;split at h0
          .exact h0 rfl
          .rename_i hh;simp only[hh,Bool.false_eq_true,if_false]at h1 h3;split at h1
           .rename_i W;simp[W]at h3
           .exact h1 rfl
        .intro i h0 o z;simp only[PO]at h0;split at h0
         .cases h0
         .simp only[z]at h0;split at h0
          .rename_i hh;simp only[Bool.and_eq_true,Bool.or_eq_true,Bool.not_eq_true']at hh;exact⟨hh.1,λ W=>hh.2.resolve_right (by rw[W];simp)⟩
          .split at h0 <;> cases h0
        .intro i h1;simp only[PO]at h1;split at h1
         .cases h1
         .split at h1
          .split at h1
           .cases h1
           .split at h1
            .cases h1
            .rename_i W;simpa using W
          .cases h1
        .intro i _ o z;by_cases w:i∈List.filter (Xk P mu dets ops) (range (Xg ops ops.size))
         .refine .inl ?_;have:=all_eq_true.1 aa i w;simpa[z]using this
         .exact .inr w
       .cases Q
      .exact h.elim
     .exact h.elim
    .split at h
     .rename_i la lb hla hlb;split at h
      .rename_i hdf;refine Eo (late:=λ _=>false) (G:=λ _=>False) _ _ _ hm M ?_;refine ZX.fin (Fin:=λ a U=>∃f ds,FR N a f ds/\ZT S ro lb n f ds U) (λ a U⟨f,ds,F,h⟩=>Pz hQ X _ lb hlb a f ds U F h) ?_;have key:=T4 (S:=S) (mu:=mu) (rl:=List.filter (Xk P mu dets ops) (range (Xg ops ops.size))) (B:=JD ops) (late:=λ _=>false) (G:=λ _=>False) (tail:=[]) (Fin:=λ a U=>∃f ds,FR N a f ds/\ZT S ro lb n f ds U) (K:=ZT S ro lb n) (U:=U) (λ a f ds Cn F h=>.nil λ U' L w=>⟨f,ds,F,h U' L w⟩) X ?_ ?_ ?_ (λ _ _=>rfl) _ la hla hdf ?_ a f ds (λ _=>True) F h
       .simpa using key
       .intro i H w;have E:=contains_iff_mem.2 w;simp only[Ke,E,if_true]at H;rcases H with H|H|H <;> cases H
       .intro i h0 h1 h3;apply Classical.byContradiction;intro w
        have E:(List.filter (Xk P mu dets ops) (range (Xg ops ops.size))).contains i=false:=by
         cases V:(List.filter (Xk P mu dets ops) (range (Xg ops ops.size))).contains i with
         |false=>rfl
         |true=>exact absurd (contains_iff_mem.1 V) w
        simp only[Ke,E,Bool.false_eq_true,if_false]at h0 h1;cases z:ops[i]? with
        |none=>simp[z]at h1
        |some o=>
         simp only[z]at h0 h1;by_cases Y:stable (Zb P mu o)=true <;> simp[Y]at h0 h1
       .intro i h0 o z;simp only[Ke]at h0;split at h0
        .cases h0
        .simp only[z]at h0;by_cases Y:stable (Zb P mu o)=true
         .exact⟨Y,λ h=>by cases h⟩
         .simp[Y]at h0
       .intro i _ o z;by_cases w:i∈List.filter (Xk P mu dets ops) (range (Xg ops ops.size))
        .refine .inl ?_;have:=all_eq_true.1 aa i w;simpa[z]using this
        .exact .inr w
      .exact h.elim
     .exact h.elim
def He(hm:P.follows .mixedOrders=true):∀(code:Code){n:Zh T}{x:Nat->Zh T}{r:Zh T}{f:Fm}{ds:List Deferred}{U:Qa T}{a:Act},FR N a f ds->JL S fn ro (clean P mu N dets code) n x r f ds U ->
  Zu S fn ro code (GK N n x r) a U:=by
 intro code
 induction code with
 |skip=>exact λ z h=>Nb ⟨_,_,z,h⟩
 |label l=>exact λ z h=>M7 ⟨_,_,z,h⟩
 |region id ops d=>
  intro n x r f ds U a z h;simp only[clean]at h
  have cd:JL S fn ro (.cd N (.region id ops d)) n x r f ds U->Zu S fn ro (.region id ops d) (GK N n x r) a U:=λ h=>by
   refine Zu.mono (h a z) λ e a' U'⟨M,f',B,E⟩=>⟨f',a'.defers,⟨rfl,by rw[M];exact z.size,B⟩,?_⟩;cases e <;> exact E
  split at h
  .exact cd h
  .split at h
   .exact cd h
   .exact Ac hm z h
 |seq Q V H K=>
  intro n x r f ds U a z h;refine qy (Zu.mono (H z h) λ e a' U' E=>?_);obtain⟨f',F,B,E⟩:=E;cases e with
  |normal=>exact K B E
  |exit i=>exact⟨f',F,B,E⟩
  |ret=>exact⟨f',F,B,E⟩
 |cond c Q V H K=>
  intro n x r f ds U a z h
  replace h:OC c (JL S fn ro (clean P mu N dets Q) n x r) (JL S fn ro (clean P mu N dets V) n x r) f ds U:=h
  unfold OC at h;split at h
  .rename_i t M;refine Na t (by rw[z.eval];exact M) ?_;cases t
   .exact K z h
   .exact H z h
  .exact h.elim
 |block id c W=>
  intro n x r f ds U a z h;refine M6 (Zu.mono (W z h) λ e a' U' E=>?_);obtain⟨f',F,B,E⟩:=E;cases e with
  |normal=>exact⟨f',F,B,E⟩
  |exit i=>
   simp only at E ⊢;by_cases e:i=id
   .subst e;have:Nat.beq i i=true:=S1
    rw[this]at E;rw[if_pos rfl];exact⟨f',F,B,E⟩
   .have:Nat.beq i id=false:=by cases hb:Nat.beq i id with|false=>rfl|true=>exact absurd (Nat.eq_of_beq_eq_true hb) e
    rw[this]at E;rw[if_neg e];exact⟨f',F,B,E⟩
  |ret=>exact⟨f',F,B,E⟩
 |loop c W=>
  intro n x r f ds U a z h;obtain⟨α,L,I,μ,ab,he,X,hr⟩:=h;refine M8 (G:=α) (λ y a U=>∃f,FR N a (ovr (L y) f) ds/\I y U) μ (g:=ab) ⟨f,by rw[he.ovr];exact z,X⟩ λ y a U⟨f,z,X⟩=>?_;refine Zu.mono (W z (hr y f U X)) λ e a' U' E=>?_;obtain⟨f',F,B,E⟩:=E;cases e with
  |normal=>
   obtain⟨rfl,y',Z,Y,aa⟩:=E;exact⟨y',⟨f',by rw[Z.ovr];exact B,Y⟩,aa⟩
  |exit i=>exact⟨f',F,B,E⟩
  |ret=>exact⟨f',F,B,E⟩
 |rangeFunc c params assign body _ _=>
  intro n x r f ds U a z h;refine Zu.mono (h _ _ rfl rfl a z) λ e a' U'⟨M,E⟩=>⟨f,a'.defers,⟨rfl,by rw[M];exact z.size,λ t=>by rw[M];exact z.get t⟩,?_⟩;cases e <;> exact E
 |exit id=>exact λ z h=>OZ ⟨_,_,z,h⟩
 |scope c W=>exact λ z h=>M9 (W z h)
 |goto l=>exact λ _ h=>h.elim
 |ret=>exact λ z h=>Tw ⟨_,_,z,h⟩
 |refuse w=>exact λ _ h=>h.elim
end code
def fm(args:List Value):Fm:=λ t=>args.getD t undef
def Qu(b o n:Nat):(Addr.mk b o none).add n=⟨b,o+n,none⟩:=by
 simp only[Addr.add];split
 .rename_i h;subst h;rfl
 .rfl
def MC(a:Addr)(h:a.spot=none)(m n:Nat):(a.add m).add n=a.add (m+n):=by
 obtain⟨b,o,s⟩:=a;cases h;rw[Qu,Qu,Qu,Nat.add_assoc]
def Zo.sees{U:Qa T}{b o:Nat}{c:Array Value}{v:Value}(h:Zo U b c)(e:c[o]?=some v):U.sees ⟨b,o,none⟩ v:=by
 obtain⟨t,fr,h⟩:=h;exact⟨rfl,.inl ⟨c,t,fr,.inl h,e⟩⟩
def Zo.le{U U':Qa T}{b:Nat}{c:Array Value}(h:Zo U b c)(e:U.le U'):Zo U' b c:=let ⟨t,fr,h⟩:=h;⟨t,fr,e.imm _ _ h⟩
def Zo.reads{U:Qa T}{b o:Nat}{c:Array Value}{vs:List Value}(h:Zo U b c)(f:∀i v,vs[i]?=some v->c[o+i]?=some v):Ju U ⟨b,o,none⟩ vs:=by
 intro i v e;rw[Qu];exact h.sees (f i v e)
def Zo.rd{U:Qa T}{b:Nat}{vs:List Value}(h:Zo U b vs.toArray):Ju U ⟨b,0,none⟩ vs:=h.reads λ k v e=>by simpa using e
def EE{U U':Qa T}(h:U.le U'):Q1 U' U:=by
 refine⟨h.tok.symm,λ w ok=>⟨⟨λ b o e=>ok.imm b o (h.imm b o e),λ r B=>ok.held r (h.own▸B),h.own▸ok.apart,λ r B=>?_⟩,λ l f=>?_,λ l f=>?_⟩⟩
 .have:=ok.sep r (h.own▸B);cases e:U.I r.blk with
  |none=>rfl
  |some o=>rw[h.imm _ _ e]at this;cases this
 .rw[Za]at f ⊢;rw[h.own];exact f
 .rw[Q3]at f ⊢;rw[h.own];refine f.imp id λ f=>?_;cases l with
  |cell a=>obtain⟨c,t,fr,E,z⟩:=f;exact⟨c,t,fr,h.imm _ _ E,z⟩
  |obj b=>obtain⟨o,F⟩:=f;exact⟨o,h.imm _ _ F⟩
  |output=>exact f
  |goroutines=>exact f
  |mark _=>exact f
def Qb.pure{f:FuncId}{args:Array Value}{U:Qa T}{Q:Value->Prop}(h:Qb S f args (λ v U'=>Q v/\U.le U') U):Qb S f args (λ v U'=>Q v/\U'=U) U:=
 h.post λ _ _⟨q,e⟩=>⟨U,EE e,q,rfl⟩
end Go.TM
namespace Go.TM
def XA(id:Nat):Code->Option Code
 |.region i ops d=>if i=id then some (.region i ops d)else none
 |.seq a b=>(XA id a).or (XA id b)
 |.cond _ a b=>(XA id a).or (XA id b)
 |.block _ b=>XA id b
 |.loop b=>XA id b
 |.scope b=>XA id b
 |.rangeFunc _ _ a b=>(XA id a).or (XA id b)
 |_=>none
def Zl(fd:Func)(id:Nat):Code:=(fd.body.bind (XA id)).getD .skip
def PQ(fd:Func)(id:Nat):Array Oper:=match Zl fd id with
 |.region _ ops _=>ops
 |_=>#[]
variable{T:Type}{P:Program}{S:Sys P T}
inductive RV where
 |t (n:Nat)
 |c (a:Nat)
 |cn (a n:Nat)
def XO(P:Program):ResultVar->Option RV
 |.tmp t=>some (.t t)
 |.cell a t=>match P.underlying t with
  |some d=>if TypeDesc.agg d then(Jw P t).map (.cn a)else some (.c a)
  |none=>none
def Vc(acc:List Value):Value:=match acc with|[v]=>v|l=>.tuple l.reverse.toArray
def Vb(acc:List Value)(K:Value->Prop):Prop:=match acc with|[v]=>K v|l=>K (.tuple l.reverse.toArray)
def Nt(acc:List Value)(K:Value->Prop):Vb acc K=K (Vc acc):=by
 unfold Vb Vc;split <;> simp_all
def PN(f:Fm)(Q:Value->Qa T->Prop)(x:RV)(w:List Value->Qa T->Prop)(acc:List Value)(U:Qa T):Prop:=
 match x with
 |.t t=>WS (f t) λ v=>w (v::acc) U
 |.c a=>match f a with|.pointer (some e)=>∃v,U.sees e v/\WS v λ v=>w (v::acc) U|_=>False
 |.cn a n=>match f a with|.pointer (some e)=>∃vs:List Value,(vs.length=n/\Ju U e vs)/\w (.agg vs.toArray::acc) U|_=>False
def Xr(f:Fm)(Q:Value->Qa T->Prop)(l:List RV):List Value->Qa T->Prop:=
 List.rec (motive:=λ _=>List Value->Qa T->Prop) (λ acc U=>Vb acc λ v=>Q v U) (λ x _ e=>PN f Q x e) l
def Y9(f:Fm)(Q:Value->Qa T->Prop)(x:RV)(r:List RV):Xr f Q (x::r)=PN f Q x (Xr f Q r):=rfl
def TF(acc:List Value):Value:=if h:acc.reverse.toArray.size=1 then acc.reverse.toArray[0]else .tuple acc.reverse.toArray
def Io(acc:List Value):Vc acc=TF acc:=by
 unfold TF Vc
 match acc with
 |[]=>rfl
 |[v]=>rfl
 |a::b::r=>rw[dif_neg S1]
def Ct{fd:Func}{Q:Value->Qa T->Prop}{f:Fm}{tmps:Array Value}(G:∀t,tmps.getD t undef=f t) :
  ∀(l:List ResultVar)(rl:List RV),l.mapM (XO P)=some rl->∀(acc:List Value)(U:Qa T),Xr f Q rl acc U->Qw P (Xa (λ x=>match x with
   |ResultVar.tmp t=>pure (tmps.getD t undef)
   |ResultVar.cell a t=>do loadVar t (<- asAddr (tmps.getD a undef))) l acc.reverse.toArray) (λ vs U=>Qw P (pure (if h:vs.size=1 then vs[0]else .tuple vs):Sem Value) Q U) U:=by
 intro l
 induction l with
 |nil=>
  intro rl h acc U w;simp at h;subst h
  replace w:Vb acc (λ v=>Q v U):=w
  rw[Nt]at w;rw[Io]at w;exact w
 |cons x l F=>
  intro rl h acc U w;simp only[mapM_cons,Option.pure_def,Option.bind_eq_bind,Option.bind_eq_some_iff]at h;obtain⟨V,z,S,B,e⟩:=h;cases e;have push:∀v:Value,acc.reverse.toArray.push v=(v::acc).reverse.toArray:=λ v=>by apply Array.ext';simp
  cases x with
  |tmp t=>
   simp only[XO,Option.some.injEq]at z;subst z;simp only[Y9,PN,Q4]at w;simp only[Xa];rw[Qc,G,Qi,push];exact F _ B _ _ w
  |cell a t=>
   simp only[Xa];rw[Qc,Qc,G];simp only[XO]at z;split at z
   .rename_i d hd;split at z
    .rename_i hag;simp only[Option.map_eq_some_iff]at z;obtain⟨n,K,rfl⟩:=z;obtain⟨N,H,E⟩:=Ga K;simp only[Y9,PN]at w;split at w
     .rename_i ad e;obtain⟨vs,⟨I,L⟩,w⟩:=w;rw[e];simp only[asAddr,Qi,loadVar,Qc,Hn hd,hag,if_true,Ji H,E,<- I];refine L.cells ?_;simp only[Qi,push];exact F _ B _ _ w
     .exact w.elim
    .rename_i hag;cases z;simp only[Y9,PN]at w;split at w
     .rename_i ad e;obtain⟨v,M,w⟩:=w;rw[Q4]at w;rw[e];simp only[asAddr,Qi,loadVar,Qc,Hn hd,hag,Bool.false_eq_true,if_false];refine Ob M ?_;rw[push];exact F _ B _ _ w
     .exact w.elim
   .cases z
def Oz(rl:List RV)(Q:Value->Qa T->Prop)(f:Fm)(l:List Deferred):Qa T->Prop:=
 List.rec (motive:=λ _=>Qa T->Prop) (λ U=>Xr f Q rl [] U) (λ d _ e U=>match d.target with
  |.collected b=>∃M',J5 b (.deferred none) (.deferred (some [])) U.M M'/\e { U with M:=M' }
  |_=>False) l
def J5.mem{b:Nat}{f o:Obj}{M M':List Q2}(h:J5 b f o M M'):Q2.obj b o∈M:=by
 induction h with
 |here=>exact mem_cons_self ..
 |there _ e=>exact mem_cons_of_mem _ e
def Ge{fd:Func}{rl:List RV}(z:fd.results.toList.mapM (XO P)=some rl){Q:Value->Qa T->Prop}{f:Fm}:∀(ds:List Deferred)(U:Qa T),Oz rl Q f ds U ->
  ∀tmps:Array Value,(∀t,tmps.getD t undef=f t)->X5 P fd Q tmps ds U
 |[],U,h,tmps,w=>by
  have e:fd.results=fd.results.toList.toArray:=rfl;simp only[X5,results];rw[e,Qc,YZ];exact Ct (fd:=fd) w _ _ z [] U h
 |⟨tg,args⟩::ds,U,h,tmps,w=>by
  cases tg with
  |collected b=>
   obtain⟨M',B,h⟩:=h;simp only[X5,Instr.takeDeferred,Qc,getObj];refine⟨_,.inr B.mem,rfl,rfl,?_⟩;simp only[Qw,Qc,setObj];exact⟨_,M',B,rfl,rfl,rfl,rfl,Ge z ds _ h tmps w⟩
  |_=>exact h.elim
structure Zg(P:Program)(g:FuncId)(N:Nat)(cc:C)(rl:List RV):Prop where
 ok:∃fd mu dets,P.funcs[g]?=some fd/\fd.body=some (fd.body.getD .skip)/\clean P mu fd.ntmps dets (fd.body.getD .skip)=cc/\fd.ntmps=N/\fd.results.toList.mapM (XO P)=some rl/\(fd.name != "runtime.NumGoroutine")=true
def Zg.mk'{g:FuncId}{N:Nat}{cc:C}{rl:List RV}{fd:Func}(mu dets:List Nat)(z:P.funcs[g]?=some fd)(e:fd.body.isSome=true)(w:clean P mu fd.ntmps dets (fd.body.getD .skip)=cc)(f:fd.ntmps=N)
  (E:fd.results.toList.mapM (XO P)=some rl) (B:(fd.name != "runtime.NumGoroutine")=true):Zg P g N cc rl:=
 ⟨fd,mu,dets,z,by cases h:fd.body with|none=>rw[h]at e;cases e|some c=>rfl,w,f,E,B⟩
def Zg.o{g:FuncId}{N:Nat}{cc:C}{rl:List RV}{fd:Func}(mu dets:List Nat)(E:P.funcs[g]?=some fd)(h:(fd.body.isSome,clean P mu fd.ntmps dets (fd.body.getD .skip),fd.ntmps,fd.results.toList.mapM (XO P),(fd.name != "runtime.NumGoroutine"))=(true,cc,N,some rl,true)):Zg P g N cc rl:=by
 obtain⟨e,f,w,z,B⟩:=(by simpa only[Prod.mk.injEq]using h:_/\_/\_/\_/\_);exact .mk' mu dets E e f w z B
def Zg.any{g:FuncId}{N:Nat}{cc:C}{rl:List RV}(k:Zg P g N cc rl):(P.funcs[g]?.any λ fd=>fd.body.isSome&&fd.name != "runtime.NumGoroutine")=true:=by
 obtain⟨fd,mu,dets,f,e,-,-,-,w⟩:=k.ok;rw[f,Option.any_some,w,e];rfl
def Qb.of{g:FuncId}{N:Nat}{cc:C}{rl:List RV}(k:Zg P g N cc rl)(K:P.follows .mixedOrders=true){args:List Value}(L:args.length<=N){U:Qa T}{Q:Value->Qa T->Prop}
  (h:JL S g none cc (λ f ds U=>Oz rl Q f ds U) (λ _ _ _ _=>False) (λ f ds U=>Oz rl Q f ds U) (fm args) [] U):Qb S g args.toArray Q U:=by
 obtain⟨fd,mu,dets,I,G,H,rfl,E,-⟩:=k.ok;refine Qb.of_body I G ?_
 have B:FR fd.ntmps { tmps:=args.toArray++Array.replicate (fd.ntmps-args.toArray.size) undef,defers:=[] } (fm args) []:=by
  refine⟨rfl,S3,λ t=>?_⟩;simp only[fm,Array.getD_eq_getD_getElem?,getD_eq_getElem?_getD,Array.getElem?_append,size_toArray,getElem?_toArray];split
  .rfl
  .rename_i hlt;rw[getElem?_eq_none O1,Array.getElem?_replicate];split <;> rfl
 subst H;refine Zu.mono (He K _ B h) λ e a U z=>?_;obtain⟨f',F,w,z⟩:=z;cases e with
 |normal=>have:=Ge E _ _ z a.tmps w.get;simpa only[Kw,w.ds]using this
 |exit i=>exact z.elim
 |ret=>have:=Ge E _ _ z a.tmps w.get;simpa only[Kw,w.ds]using this
abbrev St.xz(d a b t:Nat):St:=.d d (.raw { dst:=none,op:=(.call { callee:=.builtin .append,args:=#[.tmp a,.tmp b],argTypes:=#[t,t] }),type:=t,pos:= "",after:=#[],guard:=none })
abbrev St.xo(d k t:Nat):St:=.d d (.off k (.tmp t))
abbrev St.xl(d t:Nat):St:=.d d (.ld (.tmp t))
abbrev St.xi(d n a b:Nat):St:=.d d (.idx n (.tmp a) (.tmp b))
abbrev St.xn(d t:Nat):St:=.d d (.len (.tmp t))
abbrev St.xc(d:Nat)(o:BinOp)(a b:Nat):St:=.d d (.cmp o (.tmp a) (.tmp b))
abbrev St.xk(d:Nat)(o:BinOp)(a:Nat)(n:Int):St:=.d d (.cmp o (.tmp a) (.ci n))
abbrev St.xa(d t:Nat):St:=.d d (.add (.tmp t) (.ci 1))
abbrev St.xe(d t i:Nat):St:=.d d (.ext (.tmp t) i)
abbrev St.xd(d n t:Nat):St:=.d d (.ldn n (.tmp t))
abbrev St.xt(d t:Nat):St:=.d d (.not (.tmp t))
abbrev St.xv(d:Nat)(n:Int):St:=.d d (.mv (.ci n))
abbrev St.xb(d:Nat)(b:Bool):St:=.d d (.mv (.cb b))
abbrev St.xs(d:Nat):St:=.d d (.mv .cn)
abbrev St.xp(d a b:Nat):St:=.d d (.pick (.tmp a) (.tmp b) (.cb false))
abbrev St.xq(d a b:Nat):St:=.d d (.pick (.tmp a) (.cb true) (.tmp b))
abbrev St.yo(d g:Nat)(p:Bool)(k t:Nat):St:=.u d g p (.off k (.tmp t))
abbrev St.yl(d g:Nat)(p:Bool)(t:Nat):St:=.u d g p (.ld (.tmp t))
abbrev St.yi(d g:Nat)(p:Bool)(n a b:Nat):St:=.u d g p (.idx n (.tmp a) (.tmp b))
abbrev St.yn(d g:Nat)(p:Bool)(t:Nat):St:=.u d g p (.len (.tmp t))
abbrev St.ym(d g:Nat)(p:Bool)(t:Nat):St:=.u d g p (.mv (.tmp t))
abbrev St.yk(d g:Nat)(p:Bool)(o:BinOp)(a:Nat)(n:Int):St:=.u d g p (.cmp o (.tmp a) (.ci n))
end Go.TM
namespace Go.TM
variable{T:Type}{P:Program}{S:Sys P T}
def Z8(U:Qa T)(a:Option Addr)(len:Nat)(l:List Int):Prop:=l.length=len/\∀i x,l[i]?=some x->∃e,a=some e/\e.spot=none/\U.sees (e.add (i*1)) (.int .i64 x)
def Zd(U:Qa T)(a:Option Addr)(len n:Nat){α:Type}(l:List α)(R:α->List Value->Prop):Prop:=
 l.length=len/\∀i x,l[i]?=some x->∃e vs,a=some e/\e.spot=none/\R x vs/\vs.length=n/\Ju U (e.add (i*n)) vs
def Z8.le{U U':Qa T}{a:Option Addr}{len:Nat}{l:List Int}(h:Z8 U a len l)(f:U.le U'):Z8 U' a len l:=
 ⟨h.1,λ i x w=>let ⟨ad,e,hs,hv⟩:=h.2 i x w;⟨ad,e,hs,hv.le f⟩⟩
def Zd.le{U U':Qa T}{a:Option Addr}{len n:Nat}{α:Type}{l:List α}{R R':α->List Value->Prop}(h:Zd U a len n l R)(w:U.le U')(f:∀x vs,R x vs->R' x vs):Zd U' a len n l R':=
 ⟨h.1,λ i x z=>let ⟨ad,vs,e,hs,hr,hn,hv⟩:=h.2 i x z;⟨ad,vs,e,hs,f _ _ hr,hn,hv.le w⟩⟩
def Z8.at{U:Qa T}{a:Option Addr}{len:Nat}{l:List Int}(h:Z8 U a len l){i:Nat}(w:i<len):∃f x,l[i]?=some x/\a=some f/\f.spot=none/\U.sees (f.add (i*1)) (.int .i64 x):=by
 have z:i<l.length:=by rw[h.1];exact w
 obtain⟨f,e,B,E⟩:=h.2 i l[i] S1;exact⟨f,l[i],S1,e,B,E⟩
def Zd.at{U:Qa T}{a:Option Addr}{len n:Nat}{α:Type}{l:List α}{R:α->List Value->Prop}(h:Zd U a len n l R){i:Nat}(w:i<len) :
  ∃f x vs,l[i]?=some x/\a=some f/\f.spot=none/\R x vs/\vs.length=n/\Ju U (f.add (i*n)) vs:=by
 have z:i<l.length:=by rw[h.1];exact w
 obtain⟨f,vs,e,F,E,B,G⟩:=h.2 i l[i] S1;exact⟨f,l[i],vs,S1,e,F,E,B,G⟩
def Ju.cell{U:Qa T}{a:Addr}{vs:List Value}(h:Ju U a vs){i:Nat}{v:Value}(e:vs[i]?=some v):U.sees (a.add i) v:=h i v e
def Z2{U:Qa T}{M':List Q2}(h:M'.Sublist U.M):Q1 U { U with M:=M' }:=by
 refine⟨rfl,λ w ok=>⟨⟨ok.imm,λ r f=>ok.held r (h.subset f),ok.apart.sublist h,λ r f=>ok.sep r (h.subset f)⟩,λ l e=>?_,λ l e=>?_⟩⟩
 .rw[Za]at e ⊢;obtain⟨r,f,e⟩:=e;exact⟨r,h.subset f,e⟩
 .rw[Q3]at e ⊢;exact e.imp (λ⟨r,f,e⟩=>⟨r,h.subset f,e⟩) id
def Dq{U U':Qa T}{b:Nat}{o:Obj}{M₀:List Q2}(F:JS U')(w:U'.M=.obj b o::M₀)(f:∀x e,U.I x=some e->U'.I x=some e)(E:U.M=M₀)(G:U'.tok=U.tok) :
  ∃U'',Q1 U' U''/\U.le U''/\U''.I b=some o:=by
 refine⟨{ U' with I:=JH U'.I b o,M:=M₀ },Wf (by rw[w]),⟨λ x e B=>?_,E.symm,G⟩,by simp[JH]⟩;have z:U'.I b=none:=F (.obj b o) (by rw[w];simp);show JH U'.I b o x=_;unfold JH;rw[if_neg]
 .exact f x e B
 .rintro rfl;rw[f _ _ B]at z;cases z
structure Qa.lg(U U':Qa T):Prop where
 imm:∀b o,U.I b=some o->U'.I b=some o
 own:∃A,U'.M=A++U.M
 tok:U'.tok=U.tok
def Qa.le.lg{U U':Qa T}(h:U.le U'):U.lg U':=⟨h.imm,⟨[],h.own⟩,h.tok⟩
def Qa.lg.trans{a b c:Qa T}(h:a.lg b)(k:b.lg c):a.lg c:=
 ⟨λ x o e=>k.imm x o (h.imm x o e),let ⟨A,e⟩:=h.own;let ⟨B,e'⟩:=k.own;⟨B++A,by rw[e',e,append_assoc]⟩,k.tok.trans h.tok⟩
def Z6{U:Qa T}(b:Nat)(o:Obj):U.lg (U.put b o):=⟨λ _ _ h=>h,⟨[.obj b o],rfl⟩,rfl⟩
def Qa.lg.shift{U U':Qa T}(h:U.lg U'):∃U'',Q1 U' U''/\U.le U''/\U''.I=U'.I:=by
 obtain⟨A,e⟩:=h.own;exact⟨_,Z2 (M':=U.M) (by rw[e];exact sublist_append_right ..),⟨h.imm,rfl,h.tok⟩,rfl⟩
def Qb.go{f:FuncId}{args:Array Value}{U:Qa T}{c:Value}{K:Value->Qa T->Prop}(h:Qb S f args (λ v U'=>v=c/\U'=U) U)(k:K c U):Qb S f args K U:=h.mono λ v U'⟨a,b⟩=>by rw[a,b];exact k
def Qb.pure'{f:FuncId}{args:Array Value}{U:Qa T}{Q:Value->Prop}(h:Qb S f args (λ v U'=>Q v/\U.lg U') U):Qb S f args (λ v U'=>Q v/\U'=U) U:=
 h.post λ _ _⟨q,e⟩=>let ⟨_,h1,h2,_⟩:=e.shift;⟨U,h1.trans (EE h2),q,rfl⟩
def Qa.sees.lg{U U':Qa T}{a:Addr}{v:Value}(h:U.sees a v)(f:U.lg U'):U'.sees a v:=by
 obtain⟨A,e⟩:=f.own;obtain⟨w,⟨c,t,fr,z,B⟩|⟨t,n,E⟩⟩:=h
 .exact⟨w,.inl ⟨c,t,fr,z.imp (f.imm _ _) (λ h=>by rw[e];exact mem_append_right _ h),B⟩⟩
 .exact⟨w,.inr ⟨t,n,by rw[e];exact mem_append_right _ E⟩⟩
def Ju.lg{U U':Qa T}{a:Addr}{vs:List Value}(h:Ju U a vs)(e:U.lg U'):Ju U' a vs:=λ i v f=>(h i v f).lg e
def Zo.lg{U U':Qa T}{b:Nat}{c:Array Value}(h:Zo U b c)(e:U.lg U'):Zo U' b c:=let ⟨t,fr,h⟩:=h;⟨t,fr,e.imm _ _ h⟩
def Z8.lg{U U':Qa T}{a:Option Addr}{len:Nat}{l:List Int}(h:Z8 U a len l)(f:U.lg U'):Z8 U' a len l:=
 ⟨h.1,λ i x w=>let ⟨ad,e,hs,hv⟩:=h.2 i x w;⟨ad,e,hs,hv.lg f⟩⟩
def Zd.lg{U U':Qa T}{a:Option Addr}{len n:Nat}{α:Type}{l:List α}{R R':α->List Value->Prop}(h:Zd U a len n l R)(w:U.lg U')(f:∀x vs,R x vs->R' x vs):Zd U' a len n l R':=
 ⟨h.1,λ i x z=>let ⟨ad,vs,e,hs,hr,hn,hv⟩:=h.2 i x z;⟨ad,vs,e,hs,f _ _ hr,hn,hv.lg w⟩⟩
end Go.TM
namespace Go.TM
variable{T:Type}{P:Program}{S:Sys P T}{f:Fm}{K:Value->Qa T->Prop}{U:Qa T}
def rq{s:Sem Value}(h:Qw P s (λ v U'=>∃e,Q1 U' e/\K v e) U):Qw P (do pure (.value (<- s)):Sem Next) (ZL S λ v U'=>∃e,Q1 U' e/\K v e) U:=by
 rw[Qc];exact h
def ru{s:Sem Unit}(h:Qw P s (λ _ U'=>∃e,Q1 U' e/\K undef e) U):Qw P (do s;pure .skip:Sem Next) (ZL S λ v U'=>∃e,Q1 U' e/\K v e) U:=by
 rw[Qc];exact h
def Mg{m:Nat}{t e:TypeId}{a:Option Addr}{n c w c0:Nat}(f:P.underlying t=some (.slice e)){Q:Bool->Qa T->Prop}(h:Q a.isNone U):Qw P (Op.equalIn (m+1) t (.slice a n c) (.slice none w c0)) Q U:=by
 rw[Op.equalIn];simp only[Qc,Zi f];cases a <;> exact h
def VJ{t e F G:TypeId}{x:Operand}{a:Option Addr}{n c w c0:Nat}(B:P.underlying t=some (.slice e))(E:Zc f x=.slice a n c)(h:K (.bool a.isNone) U) :
  OX S (.raw { dst:=none,op:=.binOp .eql t x (.const (.slice none w c0)) F,type:=G,pos := "", after:=#[],guard:=none }) f K U:=by
 intro a' z;simp only[execOp,z,E];refine rq ?_;rw[Qc];show Qw P (binOp .eql t (.slice a n c) (.slice none w c0)) _ U;show Qw P (do pure (Value.bool (<- Op.equal t (.slice a n c) (.slice none w c0))):Sem Value) _ U;rw[Qc];exact Mg (m:=9999) B ⟨U,.refl _,h⟩
def WY:TypeDesc->Bool
 |.int _|.bool|.string=>true
 |_=>false
def HZ:Value->Value->Bool
 |.int _ a,.int _ b=>a==b
 |.bool a,.bool b=>a==b
 |.string a,.string b=>a==b
 |_,_=>false
def fits:TypeDesc->Value->Bool
 |.int k,.int k' _=>decide (k=k')
 |.bool,.bool _=>true
 |.string,.string _=>true
 |_,_=>false
def DA{d:TypeDesc}{t:TypeId}{m:Nat}(z:P.underlying t=some d)(w:WY d=true){x y:Value}(e:fits d x=true)(f:fits d y=true)(Q:Bool->Qa T->Prop)(U:Qa T) :
  Qw P (Op.equalIn (m+1) t x y) Q U=Q (HZ x y) U:=by
 rw[Op.equalIn];simp only[Qc,Zi z];cases d <;> simp[WY]at w <;> cases x <;> simp[fits]at e <;> cases y <;> simp[fits]at f
 .rfl
 .subst e;subst f;simp only[if_true];rfl
 .rfl
def Ho(P:Program):List Field->Nat->Bool
 |[],_=>true
 |fd::r,j=>fd.name != "_"&&decide (fd.offset=j)&&(match P.underlying fd.type with|some d=>WY d|none=>false)&&Ho P r (j+1)
def JP(P:Program):List Field->List Value->Bool
 |[],[]=>true
 |fd::r,v::vs=>(match P.underlying fd.type with|some d=>fits d v|none=>false)&&JP P r vs
 |_,_=>false
def ZI:List Value->List Value->Bool
 |[],[]=>true
 |x::xs,y::ys=>HZ x y&&ZI xs ys
 |_,_=>false
def Gx{t:TypeId}{d:TypeDesc}{cs:Array Value}{j:Nat}{v:Value}(f:P.underlying t=some d)(e:WY d=true)(w:cs[j]?=some v)(Q:Value->Qa T->Prop)(U:Qa T) :
  Qw P (part t cs j) Q U=Q v U:=by
 have:TypeDesc.agg d=false:=by cases d <;> first|rfl|simp[WY]at e
 simp only[part,Qc,Hn f,this,Bool.false_eq_true,if_false,w];rfl
def Ve{α β:Type}{x:α}{l:List α}{b:β}{g:α->β->Sem (ForInStep β)}{Q:β->Qa T->Prop} :
  Qw P (forIn (x::l) b g) Q U=Qw P (g x b) (λ r U=>match r with|.done b=>Q b U|.yield b=>Qw P (forIn l b g) Q U) U:=by
 rw[forIn_cons,Qc];congr 1;funext r U;cases r <;> rfl
def Er{m:Nat}{xs ys:Array Value}{Q:Option Bool×PUnit->Qa T->Prop}:∀(E:List Field)(j:Nat)(vs ws:List Value),Ho P E j=true->JP P E vs=true->JP P E ws=true ->
  (∀i v,vs[i]?=some v->xs[j+i]?=some v)->(∀i v,ws[i]?=some v->ys[j+i]?=some v)->Q (if ZI vs ws then none else some false,()) U ->
  Qw P (forIn E ((none,()):Option Bool×PUnit) λ fd _=>
   if fd.name ≠ "_" then do
    let a <- part fd.type xs fd.offset
    let b <- part fd.type ys fd.offset
    let c <- Op.equalIn (m+1) fd.type a b
    if(!c)=true then pure (ForInStep.done (some false,()))else pure (ForInStep.yield (none,()))
   else pure (ForInStep.yield (none,()))) Q U
 |[],j,vs,ws,_,e,f,_,_,h=>by
  cases vs <;> cases ws <;> simp[JP]at e f;exact h
 |fd::r,j,vs,ws,K,e,f,L,M,h=>by
  cases vs with
  |nil=>simp[JP]at e
  |cons v vs=>
  cases ws with
  |nil=>simp[JP]at f
  |cons w ws=>
  simp only[Ho,Bool.and_eq_true,decide_eq_true_eq]at K;obtain⟨⟨⟨N,S⟩,z⟩,V⟩:=K;simp only[JP,Bool.and_eq_true]at e f;cases B:P.underlying fd.type with
  |none=>rw[B]at z;cases z
  |some d=>
   rw[B]at z e f;rw[Ve,if_pos (by simpa using N)];simp only[Qc,S];have G:xs[j]?=some v:=by simpa using L 0 v rfl
   have H:ys[j]?=some w:=by simpa using M 0 w rfl
   rw[Gx B z G,Gx B z H,DA B z e.1 f.1];cases I:HZ v w with
   |false=>simpa[I,ZI,Qi]using h
   |true=>
    simp only[Bool.not_true,Bool.false_eq_true,if_false,Qi];refine Er r (j+1) vs ws V e.2 f.2 (λ i v F=>?_) (λ i v F=>?_) (by simpa[I,ZI]using h)
    .have:=L (i+1) v F;rwa [show j+(i+1)=j+1+i by omega]at this
    .have:=M (i+1) v F;rwa [show j+(i+1)=j+1+i by omega]at this
def Yl{t:TypeId}{e:Array Field}(G:P.underlying t=some (.struct e))(w:P.stoodInHeld t=false)(F:Ho P e.toList 0=true){vs ws:List Value}(H:JP P e.toList vs=true)(I:JP P e.toList ws=true)
  {Q:Bool->Qa T->Prop} (h:Q (ZI vs ws) U):Qw P (Op.equal t (.agg vs.toArray) (.agg ws.toArray)) Q U:=by
 have z:Op.equal t (.agg vs.toArray) (.agg ws.toArray)=Op.equalIn (9998+1+1) t (.agg vs.toArray) (.agg ws.toArray):=rfl;rw[z,Op.equalIn];simp only[Qc,Zi G,program,Qw,w,Bool.false_eq_true,if_false];obtain⟨B⟩:=e;rw[forIn_toArray];refine Er B 0 vs ws F H I (λ i v f=>by simpa using f) (λ i v f=>by simpa using f) ?_;cases E:ZI vs ws <;> simpa[E,Qi]using h
def Ym{op:BinOp}{t:TypeId}{x y:Operand}{vs ws:Array Value}(e:P.eqGuardType P.depth t=false){Q:Unit->Qa T->Prop}(h:Q () U):Qw P (eqGuard op t x y (.agg vs) (.agg ws)) Q U:=by
 unfold eqGuard
 have key (u:Unsupported):Qw P (do
     if !(<- program).eqGuardType (<- program).depth t then return
     if <- Op.eqGuardIn Op.maxDepth t (.agg vs) (.agg ws)then unsupported u:Sem Unit) Q U:=by
  simp only[Qc,program,Qw,e,Bool.not_false,if_true,Qi];exact h
 cases op <;> first|exact key _|exact h
structure Gi(P:Program)(t:TypeId)(fs:Array Field):Prop where
 u:P.underlying t=some (.struct fs)
 s:P.stoodInHeld t=false
 f:Ho P fs.toList 0=true
 g:P.eqGuardType P.depth t=false
def N6{t G H:TypeId}{e:Array Field}(k:Gi P t e){x y:Operand}{vs ws:List Value}(E:Zc f x=.agg vs.toArray)(F:Zc f y=.agg ws.toArray)(z:JP P e.toList vs=true)(B:JP P e.toList ws=true)(h:K (.bool (ZI vs ws)) U) :
  OX S (.raw { dst:=none,op:=.binOp .eql t x y G,type:=H,pos := "", after:=#[],guard:=none }) f K U:=by
 intro a' w;simp only[execOp,w,E,F];refine rq ?_;rw[Qc];refine Ym k.g ?_;simp only[binOp,Qc];exact Yl k.u k.s k.f z B ⟨U,.refl _,h⟩
def N7{t G H:TypeId}{e:Array Field}(k:Gi P t e){x y:Operand}{vs ws:List Value}(E:Zc f x=.agg vs.toArray)(F:Zc f y=.agg ws.toArray)(z:JP P e.toList vs=true)(B:JP P e.toList ws=true)(h:K (.bool (!ZI vs ws)) U) :
  OX S (.raw { dst:=none,op:=.binOp .neq t x y G,type:=H,pos := "", after:=#[],guard:=none }) f K U:=by
 intro a' w;simp only[execOp,w,E,F];refine rq ?_;rw[Qc];refine Ym k.g ?_;simp only[binOp,Qc];exact Yl k.u k.s k.f z B ⟨U,.refl _,h⟩
def Qz{κ:Type}(enc:κ->Value):List (κ×Value)->Nat->List MapEntry
 |[],_=>[]
 |p::l,i=>⟨enc p.1,p.2,i⟩::Qz enc l (i+1)
def Q0{κ:Type}(enc:κ->Value)(l:List (κ×Value)):Obj:=.map (Qz enc l 0).toArray l.length
def QM{κ:Type}[DecidableEq κ](k:κ):List (κ×Value)->Nat->Option (Nat×Value)
 |[],_=>none
 |p::l,i=>if k=p.1 then some (i,p.2)else QM k l (i+1)
def lk{κ:Type}[DecidableEq κ](k:κ)(l:List (κ×Value)):Option Value:=(QM k l 0).map (·.2)
def ups{κ:Type}[DecidableEq κ](k:κ)(v:Value):List (κ×Value)->List (κ×Value)
 |[]=>[(k,v)]
 |p::l=>if k=p.1 then(p.1,v)::l else p::ups k v l
structure WM(T:Type)(P:Program)(kt:TypeId){κ:Type}[DecidableEq κ](enc:κ->Value):Prop where
 chk:∀(e:Bool)(k:κ){Q:Unit->Qa T->Prop}{U:Qa T},Q () U->Qw P (Instr.checkKey e 10000 kt (enc k)) Q U
 find:∀(k:κ)(l:List (κ×Value)){Q:Option (Nat×Value)->Qa T->Prop}{U:Qa T},Q (QM k l 0) U->Qw P (Instr.findKey kt (enc k) (Qz enc l 0)) Q U
 bits:∀k,Instr.sameBits 10000 (enc k) (enc k)=true
def Ul{κ:Type}[DecidableEq κ]{enc:κ->Value}{d:TypeDesc}(h:∀k k',Instr.sameNow d (enc k) (enc k')=some (decide (k=k')))(k:κ):∀(l:List (κ×Value))(i j:Nat),Instr.findNow d (enc k) (Qz enc l j) i=some (QM k l i)
 |[],i,j=>rfl
 |p::l,i,j=>by
  simp only[Qz,Instr.findNow,h,QM];by_cases e:k=p.1
  .simp[e]
  .simp only[e,decide_false,if_false];exact Ul h k l (i+1) (j+1)
def Sx{κ:Type}{enc:κ->Value}{d:TypeDesc}(h:∀k k',Instr.sameNow d (enc k) (enc k')=none)(k:κ)(p:κ×Value)(l:List (κ×Value))(i j:Nat):Instr.findNow d (enc k) (Qz enc (p::l) j) i=none:=by
 simp only[Qz,Instr.findNow,h]
def KW{κ:Type}[DecidableEq κ]{enc:κ->Value}{w:TypeId}(h:∀k k'{Q:Bool->Qa T->Prop}{U:Qa T},Q (decide (k=k')) U->Qw P (Op.equal w (enc k) (enc k')) Q U)(k:κ) :
  ∀(l:List (κ×Value))(i j:Nat){Q:Option (Nat×Value)->Qa T->Prop}{U:Qa T},Q (QM k l i) U->Qw P (Instr.findAsking w (enc k) (Qz enc l j) i) Q U
 |[],i,j,Q,U,f=>f
 |p::l,i,j,Q,U,f=>by
  simp only[Qz,Instr.findAsking,Qc];refine h k p.1 ?_;by_cases e:k=p.1
  .simpa[e,QM,Qi]using f
  .simp only[e,decide_false,Bool.false_eq_true,if_false];exact KW h k l (i+1) (j+1) (by simpa[QM,e]using f)
def WM.simple{f:TypeId}{d:TypeDesc}{κ:Type}[DecidableEq κ]{enc:κ->Value}(w:P.underlying f=some d)(B:WY d=true)(E:∀k k',Instr.sameNow d (enc k) (enc k')=some (decide (k=k')))(z:∀k,Instr.sameBits 10000 (enc k) (enc k)=true):WM T P f enc:=by
 refine⟨λ e k Q U h=>?_,λ k l Q U h=>?_,z⟩
 .have:∀m,Qw P (Instr.checkKey e (m+1) f (enc k)) Q U:=λ m=>by
   rw[Instr.checkKey];simp only[Qc,Zi w];cases d <;> simp[WY]at B <;> exact h
  exact this 9999
 .unfold Instr.findKey;simp only[Qc,Zi w,Ul E k l 0 0];exact h
def Di{m:Nat}{e:Bool}{xs:Array Value}{Q:PUnit->Qa T->Prop}:∀(E:List Field)(j:Nat)(vs:List Value),Ho P E j=true->JP P E vs=true->(∀i v,vs[i]?=some v->xs[j+i]?=some v)->Q () U ->
  Qw P (forIn E PUnit.unit λ fd _=>
   if fd.name ≠ "_" then do
    let a <- part fd.type xs fd.offset
    Instr.checkKey e (m+1) fd.type a
    pure (ForInStep.yield PUnit.unit)
   else pure (ForInStep.yield PUnit.unit)) Q U
 |[],_,_,_,_,_,h=>h
 |fd::r,j,vs,G,B,H,h=>by
  cases vs with
  |nil=>simp[JP]at B
  |cons v vs=>
  simp only[Ho,Bool.and_eq_true,decide_eq_true_eq]at G;obtain⟨⟨⟨I,K⟩,f⟩,L⟩:=G;simp only[JP,Bool.and_eq_true]at B;cases z:P.underlying fd.type with
  |none=>rw[z]at f;cases f
  |some d=>
   rw[z]at f B;rw[Ve,if_pos (by simpa using I)];have F:xs[j]?=some v:=by simpa using H 0 v rfl
   simp only[Qc,K];rw[Gx z f F]
   have w:∀Q:Unit->Qa T->Prop,Qw P (Instr.checkKey e (m+1) fd.type v) Q U=Q () U:=λ Q=>by
    rw[Instr.checkKey];simp only[Qc,Zi z];cases d <;> simp[WY]at f <;> rfl
   rw[w];simp only[Qi];refine Di r (j+1) vs L B.2 (λ i v M=>?_) h;have:=H (i+1) v M;rwa [show j+(i+1)=j+1+i by omega]at this
def WM.struct{E:TypeId}{B:Array Field}{κ:Type}[DecidableEq κ]{enc:κ->List Value}(z:Gi P E B)(w:∀k,JP P B.toList (enc k)=true)(H:∀k k',ZI (enc k) (enc k')=decide (k=k'))(G:∀k,Instr.sameBits 10000 (.agg (enc k).toArray) (.agg (enc k).toArray)=true) :
  WM T P E (λ k=>.agg (enc k).toArray):=by
 refine⟨λ e k Q U h=>?_,λ k l Q U h=>?_,G⟩
 .have:∀m,Qw P (Instr.checkKey e (m+1+1) E (.agg (enc k).toArray)) Q U:=λ m=>by
   rw[Instr.checkKey];simp only[Qc,Zi z.u];obtain⟨F⟩:=B;rw[forIn_toArray];exact Di F 0 (enc k) z.f (w k) (λ i v I=>by simpa using I) h
  exact this 9998
 .unfold Instr.findKey;simp only[Qc,Zi z.u];cases l with
  |nil=>exact h
  |cons p l=>
   rw[Sx (enc:=λ k=>Value.agg (enc k).toArray) (λ _ _=>rfl)];exact KW (λ k k' Q U K=>Yl z.u z.s z.f (w k) (w k') (by rw[H];exact K)) k (p::l) 0 0 h
def P7{κ:Type}(enc:κ->Value){t w:TypeId}(h:∀b,U.free b->K (.map (some b)) (U.put b (Q0 enc []))) :
  OX S (.raw { dst:=none,op:=.makeMap t none,type:=w,pos := "", after:=#[],guard:=none }) f K U:=by
 intro a' z;simp only[execOp];refine rq ?_;simp only[Instr.makeMap,Qc,newObj,Qw,Qi,Option.map_none];exact λ b e=>⟨_,.refl _,h b e⟩
def Da{κ:Type}[DecidableEq κ]{enc:κ->Value}{t B E:TypeId}{z:Value}{b:Nat}{l:List (κ×Value)}{k:κ}{ok:Bool}(w:WM T P B enc)(H:P.underlying t=some (.map B E))(I:Xl P E=some z)
  (G:U.has b (Q0 enc l)) {Q:Value->Qa T->Prop} (h:Q (if ok then .tuple #[(lk k l).getD z,.bool (lk k l).isSome]else(lk k l).getD z) U):Qw P (Instr.lookup t (.map (some b)) (enc k) ok) Q U:=by
 obtain⟨K,F,f⟩:=P9 I;unfold Instr.lookup;simp only[Qc,Zi H,getObj];refine⟨_,G,rfl,rfl,?_⟩;simp only[Qw,Q0,Qi,Qc];refine w.chk _ _ ?_;refine w.find k l ?_;unfold lk at h;cases e:QM k l 0 with
 |none=>simp only[e,Option.map_none,Option.getD_none,Option.isSome_none]at h;simp only[Qc,Xz F f,Qi];exact h
 |some p=>simp only[e,Option.map_some,Option.getD_some,Option.isSome_some]at h;simp only[Qi];exact h
def Y0{κ:Type}[DecidableEq κ]{enc:κ->Value}{t e w M:TypeId}{z:Value}{b:Nat}{l:List (κ×Value)}{k:κ}{x y:Operand}(E:WM T P e enc)(G:P.underlying t=some (.map e w))(L:Xl P w=some z)
  (H:Zc f x=.map (some b)) (I:Zc f y=enc k) (F:U.has b (Q0 enc l)) (h:K ((lk k l).getD z) U) :
  OX S (.raw { dst:=none,op:=.lookup t x y false,type:=M,pos := "", after:=#[],guard:=none }) f K U:=by
 intro a' B;simp only[execOp,B,H,I];exact rq (Da E G L F ⟨U,.refl _,h⟩)
def KP{κ:Type}[DecidableEq κ]{enc:κ->Value}{t e w M:TypeId}{z:Value}{b:Nat}{l:List (κ×Value)}{k:κ}{x y:Operand}(E:WM T P e enc)(G:P.underlying t=some (.map e w))(L:Xl P w=some z)
  (H:Zc f x=.map (some b)) (I:Zc f y=enc k) (F:U.has b (Q0 enc l)) (h:K (.tuple #[(lk k l).getD z,.bool (lk k l).isSome]) U) :
  OX S (.raw { dst:=none,op:=.lookup t x y true,type:=M,pos := "", after:=#[],guard:=none }) f K U:=by
 intro a' B;simp only[execOp,B,H,I];exact rq (Da E G L F ⟨U,.refl _,h⟩)
def Sv{κ:Type}(enc:κ->Value):∀(l:List (κ×Value))(i:Nat),(Qz enc l i).length=l.length
 |[],_=>rfl
 |_::l,i=>by simp[Qz,Sv enc l]
def KD{κ:Type}(enc:κ->Value):∀(l l':List (κ×Value))(i:Nat),Qz enc (l++l') i=Qz enc l i++Qz enc l' (i+l.length)
 |[],l',i=>by simp[Qz]
 |p::l,l',i=>by simp[Qz,KD enc l l' (i+1)];congr 1;omega
def YR{κ:Type}[DecidableEq κ]{k:κ}{v:Value}:∀{l:List (κ×Value)}{i:Nat},QM k l i=none->ups k v l=l++[(k,v)]
 |[],_,_=>rfl
 |p::l,i,h=>by
  simp only[QM]at h;split at h
  .cases h
  .rename_i e;simp only[ups,if_neg e,cons_append,YR h]
def T8{κ:Type}[DecidableEq κ]{enc:κ->Value}{k:κ}{v:Value}:∀{l:List (κ×Value)}{i j n:Nat}{x:Value},QM k l i=some (n,x)->i<=n/\(∃e,(Qz enc l j)[n-i]?=some e/\e.key=enc k) /\
   (Qz enc l j).modify (n-i) (λ e=>{ e with key:=enc k,val:=v })=Qz enc (ups k v l) j/\(ups k v l).length=l.length
 |[],_,_,_,_,h=>by cases h
 |p::l,i,j,n,x,h=>by
  simp only[QM]at h;split at h
  .rename_i e;cases h;refine⟨Nat.le_refl _,?_,?_,?_⟩
   .simp[Qz,e]
   .simp[Qz,ups,e]
   .simp[ups,e]
  .rename_i e;obtain⟨F,⟨x,z,f⟩,B,E⟩:=T8 (enc:=enc) (v:=v) (j:=j+1) h;have w:n-i=(n-(i+1))+1:=O1
   refine⟨O1,?_,?_,by simp[ups,e,E]⟩
   .rw[w];exact⟨x,by simpa[Qz]using z,f⟩
   .rw[w];simp only[Qz,ups,if_neg e,modify_succ_cons,B]
def KE{κ:Type}[DecidableEq κ]{enc:κ->Value}{t H vt ty:TypeId}{b:Nat}{l:List (κ×Value)}{k:κ}{v:Value}{x y u:Operand}{M':List Q2}(E:WM T P H enc)(X:P.underlying t=some (.map H vt))
  (Z:Zc f x=.map (some b)) (hy:Zc f y=enc k) (Y:Zc f u=v) (F:J5 b (Q0 enc (ups k v l)) (Q0 enc l) U.M M') (h:K undef { U with M:=M' }) :
  OX S (.raw { dst:=none,op:=.mapUpdate t x y u,type:=ty,pos := "", after:=#[],guard:=none }) f K U:=by
 intro a' V;simp only[execOp,V,Z,hy,Y];refine ru ?_;unfold Instr.mapUpdate;simp only[Qc,Zi X,getObj];refine⟨_,.inr F.mem,rfl,rfl,?_⟩;simp only[Qw,Q0,Qi,Qc];refine E.chk _ _ ?_;refine E.find k l ?_;cases e:QM k l 0 with
 |none=>
  have G:=YR (v:=v) e;simp only[setObj,Qw];refine⟨Q0 enc l,M',?_,rfl,rfl,rfl,⟨_,.refl _,h⟩⟩
  have:Obj.map ((Qz enc l 0).toArray.push { key:=enc k,val:=v,born:=l.length }) (l.length+1)=Q0 enc (ups k v l):=by
   rw[G];simp only[Q0,length_append,length_cons,length_nil,KD,Qz,Nat.zero_add];congr 1;apply Array.ext';simp
  rw[this];exact F
 |some p=>
  obtain⟨n,w⟩:=p;obtain⟨h1,⟨I,L,B⟩,N,Q⟩:=T8 (enc:=enc) (v:=v) (j:=0) e
  have W:(((Qz enc l 0).toArray[n]?).map (·.key)).getD (enc k)=enc k:=by
   have:(Qz enc l 0).toArray[n]?=some I:=by simpa using L
   rw[this];exact B
  simp only[Qc,Instr.keyThatStays,W,E.bits,if_true,Qi,setObj,Qw];refine⟨Q0 enc l,M',?_,rfl,rfl,rfl,⟨_,.refl _,h⟩⟩
  have:Obj.map ((Qz enc l 0).toArray.modify n λ e=>{ e with key:=enc k,val:=v }) l.length=Q0 enc (ups k v l):=by
   simp only[Q0,Q];congr 1;apply Array.ext';have z:=N;rw[Nat.sub_zero]at z;simpa using z
  rw[this];exact F
def Gu{b off:Nat}{e:TypeId}{M₀:List Q2}{Q:Qa T->Prop}:∀(vs:List Value)(i:Nat)(c:Array Value)(U:Qa T),U.M=.obj b (.cells c e (0,0))::M₀->(∀v∈vs,v.single=true)->off+i+vs.length<=c.size ->
  Q { U with M:=.obj b (.cells (JY c off vs i) e (0,0))::M₀ }->ZF ⟨b,off,none⟩ vs i Q U
 |[],i,c,U,f,_,_,w=>by
  have:U={ U with M:=.obj b (.cells c e (0,0))::M₀ }:=by rw[<- f]
  show Q U;rw[this];exact w
 |v::vs,i,c,U,f,z,B,w=>by
  simp only[length_cons]at B;refine⟨z v (mem_cons_self ..),.obj b (.cells (c.setIfInBounds (off+i) v) e (0,0))::M₀,?_,?_⟩
  .rw[f,Qu];exact .obj (a:=⟨b,off+i,none⟩) rfl (by show off+i<c.size;omega)
  .exact Gu vs (i+1) _ _ rfl (λ v E=>z v (mem_cons_of_mem _ E)) S3 w
def Vw{vs:List Value}{c:Array Value}(h:c.size=vs.length):JY c 0 vs 0=vs.toArray:=by
 apply Array.ext
 .rw[Vm];simpa using h
 .intro i h1 h2;have e:i<vs.length:=by simpa using h2
  have:=Pk vs c 0 0 i O1;rw[if_pos O1]at this;simp only[Nat.zero_add,Nat.sub_zero]at this;rw[Array.getElem?_eq_getElem h1,getElem?_eq_getElem e]at this;simpa using Option.some.inj this
def Zy{b:Nat}{c:Array Value}{t:TypeId}{vs:List Value}{Q:Qa T->Prop}(w:U.free b)(f:c.size=vs.length)(z:∀v∈vs,v.single=true)(h:∀e,U.le e->Zo e b vs.toArray->Q e) :
  ZF ⟨b,0,none⟩ vs 0 (λ U'=>∃e,Q1 U' e/\Q e) (U.put b (.cells c t)):=by
 refine Gu vs 0 c _ rfl z O1 ?_;rw[Vw f];exact⟨_,Wf (b:=b) (M':=U.M) (Perm.refl _),h _ (GD w) Zo.new⟩
def Acc(e:TypeId)(n:Nat)(v:Value)(cs:List Value)(M M₀:List Q2):Prop:=
 (v=.slice none 0 0/\cs=[]/\M=M₀) \/
 (∃(b:Nat)(c:Array Value)(len cap:Nat),v=.slice (some ⟨b,0,none⟩) len cap/\cs.length=len*n/\len<=cap/\c.size=cap*n/\M=.obj b (.cells c e (0,0))::M₀/\∀(i:Nat)(x:Value),cs[i]?=some x->c[i]?=some x)
def Kd:Value->Bool
 |.slice none _ _=>true
 |_=>false
def Acc.nil{e:TypeId}{n:Nat}{M₀:List Q2}:Acc e n (.slice none 0 0) [] M₀ M₀:=.inl ⟨rfl,rfl,rfl⟩
def Acc.empty{e:TypeId}{n b:Nat}{M₀:List Q2}:Acc e n (.slice (some ⟨b,0,none⟩) 0 0) [] (.obj b (.cells #[] e (0,0))::M₀) M₀:=
 .inr ⟨b,#[],0,0,rfl,S1,Nat.le_refl _,S1,rfl,λ i x h=>by simp at h⟩
def Dp(e:Nat):∀(r c:Nat),Builtin.growBy e r c<=max c (e+(e+768) / 4)
 |0,c=>by simp[Builtin.growBy];omega
 |r+1,c=>by
  simp only[Builtin.growBy];split
  .omega
  .have:=Dp e r (c+(c+768) / 4);omega
def QG{need old:Nat}(h:old<need):Builtin.nextslicecap need old<=2*need+192:=by
 unfold Builtin.nextslicecap;split
 .omega
 .split
  .omega
  .have:=Dp need 4 old;omega
def Src(U:Qa T)(a:Option Addr)(cs:List Value):Prop:=(a=none/\cs=[])\/∃e,a=some e/\Ju U e cs
def XV{U:Qa T}{a:Option Addr}{l c n:Nat}{cs:List Value}(h:Src U a cs)(f:cs.length=l*n){Q:Array Value->Qa T->Prop}(e:Q cs.toArray U):Qw P (Builtin.firstCells n l (.slice a l c)) Q U:=by
 rcases h with⟨rfl,rfl⟩|⟨z,rfl,w⟩
 .exact e
 .simp only[Builtin.firstCells];rw[<- f];exact w.cells e
def PF{k:Nat}{Q:Unit->Qa T->Prop}(h:Q () U):Qw P (askRoom k) Q U:=by
 unfold askRoom;split
 .exact⟨rfl,h⟩
 .exact h
def Cr{b:Nat}{c:Array Value}{e:TypeId}{M₀:List Q2}{cs:List Value}(f:U.M=.obj b (.cells c e (0,0))::M₀)(h:∀(i:Nat)(x:Value),cs[i]?=some x->c[i]?=some x):Ju U ⟨b,0,none⟩ cs:=by
 intro i v w;rw[Qu];exact⟨rfl,.inl ⟨c,e,(0,0),.inr (by rw[f];simp),by simpa using h i v w⟩⟩
def Acc.src{e n:Nat}{v:Value}{cs:List Value}{M₀:List Q2}(h:Acc e n v cs U.M M₀):∃a l c,v=.slice a l c/\cs.length=l*n/\Src U a cs:=by
 rcases h with⟨rfl,rfl,f⟩|⟨b,c,len,cap,rfl,w,B,E,f,z⟩
 .exact⟨_,_,_,rfl,S1,.inl ⟨rfl,rfl⟩⟩
 .exact⟨_,_,_,rfl,w,.inr ⟨_,rfl,Cr f z⟩⟩
def Cp{t t2 e e2 n ty:Nat}{z v:Value}{B:TypeInfo}{x y:Operand}{ya:Option Addr}{yl yc:Nat}{cs new:List Value}{M₀:List Q2}
  (hu:P.underlying t=some (.slice e)) (ah:P.underlying t2=some (.slice e2)) (E:P.info? e=some B) (ag:B.size=n) (hz:B.zero=some z) (ai:z.cells.size=n) (V:B.bytes≠0/\B.bytes<=1024)
  (hx:Zc f x=v) (hy:Zc f y=.slice ya yl yc) (Z:Acc e n v cs U.M M₀) (Q:Src U ya new) (N:new.length=yl*n) (hn:0<n) (T:∀w∈new,w.single=true) (aj:cs.length+new.length<=1048576)
  (h:∀v' M',Acc e n v' (cs++new) M' M₀->Kd v'=(Kd v&&new.isEmpty)->K v' { U with M:=M' }) :
  OX S (.raw { dst:=none,op:=.call { callee:=.builtin .append,args:=#[x,y],argTypes:=#[t,t2] },type:=ty,pos := "", after:=#[],guard:=none }) f K U:=by
 intro a' ad;obtain⟨sa,sl,sc,I,H,af⟩:=Z.src;have hm:(#[x,y]:Array Operand).map a'.eval=#[.slice sa sl sc,.slice ya yl yc]:=by simp[ad,hx,hy,I]
 simp only[execOp,resolve,hm,Qc,Qi,invoke,builtin];show Qw P (Builtin.append_ #[t,t2] ty #[.slice sa sl sc,.slice ya yl yc]) _ U;unfold Builtin.append_;simp only[getElem?_toArray,getElem?_cons_zero,getElem?_cons_succ,Qc,Zi hu,Zi ah,Ji E,ag,Qi,Bool.false_eq_true,if_false,Builtin.lenOf,Wl E,false_or,Bool.not_false,if_true];have al:sl<=cs.length:=by rw[H];exact Nat.le_mul_of_pos_right _ hn
 have am:yl<=new.length:=by rw[N];exact Nat.le_mul_of_pos_right _ hn
 have L:(cs++new).length=(sl+yl)*n:=by rw[length_append,H,N,Nat.add_mul]
 split
 .rename_i hle;rw[Qc];refine XV Q N ?_;rcases Z with⟨rfl,rfl,G⟩|⟨b,c,len,cap,rfl,h1,h2,Y,G,h4⟩
  .cases I;have:yl=0:=O1
   subst this;have X:new=[]:=by simpa using N
   subst X;refine⟨U,.refl _,?_⟩;have:=h (.slice none 0 0) U.M (.inl ⟨rfl,rfl,G⟩) rfl;exact this
  .cases I;simp only[Qc];refine GY _ _ _ ?_;rw[Qu]
   have F:0+sl*n+0+new.length<=c.size:=by
    have:(sl+yl)*n<=sc*n:=Nat.mul_le_mul_right n hle;rw[Nat.add_mul]at this;rw[Y,N];omega
   refine Gu _ _ c U G T F ?_;refine⟨_,.refl _,h _ _ (.inr ⟨b,_,sl+yl,sc,rfl,L,hle,by rw[Vm];exact Y,rfl,λ i x E=>?_⟩) rfl⟩;rw[Pk _ _ _ _ _ F];simp only[getElem?_append]at E;split at E
   .rename_i ae;rw[if_neg O1];exact h4 i x E
   .rename_i hge;have ae:=(List.getElem?_eq_some_iff.1 E).1;rw[if_pos O1];rw[show i-(0+sl*n+0)=i-cs.length by omega];exact E
 .rename_i hgt;have ab:¬(((sl+yl:Nat):Int) > IntKind.i64.max/\B.bytes=0):=λ h=>V.1 h.2
  have ac:¬(Builtin.nextslicecap (sl+yl) sc*B.bytes > 2^48):=by
   have:=QG (need:=sl+yl) (old:=sc) O1;have h2:Builtin.nextslicecap (sl+yl) sc*B.bytes<=(2*(sl+yl)+192)*1024:=Nat.mul_le_mul this V.2;have aa:(2:Nat)^48=281474976710656:=D1
   rw[aa];omega
  simp only[Wl E,Qc];rw[if_neg ab];simp only[Wl E,Qc];rw[if_neg ac];simp only[choose,Qc];show ∀tt,Qw P _ _ U;intro tt;show Qw P (typeInfo e) _ U;rw[Wl E];refine PF ?_;refine XV af H ?_;refine XV Q N ?_;simp only[Xz E hz];refine Jm λ b' ak=>?_;have W:sl+yl<=Question.cut (.appendCap (sl+yl) sc e) tt:=by simp only[Question.cut];omega
  refine⟨_,Z2 (M':=.obj b' (.cells (cs.toArray++new.toArray++Builtin.zeroCells z.cells (Question.cut (.appendCap (sl+yl) sc e) tt-(sl+yl))) e)::M₀) ?_,?_⟩
  .show Sublist _ (.obj b' _::U.M);refine Sublist.cons_cons _ ?_;rcases Z with⟨rfl,rfl,G⟩|⟨b,c,len,cap,rfl,h1,h2,Y,G,h4⟩
   .rw[G];exact Sublist.refl _
   .rw[G];exact sublist_cons_self _ _
  .refine h _ _ (.inr ⟨b',_,sl+yl,Question.cut (.appendCap (sl+yl) sc e) tt,rfl,L,W,?_,rfl,λ i x E=>?_⟩) ?_
   .simp only[Array.size_append,size_toArray,H,N,Builtin.zeroCells,Array.size_map,Array.size_range,ai];rw[<- Nat.add_mul,<- Nat.add_mul];congr 1;omega
   .have:(cs.toArray++new.toArray)=(cs++new).toArray:=S1
    rw[this,Array.getElem?_append_left (by simpa using(List.getElem?_eq_some_iff.1 E).1)];simpa using E
   .rcases Z with⟨rfl,rfl,G⟩|⟨b,c,len,cap,rfl,h1,h2,Y,G,h4⟩
    .cases I;have:new≠[]:=by rintro rfl;simp at N;omega
     cases new with
     |nil=>exact absurd rfl this
     |cons=>rfl
    .rfl
def F2(P:Program)(t e n:Nat):Bool:=
 (match P.underlying t with|some (.slice e')=>decide (e'=e)|_=>false)&&(match P.info? e with
  |some f=>decide (f.size=n)&&(match f.zero with|some z=>decide (z.cells.size=n)|none=>false)&&decide (f.bytes≠0)&&decide (f.bytes<=1024)
  |none=>false)&&decide (0<n)
structure Xd(P:Program)(t e n:Nat):Prop where
 u:P.underlying t=some (.slice e)
 i:∃inf z,P.info? e=some inf/\inf.size=n/\inf.zero=some z/\z.cells.size=n/\inf.bytes≠0/\inf.bytes<=1024
 n:0<n
def Xd.of{t e n:Nat}(h:F2 P t e n=true):Xd P t e n:=by
 unfold F2 at h;simp only[Bool.and_eq_true,decide_eq_true_eq]at h;obtain⟨⟨f,w⟩,B⟩:=h;refine⟨?_,?_,B⟩
 .split at f
  .rename_i e' hu;simp only[decide_eq_true_eq]at f;subst f;exact hu
  .cases f
 .split at w
  .rename_i inf hi;simp only[Bool.and_eq_true,decide_eq_true_eq]at w;obtain⟨⟨⟨a,b⟩,c⟩,d⟩:=w;split at b
   .rename_i z hz;simp only[decide_eq_true_eq]at b;exact⟨inf,z,hi,a,hz,b,c,d⟩
   .cases b
  .cases w
def Wv{t e n ty:Nat}{v:Value}{x y:Operand}{H:Option Addr}{yl yc:Nat}{cs new:List Value}{M₀:List Q2}(k:Xd P t e n)
  (Y:Zc f x=v) (Z:Zc f y=.slice H yl yc) (W:Acc e n v cs U.M M₀) (F:Src U H new) (X:new.length=yl*n) (B:∀w∈new,w.single=true) (E:cs.length+new.length<=1048576)
  (h:∀G M',Acc e n G (cs++new) M' M₀->Kd G=(Kd v&&new.isEmpty)->K G { U with M:=M' }) :
  OX S (.raw { dst:=none,op:=.call { callee:=.builtin .append,args:=#[x,y],argTypes:=#[t,t] },type:=ty,pos := "", after:=#[],guard:=none }) f K U:=by
 obtain⟨aa,z,I,L,N,Q,T,V⟩:=k.i;exact Cp k.u k.u I L N Q ⟨T,V⟩ Y Z W F X k.n B E h
def Va(P:Program)(t:TypeId):Array Field:=match P.underlying t with|some (.struct e)=>e|_=>#[]
def Tg(P:Program)(t:TypeId):Bool:=
 (match P.underlying t with|some (.struct _)=>true|_=>false)&&!P.stoodInHeld t&&Ho P (Va P t).toList 0&&!P.eqGuardType P.depth t
def Gi.of{t:TypeId}(h:Tg P t=true):Gi P t (Va P t):=by
 unfold Tg at h;simp only[Bool.and_eq_true,Bool.not_eq_true']at h;obtain⟨⟨⟨e,f⟩,w⟩,z⟩:=h;refine⟨?_,f,w,z⟩;unfold Va;split at e
 .rename_i fs hu;rw[hu]
 .cases e
def Sl{t e ty n:Nat}{z:Value}{w:TypeInfo}{x y:Operand}(Y:P.underlying t=some (.slice e))(G:P.info? e=some w)(hz:w.zero=some z)(M:z.cells=#[z])(L:w.size=1)(F:w.bytes<=64)
  (hx:Zc f x=.int .i64 n) (hy:Zc f y=.int .i64 n) (X:n<=1048576) (h:∀b,U.free b->K (.slice (some ⟨b,0,none⟩) n n) (U.put b (.cells (replicate n z).toArray e))) :
  OX S (.raw { dst:=none,op:=.makeSlice t x y,type:=ty,pos := "", after:=#[],guard:=none }) f K U:=by
 intro a' Q;simp only[execOp,Q,hx,hy];refine rq ?_;unfold Instr.makeSlice;have Z:IntKind.wrap .i64 (n:Int)=n:=Gk I1;simp only[Qc,Zi Y,asInt,asIntOf,Qi,Wl G,Z]
 have W:(w.bytes:Int)*(n:Int)<=67108864:=by
  have:=Nat.mul_le_mul F X;have e:((w.bytes*n:Nat):Int)=(w.bytes:Int)*n:=S1
  omega
 have E:(2:Int)^48=281474976710656:=D1
 have I:(((decide ((n:Int)<0)|| decide ((w.bytes:Int)*(n:Int) > 2^48))|| decide ((n:Int)<0))|| decide ((n:Int) > n))=false:=by
  rw[E];simp only[Bool.or_eq_false_iff,decide_eq_false_iff_not];omega
 simp only[I,Bool.false_eq_true,if_false];rw[Qc];refine PF ?_;simp only[Qc,Ji G,L,Nat.mul_one,Int.toNat_natCast]
 have fin:∀c:Array Value,(n≠0->c=z.cells)->Qw P (newRow e ((Array.range n).map (c[· % c.size]!))) (λ a U'=>∃N,Q1 U' N/\K (.slice (some a) n n) N) U:=by
  intro c V;refine Jm λ b T=>⟨_,.refl _,?_⟩
  have:(Array.range n).map (c[· % c.size]!)=(replicate n z).toArray:=by
   apply Array.ext
   .simp
   .intro i h1 h2;have H:n≠0:=by simp at h1;omega
    have B:=V H;rw[M]at B;subst B;simp[Nat.mod_one]
  rw[this];exact h b T
 split
 .rename_i h0;exact fin #[] λ h=>absurd h0 h
 .simp only[Qc,Xz G hz];exact fin _ λ _=>rfl
def In{t F e T:Nat}{s:ByteArray}{x:Operand}(L:P.underlying t=some .string)(z:P.underlying F=some (.slice e))(B:P.underlying e=some (.int .u8))(N:Zc f x=.string s)
  (h:∀b cap(c:Array Value)fr,U.free b->(∀(i:Nat)u,s.data[i]?=some u->c[i]?=some (.int .u8 u.toNat))->K (.slice (some ⟨b,0,none⟩) s.size cap) { U with I:=JH U.I b (.cells c e fr) }) :
  OX S (.raw { dst:=none,op:=.convert t F x,type:=T,pos := "", after:=#[],guard:=none }) f K U:=by
 intro a' G;simp only[execOp,G,N];refine rq ?_;unfold convert;simp only[Qc,Zi L,Zi z,Zi B,Conv.stringToBytes,choose];show ∀Q,Qw P _ _ U;intro Q;simp only[Qi,Qw];refine Jm λ b H=>?_;unfold markStringish;simp only[Qc,shape];refine⟨_,.inr (mem_cons_self ..),?_⟩;simp only[Obj.shapeOf,Qw,freeze];refine⟨D1,_,_,_,rfl,?_⟩;refine⟨_,Wf (b:=b) (M':=U.M) (Perm.refl _),?_⟩;refine h b _ _ _ H λ i u E=>?_;have w:=(Array.getElem?_eq_some_iff.1 E).1;rw[Array.getElem?_append_left (by simpa using w)];simp[E]
end Go.TM
namespace Go.TM
variable{T:Type}{P:Program}{S:Sys P T}{f:Fm}{U:Qa T}
def za(t:Tmp)(e:Fm->List Value->Fm)(f:Fm):List Value->Fm
 |[]=>f
 |v::vs=>e (JB f t v) vs
def G8(f:Fm):List Tmp->List Value->Fm
 |[],_=>f
 |t::ts,vs=>za t (λ f vs=>G8 f ts vs) f vs
def OH{N:Nat}:∀(ts:List Tmp)(vs:List Value)(tmps:Array Value)(f:Fm),(∀t∈ts,t<N)->FR N ⟨tmps,[]⟩ f []->FR N ⟨(ts.zip vs).foldl (λ tmps p=>tmps.setIfInBounds p.1 p.2) tmps,[]⟩ (G8 f ts vs) []
 |[],_,_,_,_,h=>h
 |t::ts,[],_,_,_,h=>h
 |t::ts,v::vs,tmps,f,e,h=>by
  simp only[zip_cons_cons,foldl_cons];show FR N _ (G8 (JB f t v) ts vs) [];exact OH ts vs _ _ (λ t z=>e t (mem_cons_of_mem _ z)) (h.put (some t) v λ d w=>by cases w;exact e t (mem_cons_self ..))
def Ow(l:Nat)(lo:LoopState->Option Code->Obj)(K:Value->Qa T->Prop)(j:Option Code)(U:Qa T):Prop:=
 ∃M',J5 l (lo (if j.isNone then .ready else .done) j) (lo .busy none) U.M M'/\K (.bool j.isNone) { U with M:=M' }
def CP(l:Nat)(lo:LoopState->Option Code->Obj)(n:Qa T->Prop)(x:Nat->Qa T->Prop)(r:Qa T->Prop)(U:Qa T):Prop:=
 ∃st j M',st≠.busy/\J5 l (lo .exhausted j) (lo st j) U.M M'/\(match j with|none=>n { U with M:=M' }|some (.exit i)=>x i { U with M:=M' }|some .ret=>r { U with M:=M' }|_=>False)
def Tq(S:Sys P T)(fn:FuncId)(params:Array Tmp)(as E:C)(l:Nat)(lo:LoopState->Option Code->Obj)(f:Fm):Prop:=
 ∀(vs:List Value)(K:Value->Qa T->Prop)(U:Qa T),vs.length=params.size->Q2.obj l (lo .ready none)∈U.M ->
  JL S fn (some l) as (λ z w B=>w=[]/\∃M₁,J5 l (lo .busy none) (lo .ready none) B.M M₁ /\
   JL S fn (some l) E (λ _ _ e=>Ow l lo K none e) (λ i _ _ e=>Ow l lo K (some (.exit i)) e) (λ _ _ e=>Ow l lo K (some .ret) e) z [] { B with M:=M₁ })
   (λ _ _ _ _=>False) (λ _ _ _=>False) (G8 f params.toList vs) [] U->Zr S l vs K U
def Vo{l:Nat}{r:Loop}{Q:Loop->Qa T->Prop}(e:Q2.obj l (.loop r)∈U.M)(h:Q r U):Qw P (Instr.getLoop l) Q U:=by
 unfold Instr.getLoop;rw[Qc];exact⟨.loop r,.inr e,rfl,rfl,h⟩
def Rb{l:Nat}{r:Loop}{M':List Q2}{Q:Unit->Qa T->Prop}(e:r.state=.ready)(f:J5 l (.loop { r with state:=.busy }) (.loop r) U.M M')(h:Q () { U with M:=M' }):Qw P (Instr.beginRound l) Q U:=by
 unfold Instr.beginRound;rw[Qc];refine Vo f.mem ?_;simp only[Qc,setObj,Qw];refine⟨_,M',f,rfl,rfl,rfl,?_⟩;rw[e];exact h
def KS{l:Nat}{r:Loop}{M':List Q2}{j:Option Code}{Q:Value->Qa T->Prop}(e:J5 l (.loop { r with state:=if j.isNone then .ready else .done,pending:=j }) (.loop r) U.M M')(h:Q (.bool j.isNone) { U with M:=M' }):Qw P (Instr.endRound l j) Q U:=by
 unfold Instr.endRound;rw[Qc];refine Vo e.mem ?_;simp only[Qc,setObj,Qw];exact⟨_,M',e,rfl,rfl,rfl,h⟩
def F4{l:Nat}{r:Loop}{M':List Q2}{Q:Option Code->Qa T->Prop}(e:r.state≠.busy)(f:J5 l (.loop { r with state:=.exhausted }) (.loop r) U.M M')(h:Q r.pending { U with M:=M' }):Qw P (Instr.endLoop l) Q U:=by
 unfold Instr.endLoop;rw[Qc];refine Vo f.mem ?_;have:(r.state==.busy)=false:=by simpa using e
 rw[this];simp only[Bool.false_eq_true,if_false,Qc,setObj,Qw];exact⟨_,M',f,rfl,rfl,rfl,h⟩
def qi(hm:P.follows .mixedOrders=true){fn N:Nat}{mu dets:List Nat}{c:Operand}{params:Array Tmp}{as bd:C}{n:Zh T}{x:Nat->Zh T}{r:Zh T}{ds:List Deferred}{g:FuncId}{first w:Array Value}
  (hc:Zc f c=.func (.func g) first w) (z:params.toList.all (λ t=>decide (t<N))=true) (hg:(P.funcs[g]?.any λ fd=>fd.body.isSome&&fd.name != "runtime.NumGoroutine")=true)
  (h:∀(l d:Nat)(lo:LoopState->Option Code->Obj),U.free d->U.free l->l≠d->Tq S fn params as bd l lo f ->
   Qb S g (first.toList++[Value.func (.yield l) #[] #[]]++w.toList).toArray (λ _ Y=>JS Y ->
    CP l lo (λ U=>n f (⟨.collected d,#[]⟩::ds) U) (λ i U=>x i f (⟨.collected d,#[]⟩::ds) U) (λ U=>r f (⟨.collected d,#[]⟩::ds) U) Y)
    { U with M:=.obj l (lo .ready none)::.obj d (.deferred (some []))::U.M }) :
  JL S fn none (.rng N mu dets c params as bd) n x r f ds U:=by
 intro ca cb aa ab a Z;have hN:∀t∈params.toList,t<N:=λ t ht=>by simpa using all_eq_true.1 z t ht
 refine Aq ?_;simp only[Instr.enterLoop,Qc,newObj,Qw,Qi];intro d hd l hl;have ae:U.free l:=⟨hl.1,λ r hr=>hl.2 r (mem_cons_of_mem _ hr)⟩;have af:l≠d:=λ e=>hl.2 (.obj d (.deferred (some []))) (mem_cons_self ..) e.symm
 let lo:LoopState->Option Code->Obj:=λ st j=>.loop { state:=st,pending:=j,fn,tmps:=a.tmps,params,assign:=ca,body:=cb,defers:=d }
 have Q:FR N ⟨a.tmps,[]⟩ f []:=⟨rfl,Z.size,Z.get⟩
 have hR:Tq S fn params as bd l lo f:=by
  intro vs K U' aj X hw;unfold Zr Instr.yield;rw[Qc];refine Vo (r:={ state:=.ready,pending:=none,fn,tmps:=a.tmps,params,assign:=ca,body:=cb,defers:=d }) X ?_;have ah:¬(vs.toArray.size≠params.size):=by simp[aj]
  simp only[ah,if_false,Qi];show WE S l fn _ ca cb K U';refine WE.of_body ?_
  have ad:FR N ⟨(params.zip vs.toArray).foldl (λ tmps(t,a)=>tmps.setIfInBounds t a) a.tmps,[]⟩ (G8 f params.toList vs) []:=by
   have:=OH params.toList vs a.tmps f hN Q;rw[<- Array.foldl_toList];simpa using this
  rw[<- aa]at hw;refine Zu.mono (He hm ca ad hw) λ e a' U1 z=>?_;obtain⟨ao,am,L,z⟩:=z;cases e with
  |exit i=>exact z.elim
  |ret=>exact z.elim
  |normal=>
   obtain⟨rfl,M₁,B,z⟩:=z;refine⟨rfl,Rb (r:={ state:=.ready,pending:=none,fn,tmps:=a.tmps,params,assign:=ca,body:=cb,defers:=d }) rfl B ?_⟩;rw[<- ab]at z;refine Zu.mono (He hm cb L z) λ e al U2 z=>?_;obtain⟨ap,an,ak,z⟩:=z;cases e with
   |normal=>obtain⟨M',B,W⟩:=z;exact KS (r:={ state:=.busy,pending:=none,fn,tmps:=a.tmps,params,assign:=ca,body:=cb,defers:=d }) B W
   |exit i=>obtain⟨M',B,W⟩:=z;exact KS (r:={ state:=.busy,pending:=none,fn,tmps:=a.tmps,params,assign:=ca,body:=cb,defers:=d }) B W
   |ret=>obtain⟨M',B,W⟩:=z;exact KS (r:={ state:=.busy,pending:=none,fn,tmps:=a.tmps,params,assign:=ca,body:=cb,defers:=d }) B W
 have E:=h l d lo hd ae af hR;have ac:a.eval c=.func (.func g) first w:=by rw[Z.eval];exact hc
 have ag:(#[.const (.func (.yield l) #[] #[])]:Array Operand).map a.eval=#[Value.func (.yield l) #[] #[]]:=by simp[Act.eval]
 simp only[resolve,VK,ac,ag,Qc,Deferred.ofValue,Qi,invoke,callFunc,program,Qw];cases V:P.funcs[g]? with
 |none=>simp[V]at hg
 |some fd=>
  simp only[V,Option.any_some,Bool.and_eq_true,bne_iff_ne,ne_eq]at hg;obtain⟨h1,h2⟩:=hg;have H:fd.body.isNone=false:=by cases aq:fd.body <;> simp_all
  have G:(fd.name== "runtime.NumGoroutine")=false:=by simpa using h2
  simp only[G,H,Bool.false_eq_true,if_false,Qi];have e:(first++#[Value.func (.yield l) #[] #[]])++w=(first.toList++[Value.func (.yield l) #[] #[]]++w.toList).toArray:=by apply Array.ext';simp
  rw[e];refine Qb.sep E λ v Y hs I=>⟨Y,.refl _,?_⟩;obtain⟨st,j,M',ai,B,I⟩:=I hs;refine F4 (r:={ state:=st,pending:=j,fn,tmps:=a.tmps,params,assign:=ca,body:=cb,defers:=d }) ai B ?_;have F:a.defers=ds:=Z.ds;cases j with
  |none=>exact⟨T1,by simpa[F]using I⟩
  |some cd=>
   cases cd with
   |exit i=>exact OZ ⟨T1,by simpa[F]using I⟩
   |ret=>exact Tw ⟨T1,by simpa[F]using I⟩
   |_=>exact I.elim
end Go.TM
namespace Go.TM
def Q_(n a b:Int):Bool:=decide (a<=n)&&decide (n<=b)
def Hh{α:Type}{l:List α}{i:Nat}{x:α}(h:l[i]?=some x):l.drop i=x::l.drop (i+1):=by
 obtain⟨e,rfl⟩:=List.getElem?_eq_some_iff.1 h;exact drop_eq_getElem_cons e
def Wm{α:Type}{l:List α}{i:Nat}{x:α}(h:l[i]?=some x):l.take (i+1)=l.take i++[x]:=by
 rw[take_add_one,h];rfl
structure TH where
 ea:Option Addr
 el:Nat
 ec:Nat
 ma:Option Addr
 ml:Nat
 mc:Nat
 ka:Option Addr
 kl:Nat
 kc:Nat
variable{T:Type}
def Zo.sees3{U:Qa T}{b o:Nat}{c:Array Value}{v:Value}(h:Zo U b c)(e:c[o]?=some v):U.sees ((Addr.mk b 0 none).add o) v:=by
 rw[Qu,Nat.zero_add];exact h.sees e
end Go.TM

