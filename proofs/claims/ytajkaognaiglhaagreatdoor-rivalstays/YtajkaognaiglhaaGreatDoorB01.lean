/- Lemmas. No conditions. -/
import Derived.Test.YtajkaognaiglhaaGreatDoorB00
set_option linter.all false
open List
namespace Go
abbrev Operand.t(n:Nat):Operand:=.tmp n
abbrev Operand.ci(n:Int):Operand:=.const (.int .i64 n)
abbrev Operand.cb(b:Bool):Operand:=.const (.bool b)
abbrev Operand.cn:Operand:=.const .nl
end Go
namespace Go.TM
variable{ok q:Bool}{A ε:Prop}{T α β κ:Type}{P:Program}{f:Fm}{b N n j ty len i c0 yc:Nat}{v z:Value}{X:Act}{ds:List Deferred}{S:Sys P T}{fn g:FuncId}{ro:Option Nat}{ops:Array Oper}{todo mu tail dets:List Nat}{p:Ex->Act->Qa T->Prop}{ω:Value->Act}{ζ:Oper}{c args tmps:Array Value}{U' U:Qa T}{B:Nat->Nat->Prop}{late:Nat->Bool}{kind:Nat->Nat}{V:Qa T->Prop}{L:Act->Qa T->Prop}{E:Qa T->Prop}{vs ws cs:List Value}{η:Value->Prop}{fd:Func}{Q:Value->Qa T->Prop}{τ υ:Obj}{M₀ M':List Q2}{a ya:Option Addr}{δ:List α}{π:α->List Value->Prop}{K:Value->Qa T->Prop}{s:Sem Value}{H e M G w:TypeId}{γ:Bool->Qa T->Prop}{x y:Operand}{W:TypeDesc}{θ:α->β->Sem (ForInStep β)}{φ:β->Qa T->Prop}{op:BinOp}{D:Unit->Qa T->Prop}{enc:κ->Value}{μ:Array Value->Qa T->Prop}{ρ:TypeInfo}{r:Loop}{σ:Loop->Qa T->Prop}{ψ:Option Code}{ν:Option Code->Qa T->Prop}{params:Array Tmp}
abbrev O.rw(o:Op)(t:TypeId):O:=.raw { dst:=none,op:=o,type:=t,pos := "", after:=#[],guard:=none }
structure St where
 o:O
 dst:Option Nat
 g:Option (Nat×Bool)
 dfr:Option (Operand×Array Operand):=none
variable{st:St}
abbrev St.d(n:Nat)(o:O):St:=⟨o,some n,none,none⟩
abbrev St.m(n k:Nat):St:=⟨.mv (.tmp k),some n,none,none⟩
abbrev St.u(n j:Nat)(b:Bool)(o:O):St:=⟨o,some n,some (j,b),none⟩
abbrev Zh(T:Type):=Fm->List Deferred->Qa T->Prop
variable{ξ:Nat->Zh T}
def GB(b e:Bool)(A B:Prop):Prop:=
 match b,e with
 |true,true=>A
 |false,false=>A
 |true,false=>B
 |false,true=>B
def Jb(h:ok=q->A)(f:ok=!q->ε):GB ok q A ε:=by
 cases ok <;> cases q <;> first|exact h rfl|exact f rfl
def CB(b:Bool)(A B:Prop):Prop:=
 match b with
 |true=>A
 |false=>B
def Qe(h:ok=true->A)(e:ok=false->ε):CB ok A ε:=by cases ok <;> first|exact h rfl|exact e rfl
def H7(S:Sys P T)(ro:Option Nat)(st:St)(z:Zh T->Zh T)(K:Zh T):Zh T:=λ f ds U=>
  match st.g with
  |some (j,e)=>(match f j with
   |.bool b=>GB b e (OX S st.o (JC f j (.bool e)) (λ v U'=>z K (QW (JC f j (.bool e)) st.dst v) ds U') U)
     (z K (QW (JC f j (.bool !e)) st.dst undef) ds U)
   |.tuple _=>z K (QW f st.dst undef) ds U
   |_=>False)
  |none=>(match st.dfr with
   |some (c,args)=>(match Zc f c with
    |.func fn first w=>ro=none/\z K (QW f st.dst undef) ({ target:=.fn fn w,args:=first++args.map (Zc f) }::ds) U
    |_=>False)
   |none=>OX S st.o f (λ v U'=>z K (QW f st.dst v) ds U') U)
def ZV(S:Sys P T)(ro:Option Nat)(l:List St):Zh T->Zh T:=List.rec (motive:=λ _=>Zh T->Zh T) (λ K=>K) (λ st _ e=>H7 S ro st e) l
def Gh(S:Sys P T)(ro:Option Nat)(st:St)(r:List St)(K:Zh T):ZV S ro (st::r) K=H7 S ro st (ZV S ro r) K:=rfl
def PW(S:Sys P T)(G:Qa T->Prop)(H:Nat)(st:St)(E:(Qa T->Prop)->Zh T->Zh T)(C:Qa T->Prop)(K:Zh T):Zh T:=λ f ds U=>
  let run (f:Fm):Prop:=match H with
   |0=>OX S st.o f (λ v _=>E C K (QW f st.dst v) ds U) U
   |1=>∃v,(∀U',U.le U'->C U'->OX S st.o f (λ B z=>B=v/\∃e,Q1 z e/\U'.le e) U')/\E C K (QW f st.dst v) ds U
   |3=>∃v,(∀U',U.le U'->C U'->OX S st.o f (λ B z=>B=v/\∃e,Q1 z e/\U'.le e) U')/\(∀U',G U'->OX S st.o f (λ B z=>B=v/\∃e,Q1 z e/\U'.le e) U')/\E C K (QW f st.dst v) ds U
   |_=>∃F:Value->Qa T->Prop,(∀v,XM (F v))/\(∀U',U.le U'->C U'->OX S st.o f (λ B z=>∃e,Q1 z e/\F B e/\U'.le e) U') /\
     ∀v,(∃U',U.le U'/\C U'/\F v U')->E (λ U'=>C U'/\F v U') K (QW f st.dst v) ds U
  match st.g with
  |some (j,w)=>(match f j with
   |.bool b=>GB b w (run (JC f j (.bool w))) (E C K (QW (JC f j (.bool !w)) st.dst undef) ds U)
   |.tuple _=>E C K (QW f st.dst undef) ds U
   |_=>False)
  |none=>run f
def DX(S:Sys P T)(G:Qa T->Prop)(l:List (Nat×St)):(Qa T->Prop)->Zh T->Zh T:=
 List.rec (motive:=λ _=>(Qa T->Prop)->Zh T->Zh T) (λ C K f ds U=>∀U',U.le U'->C U'->K f ds U') (λ p _ e=>PW S G p.1 p.2 e) l
def Ew(S:Sys P T)(G:Qa T->Prop)(e:Nat)(st:St)(r:List (Nat×St)):DX S G ((e,st)::r)=PW S G e st (DX S G r):=rfl
def EF(S:Sys P T)(G:Qa T->Prop)(st:St)(K:Zh T):Zh T:=λ f ds U=>
 OX S st.o f (λ z w=>z=undef/\∃e,Q1 w e/\G e) U/\∀U',G U'->K (QW f st.dst undef) ds U'
def ovr:List (Nat×Value)->Fm->Fm
 |[],f=>f
 |p::l,f=>JC (ovr l f) p.1 p.2
def XH(f:Fm)(l:List (Nat×Value)):Prop:=List.rec (motive:=λ _=>Prop) True (λ p _ e=>f p.1=p.2/\e) l
def Pu(h:f b=v):JC f b v=f:=by
 funext t;grind[JC,Nat.beq,Nat.eq_of_beq_eq_true]
def XH.ovr{f:Fm}:∀{l:List (Nat×Value)},XH f l->ovr l f=f
 |[],_=>rfl
 |(d,v)::l,h=>by
  show JC (TM.ovr l f) d v=f;rw[XH.ovr h.2];exact Pu h.1
structure FR(N:Nat)(a:Act)(f:Fm)(ds:List Deferred):Prop where
 ds:a.defers=ds
 size:a.tmps.size=N
 get:∀t,a.tmps.getD t undef=f t
def FR.eval{N:Nat}{a:Act}{f:Fm}{ds:List Deferred}(h:FR N a f ds)(x:Operand):a.eval x=Zc f x:=by
 cases x with
 |tmp t=>exact h.get t
 |_=>rfl
def FR.put{N:Nat}{a:Act}{f:Fm}{ds:List Deferred}(h:FR N a f ds)(dst:Option Nat)(v:Value)(B:∀d,dst=some d->d<N):FR N (a.put dst v) (QW f dst v) ds:=by
 cases dst with
 |none=>exact h
 |some d=>
  have w:=B d rfl;refine⟨h.ds,by simpa[Act.put]using h.size,λ t=>?_⟩;simp only[Act.put,QW,JC,Array.getD_eq_getD_getElem?,Array.getElem?_setIfInBounds];by_cases e:d=t
  .subst e;have:d<a.tmps.size:=by rw[h.size];exact w
   simp[this]
  .have e':Nat.beq t d=false:=by cases z:Nat.beq t d with|false=>rfl|true=>exact absurd (Nat.eq_of_beq_eq_true z).symm e
   have:=h.get t;simp_all
def FR.slot(h:FR N X f ds)(w:f n=.bool ok):X.tmps[n]?=some (.bool ok):=by
 have:=h.get n;rw[w,Array.getD_eq_getD_getElem?]at this;cases e:X.tmps[n]? with
 |none=>rw[e]at this;cases this
 |some v=>simp_all
inductive C where
 |skip
 |seq (x y:C)
 |ite (c:Operand) (x y:C)
 |block (id:Nat) (b:C)
 |loop (b:C)
 |exit (id:Nat)
 |ret
 |scope (b:C)
 |reg (l:List St)
 |drw (qs:List (Nat×St)) (ts:List St)
 |drs (qs:List (Nat×St)) (st:St) (ts:List St)
 |rng (N:Nat) (mu dets:List Nat) (f:Operand) (params:Array Tmp) (assign body:C)
 |cd (N:Nat) (c:Code)
 |bad
variable{cc as bd:C}
def Z7(P:Program)(mu:List Nat)(ops:Array Oper)(o:Oper):Option St:=
 match o.op,o.guard with
 |.defer { callee:=.value c,args,.. },none=>some ⟨.mv c,o.dst,none,some (c,args)⟩
 |.defer _,_=>none
 |_,none=>some ⟨Zb P mu o,o.dst,none,none⟩
 |_,some (j,w)=>(match(ops[j]?).bind (·.dst)with
  |some d=>some ⟨Zb P mu o,o.dst,some (d,w),none⟩
  |none=>none)
def stable:O->Bool
 |.mv _|.pick ..|.add ..|.sub ..|.mul ..|.cmp ..|.beq ..|.ar ..|.teq ..|.not _|.len _|.lenT _|.conv ..|.off ..|.idx ..|.aidx ..|.sidx ..|.ld _|.ldn ..|.ext ..|.part ..|.part1 ..|.mkf ..|.nilc _|.sub3 ..|.build ..=>true
 |_=>false
def GF:O->Bool
 |.ld _|.ldn ..=>true
 |_=>false
def qC:O->Bool
 |.st ..=>true
 |_=>false
def GP(N:Nat)(o:Oper):Bool:=match o.dst with|some d=>decide (d<N)|none=>true
def PG(ops:Array Oper)(e:Nat->Bool):Nat->List Nat->List Nat->List Nat
 |0,_,done=>done
 |n+1,left,done=>
  let ready:=left.filter λ i=>(W1 ops i).all done.contains
  match ready.find? (λ i=>!e i)with
  |some i=>PG ops e n (left.filter (· != i)) (done++[i])
  |none=>(match ready with
   |i::_=>PG ops e n (left.filter (· != i)) (done++[i])
   |[]=>done)
def Xj(ops:Array Oper):Nat->Nat
 |0=>0
 |k+1=>if(range k).all (λ j=>((Xd ops ops.size).getD k 0).testBit j)then Xj ops k else k+1
def Xn(P:Program)(mu dets:List Nat)(ops:Array Oper)(i:Nat):Bool:=
 match ops[i]? with
 |some o=>!stable (Zb P mu o)&&!((o.dst.map dets.contains).getD false)
 |none=>false
def Kc(P:Program)(mu:List Nat)(ops:Array Oper)(rl:List Nat)(i:Nat):Nat:=
 if rl.contains i then 2 else match ops[i]? with
  |some o=>if stable (Zb P mu o)then 0 else 1
  |none=>1
def V3(ops:Array Oper)(x j:Nat):Bool:=!((Xd ops ops.size).getD x 0).testBit j
def PQ(P:Program)(mu:List Nat)(ops:Array Oper)(rl:List Nat)(x i:Nat):Nat:=
 if rl.contains i then 2 else match ops[i]? with
  |some o=>if stable (Zb P mu o)&&(!GF (Zb P mu o)|| !V3 ops x i)then 0 else if V3 ops x i then 3 else 1
  |none=>3
def KI(P:Program)(mu:List Nat)(N:Nat)(dets:List Nat)(ops:Array Oper)(e:Bool):C:=
 if !ops.all (GP N)then .bad else
 match e with
 |false=>(match(range ops.size).mapM (λ i=>(ops[i]?).bind (Z7 P mu ops))with|some l=>.reg l|none=>.bad)
 |true=>
  let k:=Xj ops ops.size
  let qs:=PG ops (Xn P mu dets ops) ops.size (range k) []
  let ts:=(range ops.size).drop k
  let rl:=(range k).filter (Xn P mu dets ops)
  if !PE ops rl qs ts|| !rl.all (λ i=>((ops[i]?).map (·.guard.isNone)).getD true)then .bad else
  match qs.getLast?.bind λ x=>((ops[x]?).bind (Z7 P mu ops)).bind λ st=>if rl.contains x&&qC st.o&&st.g.isNone&&st.dfr.isNone then some (x,st)else none with
  |some (x,st)=>(match qs.dropLast.mapM (λ i=>((ops[i]?).bind (Z7 P mu ops)).map λ st=>(PQ P mu ops rl x i,st)),ts.mapM (λ i=>(ops[i]?).bind (Z7 P mu ops))with
   |some a,some b=>if a.all (λ x=>x.2.dfr.isNone)then .drs a st b else .bad
   |_,_=>.bad)
  |none=>
  match qs.mapM (λ i=>((ops[i]?).bind (Z7 P mu ops)).map λ st=>(Kc P mu ops rl i,st)),ts.mapM (λ i=>(ops[i]?).bind (Z7 P mu ops))with
  |some a,some b=>if a.all (λ x=>x.2.dfr.isNone)then .drw a b else .bad
  |_,_=>.bad
def qL:Op->Bool
 |.go _=>true
 |_=>false
def qB:Op->Bool
 |.mapEntry ..=>true
 |_=>false
def ED(ops:Array Oper):Bool:=ops.any λ o=>qL o.op|| qB o.op
def clean(P:Program)(mu:List Nat)(N:Nat)(dets:List Nat):Code->C
 |.skip=>.skip
 |.label _=>.skip
 |.seq a b=>.seq (clean P mu N dets a) (clean P mu N dets b)
 |.cond c a b=>.ite c (clean P mu N dets a) (clean P mu N dets b)
 |.block id b=>.block id (clean P mu N dets b)
 |.loop b=>.loop (clean P mu N dets b)
 |.exit i=>.exit i
 |.ret=>.ret
 |.scope b=>.scope (clean P mu N dets b)
 |.region id ops d=>if ED ops|| mu.contains (1000+id)then .cd N (.region id ops d)else match KI P mu N dets ops d with
  |.bad=>.cd N (.region id ops d)
  |c=>c
 |.rangeFunc f ps as e=>.rng N mu dets f ps (clean P mu N dets as) (clean P mu N dets e)
 |.goto _=>.bad
 |.refuse _=>.bad
def qD(b:Zh T->(Nat->Zh T)->Zh T->Zh T)(x:Nat->Zh T)(r:Zh T):Zh T:=λ f ds U=>
 ∃(α:Type)(L:α->List (Nat×Value))(I:α->Qa T->Prop)(μ:α->Nat)(e:α),XH f (L e)/\I e U /\
   ∀y f U,I y U->b (λ f' w U'=>w=ds/\∃z,XH f' (L z)/\I z U'/\μ z<μ y) x r (ovr (L y) f) ds U
def OB(c:Operand)(a b:Zh T):Zh T:=λ f ds U=>(match Zc f c with
  |.bool t=>CB t (a f ds U) (b f ds U)
  |_=>False)
def W5(S:Sys P T)(fn:FuncId)(ro:Option Nat)(N:Nat)(mu dets:List Nat)(c:Operand)(params:Array Tmp)(as w:C)(n:Zh T)(x:Nat->Zh T)(r:Zh T):Zh T:=λ f ds U=>
 ∀ca cb:Code,clean P mu N dets ca=as->clean P mu N dets cb=w->∀a:Act,FR N a f ds ->
   Zt S fn ro (.rangeFunc c params ca cb) (λ e a' U'=>a'.tmps=a.tmps/\(match e with|.normal=>n f a'.defers U'|.exit i=>x i f a'.defers U'|.ret=>r f a'.defers U')) a U
def OD(S:Sys P T)(fn:FuncId)(ro:Option Nat)(N:Nat)(c:Code)(n:Zh T)(x:Nat->Zh T)(r:Zh T):Zh T:=λ f ds U=>
 ∀a:Act,FR N a f ds ->
   Zt S fn ro c (λ e a' U'=>a'.tmps.size=a.tmps.size/\∃f',(∀t,a'.tmps.getD t undef=f' t)/\(match e with|.normal=>n f' a'.defers U'|.exit i=>x i f' a'.defers U'|.ret=>r f' a'.defers U')) a U
def JM(S:Sys P T)(fn:FuncId)(ro:Option Nat)(c:C):Zh T->(Nat->Zh T)->Zh T->Zh T:=
 C.rec (motive:=λ _=>Zh T->(Nat->Zh T)->Zh T->Zh T)
  (λ n _ _=>n)
  (λ _ _ a b n x r=>a (b n x r) x r)
  (λ c _ _ a b n x r=>OB c (a n x r) (b n x r))
  (λ id _ b n x r=>b n (λ i f ds U=>bif Nat.beq i id then n f ds U else x i f ds U) r)
  (λ _ b _ x r=>qD b x r)
  (λ i _ x _=>x i)
  (λ _ _ r=>r)
  (λ _ b n x r=>b n x r)
  (λ l n _ _=>ZV S ro l n)
  (λ qs ts n _ _=>DX S (λ _=>False) qs (λ _=>True) (ZV S ro ts n))
  (λ qs st ts n _ _ f ds U=>∃G,XM G/\DX S G qs (λ _=>True) (EF S G st (ZV S ro ts n)) f ds U)
  (λ N mu dets c params as e _ _ n x r=>W5 S fn ro N mu dets c params as e n x r)
  (λ N c n x r=>OD S fn ro N c n x r)
  (λ _ _ _ _ _ _=>False) c
def Qa.sees.le{U U':Qa T}{a:Addr}{v:Value}(h:U.sees a v)(e:U.le U'):U'.sees a v:=by
 obtain⟨f,⟨c,t,fr,w,z⟩|⟨t,n,B⟩⟩:=h
 .exact⟨f,.inl ⟨c,t,fr,w.imp (e.imm _ _) (λ h=>e.own▸h),z⟩⟩
 .exact⟨f,.inr ⟨t,n,e.own▸B⟩⟩
def Ju.le{U U':Qa T}{a:Addr}{vs:List Value}(h:Ju U a vs)(e:U.le U'):Ju U' a vs:=λ i v f=>(h i v f).le e
def ZM.mono{K w:Value->Qa T->Prop}(f:∀v U,K v U->w v U){n:Next}{U:Qa T}(e:ZM S K n U):ZM S w n U:=by
 cases n <;> first|exact f _ _ e|exact Qb.mono e f|exact WF.mono e f|exact e
def OX.mono{o:O}{f:Fm}{K F:Value->Qa T->Prop}{U:Qa T}(e:∀v U,K v U->F v U)(h:OX S o f K U):OX S o f F U:=by
 cases o with
 |raw o=>exact λ a L=>Qw.mono _ (h a L) λ n U E=>ZM.mono (λ v U⟨w,H,I⟩=>⟨w,H,e _ _ I⟩) E
 |call c args=>
  simp only[OX]at h ⊢;split at h
  .simp only[Wa]at h ⊢;exact⟨h.1,h.2.mono λ v U h N=>e v U (h N)⟩
  .simp only[Wa]at h ⊢;exact Qw.mono _ h λ n U E=>ZM.mono e E
  .exact h
 |st n x v=>
  simp only[OX]at h ⊢;split at h
  .exact⟨h.1,ZG.mono (λ U⟨w,a,b⟩=>⟨w,a,e _ w b⟩) _ _ _ h.2⟩
  .exact h
 |box t x=>simp only[OX,Yg]at h ⊢;simp_all
 |boxM t x=>exact λ b B=>e _ _ (h b B)
 |alloc t z=>exact λ b B=>let ⟨w,a,b⟩:=h b B;⟨w,a,e _ _ b⟩
 |bsl t len z ps=>
  simp only[OX,HL,Array.toArray_toList]at h ⊢;grind
 |lenM x=>
  grind[OX]
 |mv x=>simp only[OX,Q4]at h ⊢;exact e _ _ h
 |mkf fn first G=>simp only[OX,Wa]at h ⊢;exact e _ _ h
 |pick c a b=>
  simp only[OX,Q4]at h ⊢;grind
 |ext x i=>
  simp only[OX,Q4]at h ⊢;grind
 |part1 off x=>
  simp only[OX,Q4]at h ⊢;grind
 |ld x=>
  simp only[OX,Q4]at h ⊢;grind
 |ldn n x=>
  grind[OX]
 |sidx x i=>
  grind[OX]
 |idx n x i=>
  grind[OX]
 |aidx n m x i=>
  grind[OX]
 |sub3 sz x lo P=>
  simp only[OX]at h ⊢;split at h
  .split at h
   .obtain⟨l,hh,a,b⟩:=h;grind
   .exact h
  .exact h
 |build z ps=>
  simp only[OX,HL,Array.toArray_toList]at h ⊢;grind
 |cmp op x y=>
  simp only[OX]at h ⊢;split at h
  .refine⟨h.1,?_⟩;cases op <;> simp_all
  .exact h
 |beq op x y=>
  simp only[OX]at h ⊢;split at h
  .grind
  .exact h
 |teq op x y=>
  simp only[OX]at h ⊢;split at h
  .grind
  .exact h
 |ar op x y=>
  simp only[OX]at h ⊢;split at h
  .cases op <;> grind
  .exact h
 |_=>
  grind[OX]
def OX.stable{o:O}{f:Fm}{K:Value->Qa T->Prop}{U:Qa T}(E:stable o=true)(h:OX S o f K U):∃v,K v U/\∀(U':Qa T)(w:Value->Qa T->Prop),(GF o=false\/U.le U')->w v U'->OX S o f w U':=by
 cases o with
 |raw o=>cases E
 |call c args=>cases E
 |st n x v=>cases E
 |box t x=>cases E
 |boxM t x=>cases E
 |alloc t z=>cases E
 |bsl t len z ps=>cases E
 |lenM x=>cases E
 |mv x=>simp only[OX,Q4]at h;exact⟨_,h,λ _ _ _ k=>by simpa only[OX,Q4]using k⟩
 |mkf fn first F=>simp only[OX,Wa]at h;exact⟨_,h,λ _ _ _ k=>by simpa only[OX,Wa]using k⟩
 |pick c a b=>
  simp only[OX,Q4]at h;split at h <;> rename_i e
  .exact⟨_,h,λ _ _ _ k=>by simpa[OX,Q4,e]using k⟩
  .exact⟨_,h,λ _ _ _ k=>by simpa[OX,Q4,e]using k⟩
  .exact h.elim
 |ext x i=>
  simp only[OX,Q4]at h;split at h <;> rename_i e
  .split at h <;> rename_i e'
   .exact⟨_,h,λ _ _ _ k=>by simpa[OX,Q4,e,e']using k⟩
   .exact h.elim
  .exact h.elim
 |part1 off x=>
  simp only[OX,Q4]at h;split at h <;> rename_i e
  .split at h <;> rename_i e'
   .exact⟨_,h,λ _ _ _ k=>by simpa[OX,Q4,e,e']using k⟩
   .exact h.elim
  .exact h.elim
 |ld x=>
  simp only[OX,Q4]at h;split at h <;> rename_i e
  .obtain⟨v,a,b⟩:=h;exact⟨v,b,λ U' w B k=>by simp only[OX,Q4,e];exact⟨v,a.le (B.resolve_left (by simp[GF])),k⟩⟩
  .exact h.elim
 |ldn n x=>
  simp only[OX]at h;split at h <;> rename_i e
  .obtain⟨v,a,b⟩:=h;exact⟨_,b,λ U' w B k=>by simp only[OX,Q4,e];exact⟨v,⟨a.1,a.2.le (B.resolve_left (by simp[GF]))⟩,k⟩⟩
  .exact h.elim
 |sidx x i=>
  grind[OX]
 |sub3 sz x lo I=>
  simp only[OX]at h;grind[OX]
 |build z ps=>
  simp only[OX,HL,Array.toArray_toList]at h;split at h <;> rename_i e
  .exact⟨_,h,λ U' w B k=>by simp only[OX,Q4,HL,Array.toArray_toList,e];exact k⟩
  .exact h.elim
 |cmp op x y=>
  grind[OX]
 |beq op x y=>
  grind[OX]
 |teq op x y=>
  grind[OX]
 |ar op x y=>
  simp only[OX]at h;split at h
  .rename_i e e'
   cases op <;> grind[OX]
  .exact h.elim
 |add x y=>grind[OX]
 |sub x y=>grind[OX]
 |mul x y=>grind[OX]
 |idx n x y=>grind[OX]
 |aidx n m x y=>grind[OX]
 |_=>
  grind[OX]
def Ee:∀v U U',Q1 U U'->J7 S fn ro ops todo p (ω v) U'->J7 S fn ro ops todo p (ω v) U:=λ _ _ _ e h=>Gs e h
inductive VV(P:Program)(mu:List Nat)(ops:Array Oper)(o:Oper):St->Prop
 |plain:(∀c,o.op≠.defer c)->o.guard=none->VV P mu ops o ⟨Zb P mu o,o.dst,none,none⟩
 |guarded {j:Nat} {w:Bool} {d:Nat}:(∀c,o.op≠.defer c)->o.guard=some (j,w)->(ops[j]?).bind (·.dst)=some d->VV P mu ops o ⟨Zb P mu o,o.dst,some (d,w),none⟩
 |dfr {c:Operand} {args:Array Operand} {ats:Array TypeId}:o.op=.defer { callee:=.value c,args:=args,argTypes:=ats }->o.guard=none->VV P mu ops o ⟨.mv c,o.dst,none,some (c,args)⟩
def W0(h:Z7 P mu ops ζ=some st):VV P mu ops ζ st:=by
 unfold Z7 at h;split at h
 .rename_i ho hg;cases h;exact .dfr ho hg
 .cases h
 .rename_i hg hnd0 hnd;cases h;exact .plain (λ c e=>hnd c e) hg
 .rename_i j w hg hnd;split at h
  .rename_i hd;cases h;exact .guarded (λ c e=>hnd c e) hg hd
  .cases h
def Jr(e:ζ.guard=none):Region.wanted ζ (yielded ops X.tmps)=true:=by simp[Region.wanted,e]
def P7{o:Oper}(f:o.guard=some (j,ok))(e:(ops[j]?).bind (·.dst)=some N)(z:X.tmps[N]?=some (.bool q)) :
  Region.wanted o (yielded ops X.tmps)=(q==ok):=by
 grind[Region.wanted,yielded]
def Vm(z:FR N X f ds)(B:ζ.guard=some (j,ok))(e:(ops[j]?).bind (·.dst)=some b)(E:f b=.tuple c) :
  Region.wanted ζ (yielded ops X.tmps)=false:=by
 have:=z.get b;rw[E,Array.getD_eq_getD_getElem?]at this
 grind[yielded,Region.wanted]
def Pw{n:Zh T}(hQ:∀a f ds U,FR N a f ds->n f ds U->p .normal a U)(hN:∀(i:Nat)(o:Oper),ops[i]?=some o->∀d,o.dst=some d->d<N) :
  ∀(idxs:List Nat)(l:List St),idxs.mapM (λ i=>(ops[i]?).bind (Z7 P mu ops))=some l ->
   ∀(a:Act)(f:Fm)(ds:List Deferred)(U:Qa T),FR N a f ds->ZV S ro l n f ds U->J7 S fn ro ops idxs p a U:=by
 intro idxs
 induction idxs with
 |nil=>
  intro l L a f ds U z h;simp at L;subst L;exact Og (hQ a f ds U z h)
 |cons i idxs V=>
  intro l L a f ds U z h;simp only[mapM_cons,Option.pure_def,Option.bind_eq_bind,Option.bind_eq_some_iff]at L;obtain⟨st,⟨o,G,Y⟩,l',E,e⟩:=L;cases e;have I:=hN i o G
  have step:∀{f:Fm},FR N a f ds->(∀c,o.op≠.defer c)->Region.wanted o (yielded ops a.tmps)=true->OX S (Zb P mu o) f (λ v U'=>ZV S ro l' n (QW f o.dst v) ds U') U->J7 S fn ro ops (i::idxs) p a U:=by
   intro f z B H h;refine Xl G H (.inr B) (QL.opV (Wx (λ x=>z.eval x) Ee (OX.mono (λ v U' hv=>?_) h)));exact V l' E _ _ _ _ (z.put o.dst v I) hv
  cases W0 Y with
  |plain B F=>simp only[Gh,H7]at h;exact step z B (Jr F) h
  |@guarded j w d B F K=>
   simp only[Gh,H7]at h;split at h
   .rename_i b hb;have H:=P7 (ops:=ops) (o:=o) F K (z.slot hb);have e:JC f d (.bool b)=f:=Pu hb;cases b <;> cases w <;> simp only[GB,Bool.not_true,Bool.not_false]at h <;> rw[e]at h
    .exact step z B (by rw[H];rfl) h
    .exact We G (by rw[H];rfl) (V l' E _ _ _ _ (z.put o.dst undef I) h)
    .exact We G (by rw[H];rfl) (V l' E _ _ _ _ (z.put o.dst undef I) h)
    grind
   .rename_i vs hb;exact We G (Vm z F K hb) (V l' E _ _ _ _ (z.put o.dst undef I) h)
   .exact h.elim
  |@dfr c args Z X F=>
   simp only[Gh,H7]at h;split at h
   .rename_i g first capt e
    obtain⟨M,h⟩:=h;have W:a.eval=Zc f:=funext z.eval;refine Xl G (Jr F) (.inl M) ?_;unfold HC;simp only[execOp,X,Qc,resolve,W,e,Deferred.ofValue,Qi,PL];refine⟨M,V l' E _ _ _ _ ?_ h⟩;have h1:FR N { a with defers:={ target:=.fn g capt,args:=first++args.map (Zc f) }::a.defers } f ({ target:=.fn g capt,args:=first++args.map (Zc f) }::ds):=⟨by rw[z.ds],z.size,z.get⟩;exact h1.put o.dst undef I
   .exact h.elim
def Jv:∀(B:Value)(w z:Qa T),Q1 w z->(B=v/\∃f,Q1 z f/\U'.le f)->(B=v/\∃f,Q1 w f/\U'.le f):=
 λ _ _ _ G⟨e,f,E,F⟩=>⟨e,f,G.trans E,F⟩
def OY{Fin:Act->Qa T->Prop}{K:Zh T}{rl:List Nat}{G:Qa T->Prop}(af:∀a f ds E,FR N a f ds->(∀U',U.le U'->E U'->K f ds U')->ZZ S ops rl B late G U Fin tail E a)(hN:∀(i:Nat)(o:Oper),ops[i]?=some o->∀d,o.dst=some d->d<N)
  (aa:∀i,kind i=0\/kind i=1\/kind i=3->i∉rl) (ai:∀i,kind i≠0->kind i≠1->kind i≠3->i∈rl) (ae:∀i,kind i=0->∀o,ops[i]?=some o->stable (Zb P mu o)=true/\(late i=true->GF (Zb P mu o)=false)) (ah:∀i,kind i=1->late i=false) :
  ∀(idxs:List Nat)(l:List (Nat×St)),idxs.mapM (λ i=>((ops[i]?).bind (Z7 P mu ops)).map λ st=>(kind i,st))=some l->(l.all λ x=>x.2.dfr.isNone)=true->(∀i∈idxs,∀o,ops[i]?=some o->o.guard=none\/i∉rl) ->
   ∀(a:Act)(f:Fm)(ds:List Deferred)(E:Qa T->Prop),FR N a f ds->DX S G l E K f ds U->ZZ S ops rl B late G U Fin (idxs++tail) E a:=by
 intro idxs
 induction idxs with
 |nil=>
  intro l hl _ _ a f ds E z h;simp at hl;subst hl;exact af a f ds E z h
 |cons i idxs ih=>
  intro l hl M ad a f ds E z h;simp only[mapM_cons,Option.pure_def,Option.bind_eq_bind,Option.bind_eq_some_iff,Option.map_eq_some_iff]at hl;obtain⟨x,⟨st,⟨o,Q,X⟩,rfl⟩,l',aj,e⟩:=hl;cases e;simp only[all_cons,Bool.and_eq_true]at M;have hd:=hN i o Q;have I:=ih l' aj M.2 (λ j hj=>ad j (mem_cons_of_mem _ hj))
  have run:∀{f:Fm},FR N a f ds->Region.wanted o (yielded ops a.tmps)=true ->
    (match kind i with
     |0=>OX S (Zb P mu o) f (λ v _=>DX S G l' E K (QW f o.dst v) ds U) U
     |1=>∃v,(∀U',U.le U'->E U'->OX S (Zb P mu o) f (λ v' Z=>v'=v/\∃L,Q1 Z L/\U'.le L) U')/\DX S G l' E K (QW f o.dst v) ds U
     |3=>∃v,(∀U',U.le U'->E U'->OX S (Zb P mu o) f (λ v' Z=>v'=v/\∃L,Q1 Z L/\U'.le L) U')/\(∀U',G U'->OX S (Zb P mu o) f (λ v' Z=>v'=v/\∃L,Q1 Z L/\U'.le L) U')/\DX S G l' E K (QW f o.dst v) ds U
     |_=>∃F:Value->Qa T->Prop,(∀v,XM (F v))/\(∀U',U.le U'->E U'->OX S (Zb P mu o) f (λ v' Z=>∃L,Q1 Z L/\F v' L/\U'.le L) U') /\
       ∀v,(∃U',U.le U'/\E U'/\F v U')->DX S G l' (λ U'=>E U'/\F v U') K (QW f o.dst v) ds U)->ZZ S ops rl B late G U Fin (i::(idxs++tail)) E a:=by
   intro f z Y h;split at h
   .rename_i hk;obtain⟨v,hn,X⟩:=OX.stable (ae i hk o Q).1 h;refine .det v (aa i (.inl hk)) Q Y (λ U' H _=>?_) (λ W U' _=>?_) (I _ _ _ _ (z.put o.dst v hd) hn)
    .exact Wx (λ x=>z.eval x) Jv (X U' _ (.inr H) ⟨rfl,U',.refl _,.refl _⟩)
    .exact Wx (λ x=>z.eval x) Jv (X U' _ (.inl ((ae i hk o Q).2 W)) ⟨rfl,U',.refl _,.refl _⟩)
   .rename_i hk;obtain⟨v,V,hn⟩:=h;refine .det v (aa i (.inr (.inl hk))) Q Y (λ U' H hc=>?_) (λ W=>by simp_all) (I _ _ _ _ (z.put o.dst v hd) hn);exact Wx (λ x=>z.eval x) Jv (V U' H hc)
   .rename_i hk;obtain⟨v,V,ag,hn⟩:=h;refine .det v (aa i (.inr (.inr hk))) Q Y (λ U' H hc=>?_) (λ _ U' hg=>?_) (I _ _ _ _ (z.put o.dst v hd) hn)
    .exact Wx (λ x=>z.eval x) Jv (V U' H hc)
    .exact Wx (λ x=>z.eval x) Jv (ag U' hg)
   .rename_i h0 h1 h3;obtain⟨F,hF,V,hn⟩:=h;refine .rel F (ai i (λ e=>h0 e) (λ e=>h1 e) (λ e=>h3 e)) hF Q Y (λ U' H hc=>?_) (λ v hv=>I _ _ _ _ (z.put o.dst v hd) (hn v hv));exact Wx (λ x=>z.eval x) (λ v' Z U3 hs⟨L,a,b,c⟩=>⟨L,hs.trans a,b,c⟩) (V U' H hc)
  cases W0 X with
  |plain ak hg=>simp only[Ew,PW]at h;exact run z (Jr hg) h
  |@guarded j w d ak hg ac=>
   simp only[Ew,PW]at h;have ab:i∉rl:=(ad i (mem_cons_self ..) o Q).resolve_left (by rw[hg];simp);split at h
   .rename_i b hb;have Y:=P7 (ops:=ops) (o:=o) hg ac (z.slot hb);have e:JC f d (.bool b)=f:=Pu hb;cases b <;> cases w <;> simp only[GB,Bool.not_true,Bool.not_false]at h <;> rw[e]at h
    .exact run z (by rw[Y];rfl) h
    .exact .un ab Q (by rw[Y];rfl) (I _ _ _ _ (z.put o.dst undef hd) h)
    .exact .un ab Q (by rw[Y];rfl) (I _ _ _ _ (z.put o.dst undef hd) h)
    grind
   .rename_i vs hb;exact .un ab Q (Vm z hg ac hb) (I _ _ _ _ (z.put o.dst undef hd) h)
   .exact h.elim
  |dfr=>simp at M
def GH(N:Nat)(n:Zh T)(x:Nat->Zh T)(r:Zh T)(e:Ex)(a:Act)(U:Qa T):Prop:=
 ∃f ds,FR N a f ds/\(match e with|.normal=>n f ds U|.exit i=>x i f ds U|.ret=>r f ds U)
def ZZ.fin{Fin:Act->Qa T->Prop}(H:∀X U,Fin X U->L X U)(h:ZZ S ops mu B late V U Fin dets E X):ZZ S ops mu B late V U L dets E X:=by
 induction h with
 |nil h=>exact .nil λ U' X b=>H _ _ (h U' X b)
 |un X b c _ z=>exact .un X b c z
 |det v X b c d e _ z=>exact .det v X b c d e z
 |rel F X b c d e _ z=>exact .rel F X b c d e z
 |last X b c d e f g=>exact .last X b c d e f λ I U' h=>H _ _ (g I U' h)
def LF{G:Type}{c:Code}(I:G->Act->Qa T->Prop)(μ:G->Nat){g:G}(E:I g X U)
  (round:∀g X U,I g X U->Zt S fn ro c (λ e a' U'=>match e with|.normal=>∃g',I g' a' U'/\μ g'<μ g|e=>p e a' U') X U):Zt S fn ro (.loop c) p X U:=by
 intro Stop m b k cs F w;refine .still rfl (λ _=>Nl) ?_
 have key:∀N g X U,μ g<=N->I g X U->J S Stop m (R b X (.code c::.inLoop c::k) cs) U:=by
  intro N
  induction N with
  |zero=>
   intro g X U H z;refine round g X U z Stop m b (.inLoop c::k) cs F λ e a' U' q=>?_;cases e with
   |normal=>simp_all
   |exit id=>exact(w _ _ _ q).push (λ _ _=>rfl) S1
   |ret=>exact(w _ _ _ q).push (x:=.inLoop c) (λ _ _=>rfl) S1
  |succ N K=>
   intro g X U H z;refine round g X U z Stop m b (.inLoop c::k) cs F λ e a' U' q=>?_;cases e with
   |normal=>obtain⟨g',B,f⟩:=q;exact .still rfl (λ _=>Ft) (K g' a' U' O1 B)
   |exit id=>exact(w _ _ _ q).push (λ _ _=>rfl) S1
   |ret=>exact(w _ _ _ q).push (x:=.inLoop c) (λ _ _=>rfl) S1
 exact key _ g X U (Nat.le_refl _) E
def Mi(h:ops.all (GP N)=true):∀(i:Nat)(o:Oper),ops[i]?=some o->∀d,o.dst=some d->d<N:=by
 grind[Array.mem_of_getElem?,GP]
def Ak(hm:P.follows .mixedOrders=true){n:Zh T}{r:Zh T}{a:Act}(F:FR N a f ds)
  (h:JM S fn ro (KI P mu N dets ops ok) n ξ r f ds U):Zt S fn ro (.region ty ops ok) (GH N n ξ r) a U:=by
 unfold KI at h;split at h
 .exact h.elim
 .rename_i hall;have X:=Mi (N:=N) (ops:=ops) (by simpa using hall);have hQ:∀a f ds U,FR N a f ds->n f ds U->GH N n ξ r .normal a U:=λ a f ds U F h=>⟨f,ds,F,h⟩;split at h
  .split at h
   .rename_i l W;exact Yf (Pw hQ X _ l W a f ds U F h)
   .exact h.elim
  .dsimp only at h
   split at h
   .exact h.elim
   .rename_i M;simp only[Bool.or_eq_true,Bool.not_eq_true',not_or,Bool.not_eq_false]at M;obtain⟨M,aa⟩:=M;split at h
    .rename_i ξ st Q;split at h
     .rename_i la lb hla hlb;split at h
      .rename_i hdf;obtain⟨G,hG,h⟩:=h;simp only[Option.bind_eq_some_iff]at Q;obtain⟨x',I,st',⟨o,z,ad⟩,Q⟩:=Q;split at Q
       .rename_i w;cases Q;simp only[Bool.and_eq_true,contains_iff_mem,Option.isNone_iff_eq_none]at w;obtain⟨⟨⟨ae,ag⟩,ac⟩,ab⟩:=w;refine DZ (late:=V3 ops ξ) (G:=G) _ _ _ hm M ?_;refine ZZ.fin (Fin:=λ a U=>∃f ds,FR N a f ds/\ZV S ro lb n f ds U) (λ a U⟨f,ds,F,h⟩=>Pw hQ X _ lb hlb a f ds U F h) ?_
        obtain⟨Z,rfl⟩:o.guard=none/\st=⟨Zb P mu o,o.dst,none,none⟩:=by
         cases W0 ad with
         |plain _ Z=>exact⟨Z,rfl⟩
         |guarded=>cases ac
         |dfr=>cases ab
        have hq:PG ops (Xn P mu dets ops) ops.size (range (Xj ops ops.size)) []=(PG ops (Xn P mu dets ops) ops.size (range (Xj ops ops.size)) []).dropLast++[ξ]:=by
         rw[getLast?_eq_some_iff]at I;obtain⟨ys,af⟩:=I;rw[af];simp
        rw[hq];refine OY (S:=S) (mu:=mu) (tail:=[ξ]) (K:=EF S G ⟨Zb P mu o,o.dst,none,none⟩ (ZV S ro lb n)) (λ a f ds Cn F h=>.last ae hG (λ j hj=>?_) z (Jr Z) (λ U' L w=>?_) (λ Q U'' Z=>?_)) X ?_ ?_ ?_ ?_ _ la hla hdf ?_ a f ds _ F h
        .refine Wu ops ops.size ξ j ?_;simpa[V3]using hj
        .exact Wx (λ ξ=>F.eval ξ) (λ v' U2 U3 Y⟨e,U1,a,b⟩=>⟨e,U1,Y.trans a,b⟩) (h U' L w).1
        .obtain⟨U',L,w⟩:=Q;exact⟨_,_,F.put o.dst undef (X ξ o z),(h U' L w).2 U'' Z⟩
        .intro i H w;have E:=contains_iff_mem.2 w;simp only[PQ,E,if_true]at H;grind
        .intro i h0 h1 h3;apply Classical.byContradiction;intro w
         have E:(List.filter (Xn P mu dets ops) (range (Xj ops ops.size))).contains i=false:=by
          cases V:(List.filter (Xn P mu dets ops) (range (Xj ops ops.size))).contains i with
          |false=>rfl
          |true=>exact absurd (contains_iff_mem.1 V) w
         simp only[PQ,E,Bool.false_eq_true,if_false]at h0 h1 h3;cases z:ops[i]? with
         |none=>simp[z]at h3
         |some o=>
          simp only[z]at h0 h1 h3;split at h0
          .exact h0 rfl
          .rename_i hh;simp only[hh,Bool.false_eq_true,if_false]at h1 h3;split at h1
           .grind
           .exact h1 rfl
        .intro i h0 o z;simp only[PQ]at h0;split at h0
         .cases h0
         .simp only[z]at h0;split at h0
          .grind
          .split at h0 <;> cases h0
        .intro i h1;simp only[PQ]at h1;split at h1
         .cases h1
         .split at h1
          .split at h1
           .cases h1
           grind
          .cases h1
        .intro i _ o z;by_cases w:i∈List.filter (Xn P mu dets ops) (range (Xj ops ops.size))
         .refine .inl ?_;have:=all_eq_true.1 aa i w;simpa[z]using this
         .exact .inr w
       .cases Q
      .exact h.elim
     .exact h.elim
    .split at h
     .rename_i la lb hla hlb;split at h
      .rename_i hdf;refine DZ (late:=λ _=>false) (G:=λ _=>False) _ _ _ hm M ?_;refine ZZ.fin (Fin:=λ a U=>∃f ds,FR N a f ds/\ZV S ro lb n f ds U) (λ a U⟨f,ds,F,h⟩=>Pw hQ X _ lb hlb a f ds U F h) ?_;have key:=OY (S:=S) (mu:=mu) (rl:=List.filter (Xn P mu dets ops) (range (Xj ops ops.size))) (B:=JE ops) (late:=λ _=>false) (G:=λ _=>False) (tail:=[]) (Fin:=λ a U=>∃f ds,FR N a f ds/\ZV S ro lb n f ds U) (K:=ZV S ro lb n) (U:=U) (λ a f ds Cn F h=>.nil λ U' L w=>⟨f,ds,F,h U' L w⟩) X ?_ ?_ ?_ (λ _ _=>rfl) _ la hla hdf ?_ a f ds (λ _=>True) F h
       .simpa using key
       .intro i H w;simp_all[Kc,if_true]
       .intro i h0 h1 h3;apply Classical.byContradiction;intro w
        have E:(List.filter (Xn P mu dets ops) (range (Xj ops ops.size))).contains i=false:=by
         cases V:(List.filter (Xn P mu dets ops) (range (Xj ops ops.size))).contains i with
         |false=>rfl
         |true=>exact absurd (contains_iff_mem.1 V) w
        simp only[Kc,E,Bool.false_eq_true,if_false]at h0 h1;grind
       .grind[Kc,stable,Zb]
       .intro i _ o z;by_cases w:i∈List.filter (Xn P mu dets ops) (range (Xj ops ops.size))
        .refine .inl ?_;have:=all_eq_true.1 aa i w;simp_all
        .exact .inr w
      .exact h.elim
     .exact h.elim
def Hh(hm:P.follows .mixedOrders=true):∀(code:Code){n:Zh T}{x:Nat->Zh T}{r:Zh T}{f:Fm}{ds:List Deferred}{U:Qa T}{a:Act},FR N a f ds->JM S fn ro (clean P mu N dets code) n x r f ds U ->
  Zt S fn ro code (GH N n x r) a U:=by
 intro code
 induction code with
 |skip=>exact λ z h=>ML ⟨_,_,z,h⟩
 |label l=>exact λ z h=>LD ⟨_,_,z,h⟩
 |region id ops d=>
  intro n x r f ds U a z h;simp only[clean]at h
  have cd:JM S fn ro (.cd N (.region id ops d)) n x r f ds U->Zt S fn ro (.region id ops d) (GH N n x r) a U:=λ h=>by
   refine Zt.mono (h a z) λ e a' U'⟨M,f',B,E⟩=>⟨f',a'.defers,⟨rfl,by rw[M];exact z.size,B⟩,?_⟩;cases e <;> exact E
  split at h
  .exact cd h
  .split at h
   .exact cd h
   .exact Ak hm z h
 |seq Q V H K=>
  intro n x r f ds U a z h;refine CP (Zt.mono (H z h) λ e a' U' E=>?_);obtain⟨f',F,B,E⟩:=E;cases e with
  |normal=>exact K B E
  |exit i=>exact⟨f',F,B,E⟩
  |ret=>exact⟨f',F,B,E⟩
 |cond c Q V H K=>
  intro n x r f ds U a z h
  replace h:OB c (JM S fn ro (clean P mu N dets Q) n x r) (JM S fn ro (clean P mu N dets V) n x r) f ds U:=h
  unfold OB at h;split at h
  .rename_i t M;refine MJ t (by rw[z.eval];exact M) ?_;cases t
   .exact K z h
   .exact H z h
  .exact h.elim
 |block id c W=>
  intro n x r f ds U a z h;refine L9 (Zt.mono (W z h) λ e a' U' E=>?_);obtain⟨f',F,B,E⟩:=E;cases e with
  |normal=>exact⟨f',F,B,E⟩
  |exit i=>
   simp only at E ⊢;by_cases e:i=id
   .subst e;have:Nat.beq i i=true:=S1
    rw[this]at E;rw[if_pos rfl];exact⟨f',F,B,E⟩
   .have:Nat.beq i id=false:=by cases hb:Nat.beq i id with|false=>rfl|true=>exact absurd (Nat.eq_of_beq_eq_true hb) e
    rw[this]at E;rw[if_neg e];exact⟨f',F,B,E⟩
  |ret=>exact⟨f',F,B,E⟩
 |loop c W=>
  intro n x r f ds U a z h;obtain⟨α,L,I,μ,ab,he,X,hr⟩:=h;refine LF (G:=α) (λ y a U=>∃f,FR N a (ovr (L y) f) ds/\I y U) μ (g:=ab) ⟨f,by rw[he.ovr];exact z,X⟩ λ y a U⟨f,z,X⟩=>?_;refine Zt.mono (W z (hr y f U X)) λ e a' U' E=>?_;obtain⟨f',F,B,E⟩:=E;cases e with
  |normal=>
   obtain⟨rfl,y',Z,Y,aa⟩:=E;exact⟨y',⟨f',by rw[Z.ovr];exact B,Y⟩,aa⟩
  |exit i=>exact⟨f',F,B,E⟩
  |ret=>exact⟨f',F,B,E⟩
 |rangeFunc c params assign body _ _=>
  intro n x r f ds U a z h;refine Zt.mono (h _ _ rfl rfl a z) λ e a' U'⟨M,E⟩=>⟨f,a'.defers,⟨rfl,by rw[M];exact z.size,λ t=>by rw[M];exact z.get t⟩,?_⟩;cases e <;> exact E
 |exit id=>exact λ z h=>OU ⟨_,_,z,h⟩
 |scope c W=>exact λ z h=>LG (W z h)
 |goto l=>exact λ _ h=>h.elim
 |ret=>exact λ z h=>Tn ⟨_,_,z,h⟩
 |refuse w=>exact λ _ h=>h.elim
def fm(args:List Value):Fm:=λ t=>args.getD t undef
def Qu(b o n:Nat):(Addr.mk b o none).add n=⟨b,o+n,none⟩:=by
 grind[Addr.add]
def Mw(a:Addr)(h:a.spot=none)(m n:Nat):(a.add m).add n=a.add (m+n):=by
 obtain⟨b,o,s⟩:=a;cases h;rw[Qu,Qu,Qu,Nat.add_assoc]
def Zo.sees{U:Qa T}{b o:Nat}{c:Array Value}{v:Value}(h:Zo U b c)(e:c[o]?=some v):U.sees ⟨b,o,none⟩ v:=by
 obtain⟨t,fr,h⟩:=h;exact⟨rfl,.inl ⟨c,t,fr,.inl h,e⟩⟩
def Zo.le{U U':Qa T}{b:Nat}{c:Array Value}(h:Zo U b c)(e:U.le U'):Zo U' b c:=let ⟨t,fr,h⟩:=h;⟨t,fr,e.imm _ _ h⟩
def Zo.reads(h:Zo U b c)(f:∀i v,vs[i]?=some v->c[N+i]?=some v):Ju U ⟨b,N,none⟩ vs:=by
 intro i v e;rw[Qu];exact h.sees (f i v e)
def Zo.rd(h:Zo U b vs.toArray):Ju U ⟨b,0,none⟩ vs:=h.reads λ k v e=>by simpa using e
def E7(h:U.le U'):Q1 U' U:=by
 refine⟨h.tok.symm,λ w ok=>⟨⟨λ b o e=>ok.imm b o (h.imm b o e),λ r B=>ok.held r (h.own▸B),h.own▸ok.apart,λ r B=>?_⟩,λ l f=>?_,λ l f=>?_⟩⟩
 .have:=ok.sep r (h.own▸B);cases e:U.I r.blk with
  |none=>rfl
  |some o=>rw[h.imm _ _ e]at this;cases this
 .rw[Za]at f ⊢;rw[h.own];exact f
 .rw[Q3]at f ⊢;rw[h.own];refine f.imp id λ f=>?_;cases l with
  |cell a=>obtain⟨c,t,fr,E,z⟩:=f;exact⟨c,t,fr,h.imm _ _ E,z⟩
  |obj b=>obtain⟨o,F⟩:=f;exact⟨o,h.imm _ _ F⟩
  |output=>exact f
  |goroutines=>exact f
  |mark _=>exact f
def Qb.pure(h:Qb S fn args (λ v U'=>η v/\U.le U') U):Qb S fn args (λ v U'=>η v/\U'=U) U:=
 h.post λ _ _⟨q,e⟩=>⟨U,E7 e,q,rfl⟩
def XD(id:Nat):Code->Option Code
 |.region i ops d=>if i=id then some (.region i ops d)else none
 |.seq a b=>(XD id a).or (XD id b)
 |.cond _ a b=>(XD id a).or (XD id b)
 |.block _ b=>XD id b
 |.loop b=>XD id b
 |.scope b=>XD id b
 |.rangeFunc _ _ a b=>(XD id a).or (XD id b)
 |_=>none
def Zl(fd:Func)(id:Nat):Code:=(fd.body.bind (XD id)).getD .skip
def PN(fd:Func)(id:Nat):Array Oper:=match Zl fd id with
 |.region _ ops _=>ops
 |_=>#[]
inductive RV where
 |t (n:Nat)
 |c (a:Nat)
 |cn (a n:Nat)
variable{rl:List RV}
def XP(P:Program):ResultVar->Option RV
 |.tmp t=>some (.t t)
 |.cell a t=>match P.underlying t with
  |some d=>if TypeDesc.agg d then(Jw P t).map (.cn a)else some (.c a)
  |none=>none
def V9(acc:List Value):Value:=match acc with|[v]=>v|l=>.tuple l.reverse.toArray
def V8(acc:List Value)(K:Value->Prop):Prop:=match acc with|[v]=>K v|l=>K (.tuple l.reverse.toArray)
def N4(acc:List Value)(K:Value->Prop):V8 acc K=K (V9 acc):=by
 unfold V8 V9;grind
def PM(f:Fm)(Q:Value->Qa T->Prop)(x:RV)(w:List Value->Qa T->Prop)(acc:List Value)(U:Qa T):Prop:=
 match x with
 |.t t=>WT (f t) λ v=>w (v::acc) U
 |.c a=>match f a with|.pointer (some e)=>∃v,U.sees e v/\WT v λ v=>w (v::acc) U|_=>False
 |.cn a n=>match f a with|.pointer (some e)=>∃vs:List Value,(vs.length=n/\Ju U e vs)/\w (.agg vs.toArray::acc) U|_=>False
def Xv(f:Fm)(Q:Value->Qa T->Prop)(l:List RV):List Value->Qa T->Prop:=
 List.rec (motive:=λ _=>List Value->Qa T->Prop) (λ acc U=>V8 acc λ v=>Q v U) (λ x _ e=>PM f Q x e) l
def Y7(f:Fm)(Q:Value->Qa T->Prop)(x:RV)(r:List RV):Xv f Q (x::r)=PM f Q x (Xv f Q r):=rfl
def Tm(acc:List Value):Value:=if h:acc.reverse.toArray.size=1 then acc.reverse.toArray[0]else .tuple acc.reverse.toArray
def Fq(acc:List Value):V9 acc=Tm acc:=by
 unfold Tm V9
 match acc with
 |[]=>rfl
 |[v]=>rfl
 |a::b::r=>rw[dif_neg S1]
def CF(G:∀t,tmps.getD t undef=f t) :
  ∀(l:List ResultVar)(rl:List RV),l.mapM (XP P)=some rl->∀(acc:List Value)(U:Qa T),Xv f Q rl acc U->Qw P (Xc (λ x=>match x with
   |ResultVar.tmp t=>pure (tmps.getD t undef)
   |ResultVar.cell a t=>do loadVar t (<- asAddr (tmps.getD a undef))) l acc.reverse.toArray) (λ vs U=>Qw P (pure (if h:vs.size=1 then vs[0]else .tuple vs):Sem Value) Q U) U:=by
 intro l
 induction l with
 |nil=>
  intro rl h acc U w;simp at h;subst h
  replace w:V8 acc (λ v=>Q v U):=w
  rw[N4]at w;rw[Fq]at w;exact w
 |cons x l F=>
  intro rl h acc U w;simp only[mapM_cons,Option.pure_def,Option.bind_eq_bind,Option.bind_eq_some_iff]at h;obtain⟨V,z,S,B,e⟩:=h;cases e;have push:∀v:Value,acc.reverse.toArray.push v=(v::acc).reverse.toArray:=λ v=>by apply Array.ext';simp
  cases x with
  |tmp t=>
   simp only[XP,Option.some.injEq]at z;subst z;simp only[Y7,PM,Q4]at w;simp only[Xc];rw[Qc,G,Qi,push];exact F _ B _ _ w
  |cell a t=>
   simp only[Xc];rw[Qc,Qc,G];simp only[XP]at z;split at z
   .rename_i d hd;split at z
    .rename_i hag;simp only[Option.map_eq_some_iff]at z;obtain⟨n,K,rfl⟩:=z;obtain⟨N,H,E⟩:=Ga K;simp only[Y7,PM]at w;split at w
     .rename_i ad e;obtain⟨vs,⟨I,L⟩,w⟩:=w;rw[e];simp only[asAddr,Qi,loadVar,Qc,Hq hd,hag,if_true,Ji H,E,<- I];refine L.cells ?_;simp only[Qi,push];exact F _ B _ _ w
     .exact w.elim
    .rename_i hag;cases z;simp only[Y7,PM]at w;split at w
     .rename_i ad e;obtain⟨v,M,w⟩:=w;rw[Q4]at w;rw[e];simp only[asAddr,Qi,loadVar,Qc,Hq hd,hag,Bool.false_eq_true,if_false];refine YV M ?_;rw[push];exact F _ B _ _ w
     .exact w.elim
   .cases z
def Oz(rl:List RV)(Q:Value->Qa T->Prop)(f:Fm)(l:List Deferred):Qa T->Prop:=
 List.rec (motive:=λ _=>Qa T->Prop) (λ U=>Xv f Q rl [] U) (λ d _ e U=>match d.target with
  |.collected b=>∃M',J5 b (.deferred none) (.deferred (some [])) U.M M'/\e { U with M:=M' }
  |_=>False) l
def J5.mem(h:J5 b τ υ M₀ M'):Q2.obj b υ∈M₀:=by
 induction h with
 |here=>simp_all
 |there _ e=>simp_all
def Ge{fd:Func}{rl:List RV}(z:fd.results.toList.mapM (XP P)=some rl){Q:Value->Qa T->Prop}{f:Fm}:∀(ds:List Deferred)(U:Qa T),Oz rl Q f ds U ->
  ∀tmps:Array Value,(∀t,tmps.getD t undef=f t)->X7 P fd Q tmps ds U
 |[],U,h,tmps,w=>by
  have e:fd.results=fd.results.toList.toArray:=rfl;simp only[X7,results];rw[e,Qc,O7];exact CF w _ _ z [] U h
 |⟨tg,args⟩::ds,U,h,tmps,w=>by
  cases tg with
  |collected b=>
   obtain⟨M',B,h⟩:=h;simp only[X7,Instr.takeDeferred,Qc,getObj];refine⟨_,.inr B.mem,rfl,rfl,?_⟩;simp only[Qw,Qc,setObj];exact⟨_,M',B,rfl,rfl,rfl,rfl,Ge z ds _ h tmps w⟩
  |_=>exact h.elim
structure Zg(P:Program)(g:FuncId)(N:Nat)(cc:C)(rl:List RV):Prop where
 ok:∃fd mu dets,P.funcs[g]?=some fd/\fd.body=some (fd.body.getD .skip)/\clean P mu fd.ntmps dets (fd.body.getD .skip)=cc/\fd.ntmps=N/\fd.results.toList.mapM (XP P)=some rl/\(fd.name != "runtime.NumGoroutine")=true
def Zg.mk'(mu dets:List Nat)(z:P.funcs[g]?=some fd)(e:fd.body.isSome=true)(w:clean P mu fd.ntmps dets (fd.body.getD .skip)=cc)(f:fd.ntmps=N)
  (E:fd.results.toList.mapM (XP P)=some rl) (B:(fd.name != "runtime.NumGoroutine")=true):Zg P g N cc rl:=
 ⟨fd,mu,dets,z,by cases h:fd.body with|none=>rw[h]at e;cases e|some c=>rfl,w,f,E,B⟩
def Zg.o(mu dets:List Nat)(E:P.funcs[g]?=some fd)(h:(fd.body.isSome,clean P mu fd.ntmps dets (fd.body.getD .skip),fd.ntmps,fd.results.toList.mapM (XP P),(fd.name != "runtime.NumGoroutine"))=(true,cc,N,some rl,true)):Zg P g N cc rl:=by
 obtain⟨e,f,w,z,B⟩:=(by simpa only[Prod.mk.injEq]using h:_/\_/\_/\_/\_);exact .mk' mu dets E e f w z B
def Zg.any{g:FuncId}{N:Nat}{cc:C}{rl:List RV}(k:Zg P g N cc rl):(P.funcs[g]?.any λ fd=>fd.body.isSome&&fd.name != "runtime.NumGoroutine")=true:=by
 obtain⟨fd,mu,dets,f,e,-,-,-,w⟩:=k.ok;grind
def Qb.of(k:Zg P g N cc rl)(K:P.follows .mixedOrders=true){args:List Value}(L:args.length<=N)
  (h:JM S g none cc (λ f ds U=>Oz rl Q f ds U) (λ _ _ _ _=>False) (λ f ds U=>Oz rl Q f ds U) (fm args) [] U):Qb S g args.toArray Q U:=by
 obtain⟨fd,mu,dets,I,G,H,rfl,E,-⟩:=k.ok;refine Qb.of_body I G ?_
 have B:FR fd.ntmps { tmps:=args.toArray++Array.replicate (fd.ntmps-args.toArray.size) undef,defers:=[] } (fm args) []:=by
  refine⟨rfl,S3,λ t=>?_⟩;simp only[fm,Array.getD_eq_getD_getElem?,getD_eq_getElem?_getD,Array.getElem?_append,size_toArray,getElem?_toArray];split
  .rfl
  .grind
 subst H;refine Zt.mono (Hh K _ B h) λ e a U z=>?_;obtain⟨f',F,w,z⟩:=z;cases e with
 |normal=>have:=Ge E _ _ z a.tmps w.get;simpa only[Kr,w.ds]using this
 |exit i=>exact z.elim
 |ret=>have:=Ge E _ _ z a.tmps w.get;simpa only[Kr,w.ds]using this
abbrev C.sr(l:List St)(c:C):C:=.seq (.reg l) c
abbrev St.xz(d a b t:Nat):St:=.d d (.rw (.call { callee:=.builtin .append,args:=#[.tmp a,.tmp b],argTypes:=#[t,t] }) t)
abbrev St.xo(d k t:Nat):St:=.d d (.off k (.tmp t))
abbrev St.xl(d t:Nat):St:=.d d (.ld (.tmp t))
abbrev St.xi(d n a b:Nat):St:=.d d (.idx n (.tmp a) (.tmp b))
abbrev St.xn(d t:Nat):St:=.d d (.len (.tmp t))
abbrev St.xc(d:Nat)(o:BinOp)(a b:Nat):St:=.d d (.cmp o (.tmp a) (.tmp b))
abbrev St.xk(d:Nat)(o:BinOp)(a:Nat)(n:Int):St:=.d d (.cmp o (.tmp a) (.ci n))
abbrev St.xa(d t:Nat):St:=.d d (.add (.tmp t) (.ci 1))
abbrev St.xe(d t i:Nat):St:=.d d (.ext (.tmp t) i)
abbrev St.xd(d n t:Nat):St:=.d d (.ldn n (.tmp t))
abbrev St.xt(d t:Nat):St:=.d d (.not (.tmp t))
abbrev St.xv(d:Nat)(n:Int):St:=.d d (.mv (.ci n))
abbrev St.xb(d:Nat)(b:Bool):St:=.d d (.mv (.cb b))
abbrev St.xs(d:Nat):St:=.d d (.mv .cn)
abbrev St.xp(d a b:Nat):St:=.d d (.pick (.tmp a) (.tmp b) (.cb false))
abbrev St.xq(d a b:Nat):St:=.d d (.pick (.tmp a) (.cb true) (.tmp b))
abbrev St.yo(d g:Nat)(p:Bool)(k t:Nat):St:=.u d g p (.off k (.tmp t))
abbrev St.yl(d g:Nat)(p:Bool)(t:Nat):St:=.u d g p (.ld (.tmp t))
abbrev St.yi(d g:Nat)(p:Bool)(n a b:Nat):St:=.u d g p (.idx n (.tmp a) (.tmp b))
abbrev St.yn(d g:Nat)(p:Bool)(t:Nat):St:=.u d g p (.len (.tmp t))
abbrev St.ym(d g:Nat)(p:Bool)(t:Nat):St:=.u d g p (.mv (.tmp t))
abbrev St.yk(d g:Nat)(p:Bool)(o:BinOp)(a:Nat)(n:Int):St:=.u d g p (.cmp o (.tmp a) (.ci n))
def Z8(U:Qa T)(a:Option Addr)(len:Nat)(l:List Int):Prop:=l.length=len/\∀i x,l[i]?=some x->∃e,a=some e/\e.spot=none/\U.sees (e.add (i*1)) (.int .i64 x)
def Zd(U:Qa T)(a:Option Addr)(len n:Nat)(l:List α)(R:α->List Value->Prop):Prop:=
 l.length=len/\∀i x,l[i]?=some x->∃e vs,a=some e/\e.spot=none/\R x vs/\vs.length=n/\Ju U (e.add (i*n)) vs
def Z8.le{U U':Qa T}{a:Option Addr}{len:Nat}{l:List Int}(h:Z8 U a len l)(f:U.le U'):Z8 U' a len l:=
 ⟨h.1,λ i x w=>let ⟨ad,e,hs,hv⟩:=h.2 i x w;⟨ad,e,hs,hv.le f⟩⟩
def Zd.le{U U':Qa T}{a:Option Addr}{len n:Nat}{α:Type}{l:List α}{R R':α->List Value->Prop}(h:Zd U a len n l R)(w:U.le U')(f:∀x vs,R x vs->R' x vs):Zd U' a len n l R':=
 ⟨h.1,λ i x z=>let ⟨ad,vs,e,hs,hr,hn,hv⟩:=h.2 i x z;⟨ad,vs,e,hs,f _ _ hr,hn,hv.le w⟩⟩
def Z8.at{l:List Int}(h:Z8 U a len l)(w:i<len):∃f x,l[i]?=some x/\a=some f/\f.spot=none/\U.sees (f.add (i*1)) (.int .i64 x):=by
 have z:i<l.length:=by rw[h.1];exact w
 obtain⟨f,e,B,E⟩:=h.2 i l[i] S1;simp_all
def Zd.at(h:Zd U a len n δ π)(w:i<len) :
  ∃f x vs,δ[i]?=some x/\a=some f/\f.spot=none/\π x vs/\vs.length=n/\Ju U (f.add (i*n)) vs:=by
 have z:i<δ.length:=by rw[h.1];exact w
 obtain⟨f,vs,e,F,E,B,G⟩:=h.2 i δ[i] S1;grind
def Ju.cell{a:Addr}(h:Ju U a vs)(e:vs[i]?=some v):U.sees (a.add i) v:=h i v e
def Z2(h:M'.Sublist U.M):Q1 U { U with M:=M' }:=by
 refine⟨rfl,λ w ok=>⟨⟨ok.imm,λ r f=>ok.held r (h.subset f),ok.apart.sublist h,λ r f=>ok.sep r (h.subset f)⟩,λ l e=>?_,λ l e=>?_⟩⟩
 .rw[Za]at e ⊢;grind
 .rw[Q3]at e ⊢;grind
def D5(F:JT U')(w:U'.M=.obj b τ::M₀)(f:∀x e,U.I x=some e->U'.I x=some e)(E:U.M=M₀)(G:U'.tok=U.tok) :
  ∃U'',Q1 U' U''/\U.le U''/\U''.I b=some τ:=by
 refine⟨{ U' with I:=JI U'.I b τ,M:=M₀ },Wf (by rw[w]),⟨λ x e B=>?_,E.symm,G⟩,by simp[JI]⟩;have z:U'.I b=none:=F (.obj b τ) (by rw[w];simp);show JI U'.I b τ x=_;unfold JI;grind
structure Qa.lg(U U':Qa T):Prop where
 imm:∀b o,U.I b=some o->U'.I b=some o
 own:∃A,U'.M=A++U.M
 tok:U'.tok=U.tok
def Qa.le.lg{U U':Qa T}(h:U.le U'):U.lg U':=⟨h.imm,⟨[],h.own⟩,h.tok⟩
def Qa.lg.trans{a b c:Qa T}(h:a.lg b)(k:b.lg c):a.lg c:=
 ⟨λ x o e=>k.imm x o (h.imm x o e),let ⟨A,e⟩:=h.own;let ⟨B,e'⟩:=k.own;⟨B++A,by simp_all⟩,k.tok.trans h.tok⟩
def Z6(b:Nat)(o:Obj):U.lg (U.put b o):=⟨λ _ _ h=>h,⟨[.obj b o],rfl⟩,rfl⟩
def Qa.lg.shift(h:U.lg U'):∃U'',Q1 U' U''/\U.le U''/\U''.I=U'.I:=by
 obtain⟨A,e⟩:=h.own;exact⟨_,Z2 (M':=U.M) (by simp_all),⟨h.imm,rfl,h.tok⟩,rfl⟩
def Qb.go(h:Qb S fn args (λ v U'=>v=z/\U'=U) U)(k:K z U):Qb S fn args K U:=h.mono λ v U'⟨a,b⟩=>by rw[a,b];exact k
def Qb.pure'{Q:Value->Prop}(h:Qb S fn args (λ v U'=>Q v/\U.lg U') U):Qb S fn args (λ v U'=>Q v/\U'=U) U:=
 h.post λ _ _⟨q,e⟩=>let ⟨_,h1,h2,_⟩:=e.shift;⟨U,h1.trans (E7 h2),q,rfl⟩
def Qa.sees.lg{U U':Qa T}{a:Addr}{v:Value}(h:U.sees a v)(f:U.lg U'):U'.sees a v:=by
 obtain⟨A,e⟩:=f.own;obtain⟨w,⟨c,t,fr,z,B⟩|⟨t,n,E⟩⟩:=h
 .exact⟨w,.inl ⟨c,t,fr,z.imp (f.imm _ _) (λ h=>by simp_all),B⟩⟩
 .exact⟨w,.inr ⟨t,n,by simp_all⟩⟩
def Ju.lg{U U':Qa T}{a:Addr}{vs:List Value}(h:Ju U a vs)(e:U.lg U'):Ju U' a vs:=λ i v f=>(h i v f).lg e
def Zo.lg{U U':Qa T}{b:Nat}{c:Array Value}(h:Zo U b c)(e:U.lg U'):Zo U' b c:=let ⟨t,fr,h⟩:=h;⟨t,fr,e.imm _ _ h⟩
def Z8.lg{U U':Qa T}{a:Option Addr}{len:Nat}{l:List Int}(h:Z8 U a len l)(f:U.lg U'):Z8 U' a len l:=
 ⟨h.1,λ i x w=>let ⟨ad,e,hs,hv⟩:=h.2 i x w;⟨ad,e,hs,hv.lg f⟩⟩
def Zd.lg{U U':Qa T}{a:Option Addr}{len n:Nat}{α:Type}{l:List α}{R R':α->List Value->Prop}(h:Zd U a len n l R)(w:U.lg U')(f:∀x vs,R x vs->R' x vs):Zd U' a len n l R':=
 ⟨h.1,λ i x z=>let ⟨ad,vs,e,hs,hr,hn,hv⟩:=h.2 i x z;⟨ad,vs,e,hs,f _ _ hr,hn,hv.lg w⟩⟩
def rq(h:Qw P s (λ v U'=>∃e,Q1 U' e/\K v e) U):Qw P (do pure (.value (<- s)):Sem Next) (ZM S λ v U'=>∃e,Q1 U' e/\K v e) U:=by
 rw[Qc];exact h
def ru{s:Sem Unit}(h:Qw P s (λ _ U'=>∃e,Q1 U' e/\K undef e) U):Qw P (do s;pure .skip:Sem Next) (ZM S λ v U'=>∃e,Q1 U' e/\K v e) U:=by
 rw[Qc];exact h
def Me{m:Nat}(f:P.underlying H=some (.slice e))(h:γ a.isNone U):Qw P (Op.equalIn (m+1) H (.slice a n b) (.slice none N c0)) γ U:=by
 rw[Op.equalIn];simp only[Qc,Zi f];cases a <;> exact h
def Vv(B:P.underlying H=some (.slice e))(E:Zc f x=.slice a n b)(h:K (.bool a.isNone) U) :
  OX S (.rw (.binOp .eql H x (.const (.slice none N c0)) M) G) f K U:=by
 intro a' z;simp only[execOp,z,E];refine rq ?_;rw[Qc];show Qw P (binOp .eql H (.slice a n b) (.slice none N c0)) _ U;show Qw P (do pure (Value.bool (<- Op.equal H (.slice a n b) (.slice none N c0))):Sem Value) _ U;rw[Qc];exact Me (m:=9999) B ⟨U,.refl _,h⟩
def W_:TypeDesc->Bool
 |.int _|.bool|.string=>true
 |_=>false
def H_:Value->Value->Bool
 |.int _ a,.int _ b=>a==b
 |.bool a,.bool b=>a==b
 |.string a,.string b=>a==b
 |_,_=>false
def fits:TypeDesc->Value->Bool
 |.int k,.int k' _=>decide (k=k')
 |.bool,.bool _=>true
 |.string,.string _=>true
 |_,_=>false
def Df(z:P.underlying H=some W)(w:W_ W=true){y:Value}(e:fits W v=true)(f:fits W y=true)(Q:Bool->Qa T->Prop)(U:Qa T) :
  Qw P (Op.equalIn (b+1) H v y) Q U=Q (H_ v y) U:=by
 rw[Op.equalIn];simp only[Qc,Zi z];cases W <;> simp[W_]at w <;> cases v <;> simp[fits]at e <;> cases y <;> simp[fits]at f
 .rfl
 .subst e;subst f;simp only[if_true];rfl
 .rfl
def Ht(P:Program):List Field->Nat->Bool
 |[],_=>true
 |fd::r,j=>fd.name != "_"&&decide (fd.offset=j)&&(match P.underlying fd.type with|some d=>W_ d|none=>false)&&Ht P r (j+1)
def JQ(P:Program):List Field->List Value->Bool
 |[],[]=>true
 |fd::r,v::vs=>(match P.underlying fd.type with|some d=>fits d v|none=>false)&&JQ P r vs
 |_,_=>false
def ZJ:List Value->List Value->Bool
 |[],[]=>true
 |x::xs,y::ys=>H_ x y&&ZJ xs ys
 |_,_=>false
def Gx(f:P.underlying H=some W)(e:W_ W=true)(w:c[j]?=some v)(Q:Value->Qa T->Prop)(U:Qa T) :
  Qw P (part H c j) Q U=Q v U:=by
 have:TypeDesc.agg W=false:=by cases W <;> first|rfl|simp[W_]at e
 simp only[part,Qc,Hq f,this,Bool.false_eq_true,if_false,w];rfl
def Vb{x:α}{b:β} :
  Qw P (forIn (x::δ) b θ) φ U=Qw P (θ x b) (λ r U=>match r with|.done b=>φ b U|.yield b=>Qw P (forIn δ b θ) φ U) U:=by
 rw[forIn_cons,Qc];congr 1;funext r U;cases r <;> rfl
def Ea{m:Nat}{xs ys:Array Value}{Q:Option Bool×PUnit->Qa T->Prop}:∀(E:List Field)(j:Nat)(vs ws:List Value),Ht P E j=true->JQ P E vs=true->JQ P E ws=true ->
  (∀i v,vs[i]?=some v->xs[j+i]?=some v)->(∀i v,ws[i]?=some v->ys[j+i]?=some v)->Q (if ZJ vs ws then none else some false,()) U ->
  Qw P (forIn E ((none,()):Option Bool×PUnit) λ fd _=>
   if fd.name ≠ "_" then do
    let a <- part fd.type xs fd.offset
    let b <- part fd.type ys fd.offset
    let c <- Op.equalIn (m+1) fd.type a b
    if(!c)=true then pure (ForInStep.done (some false,()))else pure (ForInStep.yield (none,()))
   else pure (ForInStep.yield (none,()))) Q U
 |[],j,vs,ws,_,e,f,_,_,h=>by
  cases vs <;> cases ws <;> simp[JQ]at e f;exact h
 |fd::r,j,vs,ws,K,e,f,L,M,h=>by
  cases vs with
  |nil=>simp[JQ]at e
  |cons v vs=>
  cases ws with
  |nil=>simp[JQ]at f
  |cons w ws=>
  simp only[Ht,Bool.and_eq_true,decide_eq_true_eq]at K;obtain⟨⟨⟨N,S⟩,z⟩,V⟩:=K;simp only[JQ,Bool.and_eq_true]at e f;cases B:P.underlying fd.type with
  |none=>rw[B]at z;cases z
  |some d=>
   rw[B]at z e f;rw[Vb,if_pos (by simpa using N)];simp only[Qc,S];have G:xs[j]?=some v:=by simpa using L 0 v rfl
   have H:ys[j]?=some w:=by simpa using M 0 w rfl
   rw[Gx B z G,Gx B z H,Df B z e.1 f.1];cases I:H_ v w with
   |false=>simpa[I,ZJ,Qi]using h
   |true=>
    simp only[Bool.not_true,Bool.false_eq_true,if_false,Qi];refine Ea r (j+1) vs ws V e.2 f.2 (λ i v F=>?_) (λ i v F=>?_) (by grind[ZJ])
    .have:=L (i+1) v F;grind
    .have:=M (i+1) v F;grind
def Yi{e:Array Field}(G:P.underlying M=some (.struct e))(w:P.stoodInHeld M=false)(F:Ht P e.toList 0=true)(H:JQ P e.toList vs=true)(I:JQ P e.toList ws=true)
   (h:γ (ZJ vs ws) U):Qw P (Op.equal M (.agg vs.toArray) (.agg ws.toArray)) γ U:=by
 have z:Op.equal M (.agg vs.toArray) (.agg ws.toArray)=Op.equalIn (9998+1+1) M (.agg vs.toArray) (.agg ws.toArray):=rfl;rw[z,Op.equalIn];simp only[Qc,Zi G,program,Qw,w,Bool.false_eq_true,if_false];obtain⟨B⟩:=e;rw[forIn_toArray];refine Ea B 0 vs ws F H I (λ i v f=>by simpa using f) (λ i v f=>by simpa using f) ?_;cases E:ZJ vs ws <;> simpa[E,Qi]using h
def Yj(e:P.eqGuardType P.depth w=false)(h:D () U):Qw P (eqGuard op w x y (.agg c) (.agg args)) D U:=by
 unfold eqGuard
 have key (u:Unsupported):Qw P (do
     if !(<- program).eqGuardType (<- program).depth w then return
     if <- Op.eqGuardIn Op.maxDepth w (.agg c) (.agg args)then unsupported u:Sem Unit) D U:=by
  simp only[Qc,program,Qw,e,Bool.not_false,if_true,Qi];exact h
 cases op <;> first|exact key _|exact h
structure Gi(P:Program)(t:TypeId)(fs:Array Field):Prop where
 u:P.underlying t=some (.struct fs)
 s:P.stoodInHeld t=false
 f:Ht P fs.toList 0=true
 g:P.eqGuardType P.depth t=false
def Nf{e:Array Field}(k:Gi P M e)(E:Zc f x=.agg vs.toArray)(F:Zc f y=.agg ws.toArray)(z:JQ P e.toList vs=true)(B:JQ P e.toList ws=true)(h:K (.bool (ZJ vs ws)) U) :
  OX S (.rw (.binOp .eql M x y G) H) f K U:=by
 intro a' w;simp only[execOp,w,E,F];refine rq ?_;rw[Qc];refine Yj k.g ?_;simp only[binOp,Qc];exact Yi k.u k.s k.f z B ⟨U,.refl _,h⟩
def Ng{e:Array Field}(k:Gi P M e)(E:Zc f x=.agg vs.toArray)(F:Zc f y=.agg ws.toArray)(z:JQ P e.toList vs=true)(B:JQ P e.toList ws=true)(h:K (.bool (!ZJ vs ws)) U) :
  OX S (.rw (.binOp .neq M x y G) H) f K U:=by
 intro a' w;simp only[execOp,w,E,F];refine rq ?_;rw[Qc];refine Yj k.g ?_;simp only[binOp,Qc];exact Yi k.u k.s k.f z B ⟨U,.refl _,h⟩
def Qz{κ:Type}(enc:κ->Value):List (κ×Value)->Nat->List MapEntry
 |[],_=>[]
 |p::l,i=>⟨enc p.1,p.2,i⟩::Qz enc l (i+1)
def Q0(enc:κ->Value)(l:List (κ×Value)):Obj:=.map (Qz enc l 0).toArray l.length
def QM{κ:Type}[DecidableEq κ](k:κ):List (κ×Value)->Nat->Option (Nat×Value)
 |[],_=>none
 |p::l,i=>if k=p.1 then some (i,p.2)else QM k l (i+1)
def lk{κ:Type}[DecidableEq κ](k:κ)(l:List (κ×Value)):Option Value:=(QM k l 0).map (·.2)
def ups{κ:Type}[DecidableEq κ](k:κ)(v:Value):List (κ×Value)->List (κ×Value)
 |[]=>[(k,v)]
 |p::l=>if k=p.1 then(p.1,v)::l else p::ups k v l
structure WM(T:Type)(P:Program)(kt:TypeId){κ:Type}[DecidableEq κ](enc:κ->Value):Prop where
 chk:∀(e:Bool)(k:κ){Q:Unit->Qa T->Prop}{U:Qa T},Q () U->Qw P (Instr.checkKey e 10000 kt (enc k)) Q U
 find:∀(k:κ)(l:List (κ×Value)){Q:Option (Nat×Value)->Qa T->Prop}{U:Qa T},Q (QM k l 0) U->Qw P (Instr.findKey kt (enc k) (Qz enc l 0)) Q U
 bits:∀k,Instr.sameBits 10000 (enc k) (enc k)=true
def SL{κ:Type}[DecidableEq κ]{enc:κ->Value}{d:TypeDesc}(h:∀k k',Instr.sameNow d (enc k) (enc k')=some (decide (k=k')))(k:κ):∀(l:List (κ×Value))(i j:Nat),Instr.findNow d (enc k) (Qz enc l j) i=some (QM k l i)
 |[],i,j=>rfl
 |p::l,i,j=>by
  simp only[Qz,Instr.findNow,h,QM];by_cases e:k=p.1
  .simp[e]
  .simp only[e,decide_false,if_false];exact SL h k l (i+1) (j+1)
def Sj(h:∀k k',Instr.sameNow W (enc k) (enc k')=none)(k:κ)(p:κ×Value)(l:List (κ×Value))(i j:Nat):Instr.findNow W (enc k) (Qz enc (p::l) j) i=none:=by
 grind[Qz,Instr.findNow]
def KS{κ:Type}[DecidableEq κ]{enc:κ->Value}{w:TypeId}(h:∀k k'{Q:Bool->Qa T->Prop}{U:Qa T},Q (decide (k=k')) U->Qw P (Op.equal w (enc k) (enc k')) Q U)(k:κ) :
  ∀(l:List (κ×Value))(i j:Nat){Q:Option (Nat×Value)->Qa T->Prop}{U:Qa T},Q (QM k l i) U->Qw P (Instr.findAsking w (enc k) (Qz enc l j) i) Q U
 |[],i,j,Q,U,f=>f
 |p::l,i,j,Q,U,f=>by
  simp only[Qz,Instr.findAsking,Qc];refine h k p.1 ?_;by_cases e:k=p.1
  .simpa[e,QM,Qi]using f
  .simp only[e,decide_false,Bool.false_eq_true,if_false];exact KS h k l (i+1) (j+1) (by grind[QM])
def WM.simple{d:TypeDesc}{κ:Type}[DecidableEq κ]{enc:κ->Value}(w:P.underlying H=some d)(B:W_ d=true)(E:∀k k',Instr.sameNow d (enc k) (enc k')=some (decide (k=k')))(z:∀k,Instr.sameBits 10000 (enc k) (enc k)=true):WM T P H enc:=by
 refine⟨λ e k Q U h=>?_,λ k l Q U h=>?_,z⟩
 .have:∀m,Qw P (Instr.checkKey e (m+1) H (enc k)) Q U:=λ m=>by
   rw[Instr.checkKey];simp only[Qc,Zi w];cases d <;> simp[W_]at B <;> exact h
  exact this 9999
 .unfold Instr.findKey;simp only[Qc,Zi w,SL E k l 0 0];exact h
def Ut{m:Nat}{e:Bool}{xs:Array Value}{Q:PUnit->Qa T->Prop}:∀(E:List Field)(j:Nat)(vs:List Value),Ht P E j=true->JQ P E vs=true->(∀i v,vs[i]?=some v->xs[j+i]?=some v)->Q () U ->
  Qw P (forIn E PUnit.unit λ fd _=>
   if fd.name ≠ "_" then do
    let a <- part fd.type xs fd.offset
    Instr.checkKey e (m+1) fd.type a
    pure (ForInStep.yield PUnit.unit)
   else pure (ForInStep.yield PUnit.unit)) Q U
 |[],_,_,_,_,_,h=>h
 |fd::r,j,vs,G,B,H,h=>by
  cases vs with
  |nil=>simp[JQ]at B
  |cons v vs=>
  simp only[Ht,Bool.and_eq_true,decide_eq_true_eq]at G;obtain⟨⟨⟨I,K⟩,f⟩,L⟩:=G;simp only[JQ,Bool.and_eq_true]at B;cases z:P.underlying fd.type with
  |none=>rw[z]at f;cases f
  |some d=>
   rw[z]at f B;rw[Vb,if_pos (by simpa using I)];have F:xs[j]?=some v:=by simpa using H 0 v rfl
   simp only[Qc,K];rw[Gx z f F]
   have w:∀Q:Unit->Qa T->Prop,Qw P (Instr.checkKey e (m+1) fd.type v) Q U=Q () U:=λ Q=>by
    rw[Instr.checkKey];simp only[Qc,Zi z];cases d <;> simp[W_]at f <;> rfl
   rw[w];simp only[Qi];refine Ut r (j+1) vs L B.2 (λ i v M=>?_) h;have:=H (i+1) v M;grind
def WM.struct{B:Array Field}{κ:Type}[DecidableEq κ]{enc:κ->List Value}(z:Gi P M B)(w:∀k,JQ P B.toList (enc k)=true)(H:∀k k',ZJ (enc k) (enc k')=decide (k=k'))(G:∀k,Instr.sameBits 10000 (.agg (enc k).toArray) (.agg (enc k).toArray)=true) :
  WM T P M (λ k=>.agg (enc k).toArray):=by
 refine⟨λ e k Q U h=>?_,λ k l Q U h=>?_,G⟩
 .have:∀m,Qw P (Instr.checkKey e (m+1+1) M (.agg (enc k).toArray)) Q U:=λ m=>by
   rw[Instr.checkKey];simp only[Qc,Zi z.u];obtain⟨F⟩:=B;rw[forIn_toArray];exact Ut F 0 (enc k) z.f (w k) (λ i v I=>by simpa using I) h
  exact this 9998
 .unfold Instr.findKey;simp only[Qc,Zi z.u];cases l with
  |nil=>exact h
  |cons p l=>
   rw[Sj (enc:=λ k=>Value.agg (enc k).toArray) (λ _ _=>rfl)];exact KS (λ k k' Q U K=>Yi z.u z.s z.f (w k) (w k') (by rw[H];exact K)) k (p::l) 0 0 h
def P6(enc:κ->Value)(h:∀b,U.free b->K (.map (some b)) (U.put b (Q0 enc []))) :
  OX S (.rw (.makeMap H none) w) f K U:=by
 intro a' z;simp only[execOp];refine rq ?_;simp only[Instr.makeMap,Qc,newObj,Qw,Qi,Option.map_none];exact λ b e=>⟨_,.refl _,h b e⟩
def Dh{κ:Type}[DecidableEq κ]{enc:κ->Value}{B E:TypeId}{l:List (κ×Value)}{k:κ}(w:WM T P B enc)(H:P.underlying M=some (.map B E))(I:Xo P E=some z)
  (G:U.has b (Q0 enc l))  (h:Q (if ok then .tuple #[(lk k l).getD z,.bool (lk k l).isSome]else(lk k l).getD z) U):Qw P (Instr.lookup M (.map (some b)) (enc k) ok) Q U:=by
 obtain⟨K,F,f⟩:=P8 I;unfold Instr.lookup;simp only[Qc,Zi H,getObj];refine⟨_,G,rfl,rfl,?_⟩;simp only[Qw,Q0,Qi,Qc];refine w.chk _ _ ?_;refine w.find k l ?_;unfold lk at h;cases e:QM k l 0 with
 |none=>simp only[e,Option.map_none,Option.getD_none,Option.isSome_none]at h;simp only[Qc,XC F f,Qi];exact h
 |some p=>simp only[e,Option.map_some,Option.getD_some,Option.isSome_some]at h;simp only[Qi];exact h
def KW{κ:Type}[DecidableEq κ]{enc:κ->Value}{t:TypeId}{l:List (κ×Value)}{k:κ}(E:WM T P e enc)(G:P.underlying t=some (.map e w))(L:Xo P w=some z)
  (H:Zc f x=.map (some b)) (I:Zc f y=enc k) (F:U.has b (Q0 enc l)) (h:K ((lk k l).getD z) U) :
  OX S (.rw (.lookup t x y false) M) f K U:=by
 intro a' B;simp only[execOp,B,H,I];exact rq (Dh E G L F ⟨U,.refl _,h⟩)
def KL{κ:Type}[DecidableEq κ]{enc:κ->Value}{t:TypeId}{l:List (κ×Value)}{k:κ}(E:WM T P e enc)(G:P.underlying t=some (.map e w))(L:Xo P w=some z)
  (H:Zc f x=.map (some b)) (I:Zc f y=enc k) (F:U.has b (Q0 enc l)) (h:K (.tuple #[(lk k l).getD z,.bool (lk k l).isSome]) U) :
  OX S (.rw (.lookup t x y true) M) f K U:=by
 intro a' B;simp only[execOp,B,H,I];exact rq (Dh E G L F ⟨U,.refl _,h⟩)
def Sg{κ:Type}(enc:κ->Value):∀(l:List (κ×Value))(i:Nat),(Qz enc l i).length=l.length
 |[],_=>rfl
 |_::l,i=>by simp[Qz,Sg enc l]
def Kz{κ:Type}(enc:κ->Value):∀(l l':List (κ×Value))(i:Nat),Qz enc (l++l') i=Qz enc l i++Qz enc l' (i+l.length)
 |[],l',i=>by simp[Qz]
 |p::l,l',i=>by simp[Qz,Kz enc l l' (i+1)];congr 1;omega
def YO{κ:Type}[DecidableEq κ]{k:κ}{v:Value}:∀{l:List (κ×Value)}{i:Nat},QM k l i=none->ups k v l=l++[(k,v)]
 |[],_,_=>rfl
 |p::l,i,h=>by
  simp only[QM]at h;split at h
  .cases h
  .rename_i e;simp only[ups,if_neg e,cons_append,YO h]
def Ta{κ:Type}[DecidableEq κ]{enc:κ->Value}{k:κ}{v:Value}:∀{l:List (κ×Value)}{i j n:Nat}{x:Value},QM k l i=some (n,x)->i<=n/\(∃e,(Qz enc l j)[n-i]?=some e/\e.key=enc k) /\
   (Qz enc l j).modify (n-i) (λ e=>{ e with key:=enc k,val:=v })=Qz enc (ups k v l) j/\(ups k v l).length=l.length
 |[],_,_,_,_,h=>by cases h
 |p::l,i,j,n,x,h=>by
  simp only[QM]at h;split at h
  .simp_all[Nat.le_refl,Qz,ups]
  .rename_i e;obtain⟨F,⟨x,z,f⟩,B,E⟩:=Ta (enc:=enc) (v:=v) (j:=j+1) h;have w:n-i=(n-(i+1))+1:=O1
   refine⟨O1,?_,?_,by simp[ups,e,E]⟩
   .rw[w];exact⟨x,by simpa[Qz]using z,f⟩
   simp_all[Qz,ups,if_neg,modify_succ_cons]
def KB{κ:Type}[DecidableEq κ]{enc:κ->Value}{t vt ty:TypeId}{l:List (κ×Value)}{k:κ}{u:Operand}(E:WM T P H enc)(X:P.underlying t=some (.map H vt))
  (Z:Zc f x=.map (some b)) (hy:Zc f y=enc k) (Y:Zc f u=v) (F:J5 b (Q0 enc (ups k v l)) (Q0 enc l) U.M M') (h:K undef { U with M:=M' }) :
  OX S (.rw (.mapUpdate t x y u) ty) f K U:=by
 intro a' V;simp only[execOp,V,Z,hy,Y];refine ru ?_;unfold Instr.mapUpdate;simp only[Qc,Zi X,getObj];refine⟨_,.inr F.mem,rfl,rfl,?_⟩;simp only[Qw,Q0,Qi,Qc];refine E.chk _ _ ?_;refine E.find k l ?_;cases e:QM k l 0 with
 |none=>
  have G:=YO (v:=v) e;simp only[setObj,Qw];refine⟨Q0 enc l,M',?_,rfl,rfl,rfl,⟨_,.refl _,h⟩⟩
  have:Obj.map ((Qz enc l 0).toArray.push { key:=enc k,val:=v,born:=l.length }) (l.length+1)=Q0 enc (ups k v l):=by
   rw[G];simp only[Q0,length_append,length_cons,length_nil,Kz,Qz,Nat.zero_add];congr 1;apply Array.ext';simp
  rw[this];exact F
 |some p=>
  obtain⟨n,w⟩:=p;obtain⟨h1,⟨I,L,B⟩,N,Q⟩:=Ta (enc:=enc) (v:=v) (j:=0) e
  have W:(((Qz enc l 0).toArray[n]?).map (·.key)).getD (enc k)=enc k:=by
   have:(Qz enc l 0).toArray[n]?=some I:=by simpa using L
   rw[this];exact B
  simp only[Qc,Instr.keyThatStays,W,E.bits,if_true,Qi,setObj,Qw];refine⟨Q0 enc l,M',?_,rfl,rfl,rfl,⟨_,.refl _,h⟩⟩
  have:Obj.map ((Qz enc l 0).toArray.modify n λ e=>{ e with key:=enc k,val:=v }) l.length=Q0 enc (ups k v l):=by
   simp only[Q0,Q];congr 1;apply Array.ext';have z:=N;rw[Nat.sub_zero]at z;simpa using z
  rw[this];exact F
def Gu{b off:Nat}{e:TypeId}{M₀:List Q2}{Q:Qa T->Prop}:∀(vs:List Value)(i:Nat)(c:Array Value)(U:Qa T),U.M=.obj b (.cells c e (0,0))::M₀->(∀v∈vs,v.single=true)->off+i+vs.length<=c.size ->
  Q { U with M:=.obj b (.cells (JZ c off vs i) e (0,0))::M₀ }->ZG ⟨b,off,none⟩ vs i Q U
 |[],i,c,U,f,_,_,w=>by
  have:U={ U with M:=.obj b (.cells c e (0,0))::M₀ }:=by rw[<- f]
  show Q U;rw[this];exact w
 |v::vs,i,c,U,f,z,B,w=>by
  simp only[length_cons]at B;refine⟨z v (mem_cons_self ..),.obj b (.cells (c.setIfInBounds (off+i) v) e (0,0))::M₀,?_,?_⟩
  .rw[f,Qu];exact .obj (a:=⟨b,off+i,none⟩) rfl (by grind)
  .exact Gu vs (i+1) _ _ rfl (λ v E=>z v (mem_cons_of_mem _ E)) S3 w
def Vs(h:c.size=vs.length):JZ c 0 vs 0=vs.toArray:=by
 apply Array.ext
 .rw[Vj];simpa using h
 .intro i h1 h2;have e:i<vs.length:=by simpa using h2
  have:=Pj vs c 0 0 i O1;simp_all
def Zy(w:U.free b)(f:c.size=vs.length)(z:∀v∈vs,v.single=true)(h:∀e,U.le e->Zo e b vs.toArray->E e) :
  ZG ⟨b,0,none⟩ vs 0 (λ U'=>∃e,Q1 U' e/\E e) (U.put b (.cells c H)):=by
 refine Gu vs 0 c _ rfl z O1 ?_;rw[Vs f];exact⟨_,Wf (b:=b) (M':=U.M) (Perm.refl _),h _ (GA w) Zo.new⟩
def Acc(e:TypeId)(n:Nat)(v:Value)(cs:List Value)(M M₀:List Q2):Prop:=
 (v=.nl/\cs=[]/\M=M₀) \/
 (∃(b:Nat)(c:Array Value)(len cap:Nat),v=.slice (some ⟨b,0,none⟩) len cap/\cs.length=len*n/\len<=cap/\c.size=cap*n/\M=.obj b (.cells c e (0,0))::M₀/\∀(i:Nat)(x:Value),cs[i]?=some x->c[i]?=some x)
def Kb:Value->Bool
 |.slice none _ _=>true
 |_=>false
def Acc.nil:Acc e n .nl [] M₀ M₀:=.inl ⟨rfl,rfl,rfl⟩
def Acc.empty:Acc e n (.slice (some ⟨b,0,none⟩) 0 0) [] (.obj b (.cells #[] e (0,0))::M₀) M₀:=
 .inr ⟨b,#[],0,0,rfl,S1,Nat.le_refl _,S1,rfl,λ i x h=>by simp at h⟩
def D4(e:Nat):∀(r c:Nat),Builtin.growBy e r c<=max c (e+(e+768) / 4)
 |0,c=>by grind[Builtin.growBy]
 |r+1,c=>by
  simp only[Builtin.growBy];split
  .omega
  .have:=D4 e r (c+(c+768) / 4);omega
def QG{need old:Nat}(h:old<need):Builtin.nextslicecap need old<=2*need+192:=by
 unfold Builtin.nextslicecap;split
 .omega
 .split
  .omega
  .have:=D4 need 4 old;omega
def Src(U:Qa T)(a:Option Addr)(cs:List Value):Prop:=(a=none/\cs=[])\/∃e,a=some e/\Ju U e cs
def XY(h:Src U a cs)(f:cs.length=b*n)(e:μ cs.toArray U):Qw P (Builtin.firstCells n b (.slice a b N)) μ U:=by
 rcases h with⟨rfl,rfl⟩|⟨z,rfl,w⟩
 .exact e
 .simp only[Builtin.firstCells];rw[<- f];exact w.cells e
def PD(h:D () U):Qw P (askRoom b) D U:=by
 unfold askRoom;split
 .exact⟨rfl,h⟩
 .exact h
def CE(f:U.M=.obj b (.cells c e (0,0))::M₀)(h:∀(i:Nat)(x:Value),cs[i]?=some x->c[i]?=some x):Ju U ⟨b,0,none⟩ cs:=by
 intro i v w;rw[Qu];exact⟨rfl,.inl ⟨c,e,(0,0),.inr (by rw[f];simp),by simp_all⟩⟩
def Acc.src(h:Acc N n v cs U.M M₀):∃a l c,v=.slice a l c/\cs.length=l*n/\Src U a cs:=by
 rcases h with⟨rfl,rfl,f⟩|⟨b,c,len,cap,rfl,w,B,E,f,z⟩
 .exact⟨_,_,_,rfl,S1,.inl ⟨rfl,rfl⟩⟩
 .exact⟨_,_,_,rfl,w,.inr ⟨_,rfl,CE f z⟩⟩
def CC{e e2:Nat}{yl:Nat}
  (hu:P.underlying j=some (.slice e)) (ah:P.underlying c0=some (.slice e2)) (E:P.info? e=some ρ) (ag:ρ.size=n) (hz:ρ.zero=some z) (ai:z.cells.size=n) (V:ρ.bytes≠0/\ρ.bytes<=1024)
  (hx:Zc f x=v) (hy:Zc f y=.slice ya yl yc) (Z:Acc e n v cs U.M M₀) (Q:Src U ya vs) (N:vs.length=yl*n) (hn:0<n) (T:∀w∈vs,w.single=true) (aj:cs.length+vs.length<=1048576)
  (h:∀v' M',Acc e n v' (cs++vs) M' M₀->Kb v'=(Kb v&&vs.isEmpty)->K v' { U with M:=M' }) :
  OX S (.rw (.call { callee:=.builtin .append,args:=#[x,y],argTypes:=#[j,c0] }) ty) f K U:=by
 intro a' ad;obtain⟨sa,sl,sc,I,H,af⟩:=Z.src;have hm:(#[x,y]:Array Operand).map a'.eval=#[.slice sa sl sc,.slice ya yl yc]:=by simp[ad,hx,hy,I]
 simp only[execOp,resolve,hm,Qc,Qi,invoke,builtin];show Qw P (Builtin.append_ #[j,c0] ty #[.slice sa sl sc,.slice ya yl yc]) _ U;unfold Builtin.append_;simp only[getElem?_toArray,getElem?_cons_zero,getElem?_cons_succ,Qc,Zi hu,Zi ah,Ji E,ag,Qi,Bool.false_eq_true,if_false,Builtin.lenOf,Wl E,false_or,Bool.not_false,if_true];have al:sl<=cs.length:=by rw[H];exact Nat.le_mul_of_pos_right _ hn
 have am:yl<=vs.length:=by rw[N];exact Nat.le_mul_of_pos_right _ hn
 have L:(cs++vs).length=(sl+yl)*n:=by rw[length_append,H,N,Nat.add_mul]
 split
 .rename_i hle;rw[Qc];refine XY Q N ?_;rcases Z with⟨rfl,rfl,G⟩|⟨b,c,len,cap,rfl,h1,h2,Y,G,h4⟩
  .cases I;have:yl=0:=O1
   subst this;have X:vs=[]:=by simpa using N
   subst X;refine⟨U,.refl _,?_⟩;have:=h .nl U.M (.inl ⟨rfl,rfl,G⟩) rfl;exact this
  .cases I;simp only[Qc];refine GX _ _ _ ?_;rw[Qu]
   have F:0+sl*n+0+vs.length<=c.size:=by
    have:(sl+yl)*n<=sc*n:=Nat.mul_le_mul_right n hle;rw[Nat.add_mul]at this;rw[Y,N];omega
   refine Gu _ _ c U G T F ?_;refine⟨_,.refl _,h _ _ (.inr ⟨b,_,sl+yl,sc,rfl,L,hle,by rw[Vj];exact Y,rfl,λ i x E=>?_⟩) rfl⟩;rw[Pj _ _ _ _ _ F];grind
 .rename_i hgt;have ab:¬(((sl+yl:Nat):Int) > IntKind.i64.max/\ρ.bytes=0):=λ h=>V.1 h.2
  have ac:¬(Builtin.nextslicecap (sl+yl) sc*ρ.bytes > 2^48):=by
   have:=QG (need:=sl+yl) (old:=sc) O1;have h2:Builtin.nextslicecap (sl+yl) sc*ρ.bytes<=(2*(sl+yl)+192)*1024:=Nat.mul_le_mul this V.2;have aa:(2:Nat)^48=281474976710656:=D1
   rw[aa];omega
  simp only[Wl E,Qc];rw[if_neg ab];simp only[Wl E,Qc];rw[if_neg ac];simp only[choose,Qc];show ∀tt,Qw P _ _ U;intro tt;show Qw P (typeInfo e) _ U;rw[Wl E];refine PD ?_;refine XY af H ?_;refine XY Q N ?_;simp only[XC E hz];refine Jm λ b' ak=>?_;have W:sl+yl<=Question.cut (.appendCap (sl+yl) sc e) tt:=by simp only[Question.cut];omega
  refine⟨_,Z2 (M':=.obj b' (.cells (cs.toArray++vs.toArray++Builtin.zeroCells z.cells (Question.cut (.appendCap (sl+yl) sc e) tt-(sl+yl))) e)::M₀) ?_,?_⟩
  .show Sublist _ (.obj b' _::U.M);refine Sublist.cons_cons _ ?_;rcases Z with⟨rfl,rfl,G⟩|⟨b,c,len,cap,rfl,h1,h2,Y,G,h4⟩
   .rw[G];exact Sublist.refl _
   simp_all
  .refine h _ _ (.inr ⟨b',_,sl+yl,Question.cut (.appendCap (sl+yl) sc e) tt,rfl,L,W,?_,rfl,λ i x E=>?_⟩) ?_
   .simp only[Array.size_append,size_toArray,H,N,Builtin.zeroCells,Array.size_map,Array.size_range,ai];rw[<- Nat.add_mul,<- Nat.add_mul];congr 1;omega
   .grind
   .rcases Z with⟨rfl,rfl,G⟩|⟨b,c,len,cap,rfl,h1,h2,Y,G,h4⟩
    .cases I;have:vs≠[]:=by rintro rfl;simp at N;omega
     cases vs with
     |nil=>simp_all
     |cons=>rfl
    .rfl
def EJ(P:Program)(t e n:Nat):Bool:=
 (match P.underlying t with|some (.slice e')=>decide (e'=e)|_=>false)&&(match P.info? e with
  |some f=>decide (f.size=n)&&(match f.zero with|some z=>decide (z.cells.size=n)|none=>false)&&decide (f.bytes≠0)&&decide (f.bytes<=1024)
  |none=>false)&&decide (0<n)
structure Xf(P:Program)(t e n:Nat):Prop where
 u:P.underlying t=some (.slice e)
 i:∃inf z,P.info? e=some inf/\inf.size=n/\inf.zero=some z/\z.cells.size=n/\inf.bytes≠0/\inf.bytes<=1024
 n:0<n
def Xf.of(h:EJ P N i n=true):Xf P N i n:=by
 unfold EJ at h;simp only[Bool.and_eq_true,decide_eq_true_eq]at h;obtain⟨⟨f,w⟩,B⟩:=h;refine⟨?_,?_,B⟩
 .split at f
  .rename_i e' hu;simp only[decide_eq_true_eq]at f;subst f;exact hu
  .cases f
 grind
def Wv{new:List Value}(k:Xf P b i n)
  (Y:Zc f x=v) (Z:Zc f y=.slice a j yc) (W:Acc i n v cs U.M M₀) (F:Src U a new) (X:new.length=j*n) (B:∀w∈new,w.single=true) (E:cs.length+new.length<=1048576)
  (h:∀G M',Acc i n G (cs++new) M' M₀->Kb G=(Kb v&&new.isEmpty)->K G { U with M:=M' }) :
  OX S (.rw (.call { callee:=.builtin .append,args:=#[x,y],argTypes:=#[b,b] }) ty) f K U:=by
 obtain⟨aa,z,I,L,N,Q,T,V⟩:=k.i;exact CC k.u k.u I L N Q ⟨T,V⟩ Y Z W F X k.n B E h
def V6(P:Program)(t:TypeId):Array Field:=match P.underlying t with|some (.struct e)=>e|_=>#[]
def OK(P:Program)(t:TypeId):Bool:=
 (match P.underlying t with|some (.struct _)=>true|_=>false)&&!P.stoodInHeld t&&Ht P (V6 P t).toList 0&&!P.eqGuardType P.depth t
def Gi.of(h:OK P H=true):Gi P H (V6 P H):=by
 unfold OK at h;simp only[Bool.and_eq_true,Bool.not_eq_true']at h;obtain⟨⟨⟨e,f⟩,w⟩,z⟩:=h;refine⟨?_,f,w,z⟩;grind[V6]
def S9(Y:P.underlying j=some (.slice yc))(G:P.info? yc=some ρ)(hz:ρ.zero=some z)(M:z.cells=#[z])(L:ρ.size=1)(F:ρ.bytes<=64)
  (hx:Zc f x=.int .i64 n) (hy:Zc f y=.int .i64 n) (X:n<=1048576) (h:∀b,U.free b->K (.slice (some ⟨b,0,none⟩) n n) (U.put b (.cells (replicate n z).toArray yc))) :
  OX S (.rw (.makeSlice j x y) ty) f K U:=by
 intro a' Q;simp only[execOp,Q,hx,hy];refine rq ?_;unfold Instr.makeSlice;have Z:IntKind.wrap .i64 (n:Int)=n:=Gk I1;simp only[Qc,Zi Y,asInt,asIntOf,Qi,Wl G,Z]
 have W:(ρ.bytes:Int)*(n:Int)<=67108864:=by
  have:=Nat.mul_le_mul F X;have yc:((ρ.bytes*n:Nat):Int)=(ρ.bytes:Int)*n:=S1
  omega
 have E:(2:Int)^48=281474976710656:=D1
 have I:(((decide ((n:Int)<0)|| decide ((ρ.bytes:Int)*(n:Int) > 2^48))|| decide ((n:Int)<0))|| decide ((n:Int) > n))=false:=by
  rw[E];simp only[Bool.or_eq_false_iff,decide_eq_false_iff_not];omega
 simp only[I,Bool.false_eq_true,if_false];rw[Qc];refine PD ?_;simp only[Qc,Ji G,L,Nat.mul_one,Int.toNat_natCast]
 have fin:∀c:Array Value,(n≠0->c=z.cells)->Qw P (newRow yc ((Array.range n).map (c[· % c.size]!))) (λ a U'=>∃N,Q1 U' N/\K (.slice (some a) n n) N) U:=by
  intro c V;refine Jm λ b T=>⟨_,.refl _,?_⟩
  have:(Array.range n).map (c[· % c.size]!)=(replicate n z).toArray:=by
   apply Array.ext
   .simp
   .intro i h1 h2;have H:n≠0:=by simp at h1;omega
    have B:=V H;rw[M]at B;subst B;simp[Nat.mod_one]
  rw[this];exact h b T
 split
 .rename_i h0;exact fin #[] λ h=>absurd h0 h
 .simp only[Qc,XC G hz];exact fin _ λ _=>rfl
def Fp{s:ByteArray}(L:P.underlying n=some .string)(z:P.underlying ty=some (.slice j))(B:P.underlying j=some (.int .u8))(N:Zc f x=.string s)
  (h:∀b cap(c:Array Value)fr,U.free b->(∀(i:Nat)u,s.data[i]?=some u->c[i]?=some (.int .u8 u.toNat))->K (.slice (some ⟨b,0,none⟩) s.size cap) { U with I:=JI U.I b (.cells c j fr) }) :
  OX S (.rw (.convert n ty x) yc) f K U:=by
 intro a' G;simp only[execOp,G,N];refine rq ?_;unfold convert;simp only[Qc,Zi L,Zi z,Zi B,Conv.stringToBytes,choose];show ∀Q,Qw P _ _ U;intro Q;simp only[Qi,Qw];refine Jm λ b H=>?_;unfold markStringish;simp only[Qc,shape];refine⟨_,.inr (mem_cons_self ..),?_⟩;simp only[Obj.shapeOf,Qw,freeze];refine⟨D1,_,_,_,rfl,?_⟩;refine⟨_,Wf (b:=b) (M':=U.M) (Perm.refl _),?_⟩;refine h b _ _ _ H λ i u E=>?_;grind
def qp(t:Tmp)(e:Fm->List Value->Fm)(f:Fm):List Value->Fm
 |[]=>f
 |v::vs=>e (JC f t v) vs
def G7(f:Fm):List Tmp->List Value->Fm
 |[],_=>f
 |t::ts,vs=>qp t (λ f vs=>G7 f ts vs) f vs
def OZ{N:Nat}:∀(ts:List Tmp)(vs:List Value)(tmps:Array Value)(f:Fm),(∀t∈ts,t<N)->FR N ⟨tmps,[]⟩ f []->FR N ⟨(ts.zip vs).foldl (λ tmps p=>tmps.setIfInBounds p.1 p.2) tmps,[]⟩ (G7 f ts vs) []
 |[],_,_,_,_,h=>h
 |t::ts,[],_,_,_,h=>h
 |t::ts,v::vs,tmps,f,e,h=>by
  simp only[zip_cons_cons,foldl_cons];show FR N _ (G7 (JC f t v) ts vs) [];exact OZ ts vs _ _ (λ t z=>e t (mem_cons_of_mem _ z)) (h.put (some t) v λ d w=>by simp_all)
def Ow(l:Nat)(lo:LoopState->Option Code->Obj)(K:Value->Qa T->Prop)(j:Option Code)(U:Qa T):Prop:=
 ∃M',J5 l (lo (if j.isNone then .ready else .done) j) (lo .busy none) U.M M'/\K (.bool j.isNone) { U with M:=M' }
def CR(l:Nat)(lo:LoopState->Option Code->Obj)(n:Qa T->Prop)(x:Nat->Qa T->Prop)(r:Qa T->Prop)(U:Qa T):Prop:=
 ∃st j M',st≠.busy/\J5 l (lo .exhausted j) (lo st j) U.M M'/\(match j with|none=>n { U with M:=M' }|some (.exit i)=>x i { U with M:=M' }|some .ret=>r { U with M:=M' }|_=>False)
def Th(S:Sys P T)(fn:FuncId)(params:Array Tmp)(as E:C)(l:Nat)(lo:LoopState->Option Code->Obj)(f:Fm):Prop:=
 ∀(vs:List Value)(K:Value->Qa T->Prop)(U:Qa T),vs.length=params.size->Q2.obj l (lo .ready none)∈U.M ->
  JM S fn (some l) as (λ z w B=>w=[]/\∃M₁,J5 l (lo .busy none) (lo .ready none) B.M M₁ /\
   JM S fn (some l) E (λ _ _ e=>Ow l lo K none e) (λ i _ _ e=>Ow l lo K (some (.exit i)) e) (λ _ _ e=>Ow l lo K (some .ret) e) z [] { B with M:=M₁ })
   (λ _ _ _ _=>False) (λ _ _ _=>False) (G7 f params.toList vs) [] U->Zr S l vs K U
def Vl(e:Q2.obj b (.loop r)∈U.M)(h:σ r U):Qw P (Instr.getLoop b) σ U:=by
 unfold Instr.getLoop;rw[Qc];exact⟨.loop r,.inr e,rfl,rfl,h⟩
def Rr(e:r.state=.ready)(f:J5 b (.loop { r with state:=.busy }) (.loop r) U.M M')(h:D () { U with M:=M' }):Qw P (Instr.beginRound b) D U:=by
 unfold Instr.beginRound;rw[Qc];refine Vl f.mem ?_;simp only[Qc,setObj,Qw];refine⟨_,M',f,rfl,rfl,rfl,?_⟩;rw[e];exact h
def KO(e:J5 b (.loop { r with state:=if ψ.isNone then .ready else .done,pending:=ψ }) (.loop r) U.M M')(h:Q (.bool ψ.isNone) { U with M:=M' }):Qw P (Instr.endRound b ψ) Q U:=by
 unfold Instr.endRound;rw[Qc];refine Vl e.mem ?_;simp only[Qc,setObj,Qw];exact⟨_,M',e,rfl,rfl,rfl,h⟩
def CI(e:r.state≠.busy)(f:J5 b (.loop { r with state:=.exhausted }) (.loop r) U.M M')(h:ν r.pending { U with M:=M' }):Qw P (Instr.endLoop b) ν U:=by
 unfold Instr.endLoop;rw[Qc];refine Vl f.mem ?_;have:(r.state==.busy)=false:=by simpa using e
 rw[this];simp only[Bool.false_eq_true,if_false,Qc,setObj,Qw];exact⟨_,M',f,rfl,rfl,rfl,h⟩
def N2(hm:P.follows .mixedOrders=true){fn:Nat}{n:Zh T}{r:Zh T}{w:Array Value}
  (hc:Zc f y=.func (.func g) args w) (z:params.toList.all (λ t=>decide (t<N))=true) (hg:(P.funcs[g]?.any λ fd=>fd.body.isSome&&fd.name != "runtime.NumGoroutine")=true)
  (h:∀(l d:Nat)(lo:LoopState->Option Code->Obj),U.free d->U.free l->l≠d->Th S fn params as bd l lo f ->
   Qb S g (args.toList++[Value.func (.yield l) #[] #[]]++w.toList).toArray (λ _ Y=>JT Y ->
    CR l lo (λ U=>n f (⟨.collected d,#[]⟩::ds) U) (λ i U=>ξ i f (⟨.collected d,#[]⟩::ds) U) (λ U=>r f (⟨.collected d,#[]⟩::ds) U) Y)
    { U with M:=.obj l (lo .ready none)::.obj d (.deferred (some []))::U.M }) :
  JM S fn none (.rng N mu dets y params as bd) n ξ r f ds U:=by
 intro ca cb aa ab a Z;have hN:∀t∈params.toList,t<N:=λ t ht=>by grind
 refine Af ?_;simp only[Instr.enterLoop,Qc,newObj,Qw,Qi];intro d hd l hl;have ae:U.free l:=⟨hl.1,λ r hr=>hl.2 r (mem_cons_of_mem _ hr)⟩;have af:l≠d:=λ e=>hl.2 (.obj d (.deferred (some []))) (mem_cons_self ..) e.symm
 let lo:LoopState->Option Code->Obj:=λ st j=>.loop { state:=st,pending:=j,fn,tmps:=a.tmps,params,assign:=ca,body:=cb,defers:=d }
 have Q:FR N ⟨a.tmps,[]⟩ f []:=⟨rfl,Z.size,Z.get⟩
 have hR:Th S fn params as bd l lo f:=by
  intro vs K U' aj X hw;unfold Zr Instr.yield;rw[Qc];refine Vl (r:={ state:=.ready,pending:=none,fn,tmps:=a.tmps,params,assign:=ca,body:=cb,defers:=d }) X ?_;have ah:¬(vs.toArray.size≠params.size):=by simp[aj]
  simp only[ah,if_false,Qi];show WF S l fn _ ca cb K U';refine WF.of_body ?_
  have ad:FR N ⟨(params.zip vs.toArray).foldl (λ tmps(t,a)=>tmps.setIfInBounds t a) a.tmps,[]⟩ (G7 f params.toList vs) []:=by
   have:=OZ params.toList vs a.tmps f hN Q;rw[<- Array.foldl_toList];simpa using this
  rw[<- aa]at hw;refine Zt.mono (Hh hm ca ad hw) λ e a' U1 z=>?_;obtain⟨ao,am,L,z⟩:=z;cases e with
  |exit i=>exact z.elim
  |ret=>exact z.elim
  |normal=>
   obtain⟨rfl,M₁,B,z⟩:=z;refine⟨rfl,Rr (r:={ state:=.ready,pending:=none,fn,tmps:=a.tmps,params,assign:=ca,body:=cb,defers:=d }) rfl B ?_⟩;rw[<- ab]at z;refine Zt.mono (Hh hm cb L z) λ e al U2 z=>?_;obtain⟨ap,an,ak,z⟩:=z;cases e with
   |normal=>obtain⟨M',B,W⟩:=z;exact KO (r:={ state:=.busy,pending:=none,fn,tmps:=a.tmps,params,assign:=ca,body:=cb,defers:=d }) B W
   |exit i=>obtain⟨M',B,W⟩:=z;exact KO (r:={ state:=.busy,pending:=none,fn,tmps:=a.tmps,params,assign:=ca,body:=cb,defers:=d }) B W
   |ret=>obtain⟨M',B,W⟩:=z;exact KO (r:={ state:=.busy,pending:=none,fn,tmps:=a.tmps,params,assign:=ca,body:=cb,defers:=d }) B W
 have E:=h l d lo hd ae af hR;have ac:a.eval y=.func (.func g) args w:=by rw[Z.eval];exact hc
 have ag:(#[.const (.func (.yield l) #[] #[])]:Array Operand).map a.eval=#[Value.func (.yield l) #[] #[]]:=by simp[Act.eval]
 simp only[resolve,VG,ac,ag,Qc,Deferred.ofValue,Qi,invoke,callFunc,program,Qw];cases V:P.funcs[g]? with
 |none=>simp[V]at hg
 |some fd=>
  simp only[V,Option.any_some,Bool.and_eq_true,bne_iff_ne,ne_eq]at hg;obtain⟨h1,h2⟩:=hg;have H:fd.body.isNone=false:=by cases aq:fd.body <;> simp_all
  have G:(fd.name== "runtime.NumGoroutine")=false:=by simpa using h2
  simp only[G,H,Bool.false_eq_true,if_false,Qi];have e:(args++#[Value.func (.yield l) #[] #[]])++w=(args.toList++[Value.func (.yield l) #[] #[]]++w.toList).toArray:=by apply Array.ext';simp
  rw[e];refine Qb.sep E λ v Y hs I=>⟨Y,.refl _,?_⟩;obtain⟨st,j,M',ai,B,I⟩:=I hs;refine CI (r:={ state:=st,pending:=j,fn,tmps:=a.tmps,params,assign:=ca,body:=cb,defers:=d }) ai B ?_;have F:a.defers=ds:=Z.ds;cases j with
  |none=>simp_all
  |some cd=>
   cases cd with
   |exit i=>exact OU ⟨T1,by simpa[F]using I⟩
   |ret=>exact Tn ⟨T1,by simpa[F]using I⟩
   |_=>exact I.elim
def Q_(n a b:Int):Bool:=decide (a<=n)&&decide (n<=b)
def Hk{x:α}(h:δ[i]?=some x):δ.drop i=x::δ.drop (i+1):=by
 grind[drop_eq_getElem_cons]
def Wm{x:α}(h:δ[i]?=some x):δ.take (i+1)=δ.take i++[x]:=by
 rw[take_add_one,h];rfl
structure TH where
 ea:Option Addr
 el:Nat
 ec:Nat
 ma:Option Addr
 ml:Nat
 mc:Nat
 ka:Option Addr
 kl:Nat
 kc:Nat
def Zo.sees3{o:Nat}(h:Zo U b c)(e:c[o]?=some v):U.sees ((Addr.mk b 0 none).add o) v:=by
 rw[Qu,Nat.zero_add];exact h.sees e
