/- Lemmas. No conditions. -/
import Derived.Test.YtnjljnhoaafkiaaGreatDoorB00
set_option linter.all false
open List
namespace Go
abbrev Operand.t(n:Nat):Operand:=.tmp n
abbrev Operand.ci(n:Int):Operand:=.const (.int .i64 n)
abbrev Operand.cb(b:Bool):Operand:=.const (.bool b)
abbrev Operand.cn:Operand:=.const .nl
end Go
namespace Go.TM
variable{ok L:Bool}{A π:Prop}{T α β κ:Type}{P:Program}{f:Fm}{b N n j len i c0 ty yc:Nat}{q D:Value}{ε:Act}{ds:List Deferred}{S:Sys P T}{fn g:FuncId}{ro:Option Nat}{ops:Array Oper}{todo mu tail dets:List Nat}{I:Ex->Act->Qa T->Prop}{ρ:Oper}{c args tmps:Array Value}{U' U:Qa T}{late:Nat->Bool}{G:Qa T->Prop}{kind:Nat->Nat}{ν:Nat->Nat->Prop}{X:Act->Qa T->Prop}{γ:Qa T->Prop}{vs ws cs:List Value}{σ:Value->Prop}{fd:Func}{Q:Value->Qa T->Prop}{o':Obj}{M M' M₀:List Qw}{a Y:Option Addr}{μ:List α}{K:Value->Qa T->Prop}{s:Sem Value}{B e H E F:TypeId}{θ:Bool->Qa T->Prop}{x y:Operand}{δ:TypeDesc}{τ:α->β->Sem (ForInStep β)}{W:Array Field}{op:BinOp}{V:Unit->Qa T->Prop}{w:Array TypeId}{k:IntKind}{ψ ω:Int}{enc:κ->Value}{υ:Array Value->Qa T->Prop}{ξ:TypeInfo}{r:Loop}{φ:Option Code->Qa T->Prop}{params:Array Tmp}
abbrev O.rw(o:Op)(t:TypeId):O:=.raw { dst:=none,op:=o,type:=t,pos := "", after:=#[],guard:=none }
structure St where
 o:O
 dst:Option Nat
 g:Option (Nat×Bool)
 dfr:Option (Operand×Array Operand):=none
variable{st:St}
abbrev St.d(n:Nat)(o:O):St:=⟨o,some n,none,none⟩
abbrev St.m(n k:Nat):St:=⟨.mv (.tmp k),some n,none,none⟩
abbrev St.u(n j:Nat)(b:Bool)(o:O):St:=⟨o,some n,some (j,b),none⟩
abbrev Zk(T:Type):=Fm->List Deferred->Qa T->Prop
variable{ζ η:Zk T}{χ:Nat->Zk T}
def GB(b f:Bool)(A B:Prop):Prop:=
 match b,f with
 |true,true=>A
 |false,false=>A
 |true,false=>B
 |false,true=>B
def Jt(h:ok=L->A)(w:ok=!L->π):GB ok L A π:=by
 cases ok <;> cases L <;> first|exact h rfl|exact w rfl
def CB(b:Bool)(A B:Prop):Prop:=
 match b with
 |true=>A
 |false=>B
def Qg(h:ok=true->A)(f:ok=false->π):CB ok A π:=by cases ok <;> first|exact h rfl|exact f rfl
def V7(S:Sys P T)(ro:Option Nat)(st:St)(B:Zk T->Zk T)(K:Zk T):Zk T:=λ f ds U=>
  match st.g with
  |some (j,h)=>(match f j with
   |.bool b=>GB b h (OX S st.o (JH f j (.bool h)) (λ v U'=>B K (ZC (JH f j (.bool h)) st.dst v) ds U') U)
     (B K (ZC (JH f j (.bool !h)) st.dst undef) ds U)
   |.tuple _=>B K (ZC f st.dst undef) ds U
   |_=>False)
  |none=>(match st.dfr with
   |some (c,args)=>(match Zf f c with
    |.func fn first w=>ro=none/\B K (ZC f st.dst undef) ({ target:=.fn fn w,args:=first++args.map (Zf f) }::ds) U
    |_=>False)
   |none=>OX S st.o f (λ v U'=>B K (ZC f st.dst v) ds U') U)
def JV(S:Sys P T)(ro:Option Nat)(l:List St):Zk T->Zk T:=List.rec (motive:=λ _=>Zk T->Zk T) (λ K=>K) (λ st _ b=>V7 S ro st b) l
def OY(S:Sys P T)(ro:Option Nat)(st:St)(r:List St)(K:Zk T):JV S ro (st::r) K=V7 S ro st (JV S ro r) K:=rfl
def Vc(S:Sys P T)(G:Qa T->Prop)(kd:Nat)(st:St)(H:(Qa T->Prop)->Zk T->Zk T)(C:Qa T->Prop)(K:Zk T):Zk T:=λ f ds U=>
  let run (f:Fm):Prop:=match kd with
   |0=>OX S st.o f (λ v _=>H C K (ZC f st.dst v) ds U) U
   |1=>∃v,(∀U',U.le U'->C U'->OX S st.o f (λ E B=>E=v/\∃h,Qv B h/\U'.le h) U')/\H C K (ZC f st.dst v) ds U
   |3=>∃v,(∀U',U.le U'->C U'->OX S st.o f (λ E B=>E=v/\∃h,Qv B h/\U'.le h) U')/\(∀U',G U'->OX S st.o f (λ E B=>E=v/\∃h,Qv B h/\U'.le h) U')/\H C K (ZC f st.dst v) ds U
   |_=>∃F:Value->Qa T->Prop,(∀v,XC (F v))/\(∀U',U.le U'->C U'->OX S st.o f (λ E B=>∃h,Qv B h/\F E h/\U'.le h) U') /\
     ∀v,(∃U',U.le U'/\C U'/\F v U')->H (λ U'=>C U'/\F v U') K (ZC f st.dst v) ds U
  match st.g with
  |some (j,w)=>(match f j with
   |.bool b=>GB b w (run (JH f j (.bool w))) (H C K (ZC (JH f j (.bool !w)) st.dst undef) ds U)
   |.tuple _=>H C K (ZC f st.dst undef) ds U
   |_=>False)
  |none=>run f
def DX(S:Sys P T)(G:Qa T->Prop)(l:List (Nat×St)):(Qa T->Prop)->Zk T->Zk T:=
 List.rec (motive:=λ _=>(Qa T->Prop)->Zk T->Zk T) (λ C K f ds U=>∀U',U.le U'->C U'->K f ds U') (λ p _ b=>Vc S G p.1 p.2 b) l
def IM(S:Sys P T)(G:Qa T->Prop)(kd:Nat)(st:St)(r:List (Nat×St)):DX S G ((kd,st)::r)=Vc S G kd st (DX S G r):=rfl
def LS(S:Sys P T)(G:Qa T->Prop)(st:St)(K:Zk T):Zk T:=λ f ds U=>
 OX S st.o f (λ w h=>w=undef/\∃b,Qv h b/\G b) U/\∀U',G U'->K (ZC f st.dst undef) ds U'
def ovr:List (Nat×Value)->Fm->Fm
 |[],f=>f
 |p::l,f=>JH (ovr l f) p.1 p.2
def Xx(f:Fm)(l:List (Nat×Value)):Prop:=List.rec (motive:=λ _=>Prop) True (λ p _ b=>f p.1=p.2/\b) l
def Y4(h:f b=q):JH f b q=f:=by
 funext t;simp only[JH];cases e:Nat.beq t b with
 |true=>rw[Nat.eq_of_beq_eq_true e];exact h.symm
 |false=>rfl
def Xx.ovr{f:Fm}:∀{l:List (Nat×Value)},Xx f l->ovr l f=f
 |[],_=>rfl
 |(d,v)::l,h=>by
  show JH (TM.ovr l f) d v=f;rw[Xx.ovr h.2];exact Y4 h.1
structure FR(N:Nat)(a:Act)(f:Fm)(ds:List Deferred):Prop where
 ds:a.defers=ds
 size:a.tmps.size=N
 get:∀t,a.tmps.getD t undef=f t
def FR.eval{N:Nat}{a:Act}{f:Fm}{ds:List Deferred}(h:FR N a f ds)(x:Operand):a.eval x=Zf f x:=by
 cases x with
 |tmp t=>exact h.get t
 |_=>rfl
def FR.put{N:Nat}{a:Act}{f:Fm}{ds:List Deferred}(h:FR N a f ds)(dst:Option Nat)(v:Value)(w:∀d,dst=some d->d<N):FR N (a.put dst v) (ZC f dst v) ds:=by
 cases dst with
 |none=>exact h
 |some d=>
  have b:=w d rfl;refine⟨h.ds,by simpa[Act.put]using h.size,λ t=>?_⟩;simp only[Act.put,ZC,JH,Array.getD_eq_getD_getElem?,Array.getElem?_setIfInBounds];by_cases e:d=t
  .subst e;have:d<a.tmps.size:=by rw[h.size];exact b
   simp[this]
  .have e':Nat.beq t d=false:=by cases hb:Nat.beq t d with|false=>rfl|true=>exact absurd (Nat.eq_of_beq_eq_true hb).symm e
   have:=h.get t;simp only[Array.getD_eq_getD_getElem?]at this;simp[e,e',this]
def FR.slot(h:FR N ε f ds)(w:f n=.bool ok):ε.tmps[n]?=some (.bool ok):=by
 have:=h.get n;rw[w,Array.getD_eq_getD_getElem?]at this;cases hx:ε.tmps[n]? with
 |none=>rw[hx]at this;cases this
 |some v=>rw[hx]at this;simpa using this
inductive C where
 |skip
 |seq (x y:C)
 |ite (c:Operand) (x y:C)
 |block (id:Nat) (b:C)
 |loop (b:C)
 |exit (id:Nat)
 |ret
 |scope (b:C)
 |reg (l:List St)
 |drw (qs:List (Nat×St)) (ts:List St)
 |drs (qs:List (Nat×St)) (st:St) (ts:List St)
 |rng (N:Nat) (mu dets:List Nat) (f:Operand) (params:Array Tmp) (assign body:C)
 |cd (N:Nat) (c:Code)
 |bad
variable{cc as:C}
def Jg(P:Program)(mu:List Nat)(ops:Array Oper)(o:Oper):Option St:=
 match o.op,o.guard with
 |.defer { callee:=.value c,args,.. },none=>some ⟨.mv c,o.dst,none,some (c,args)⟩
 |.defer _,_=>none
 |_,none=>some ⟨Q5 P mu o,o.dst,none,none⟩
 |_,some (j,w)=>(match(ops[j]?).bind (·.dst)with
  |some d=>some ⟨Q5 P mu o,o.dst,some (d,w),none⟩
  |none=>none)
def stable:O->Bool
 |.mv _|.pick ..|.add ..|.sub ..|.mul ..|.cmp ..|.beq ..|.ar ..|.teq ..|.not _|.len _|.lenT _|.conv ..|.off ..|.idx ..|.aidx ..|.sidx ..|.ld _|.ldn ..|.ext ..|.part ..|.part1 ..|.mkf ..|.nilc _|.sub3 ..|.build ..=>true
 |_=>false
def HQ:O->Bool
 |.ld _|.ldn ..=>true
 |_=>false
def LQ:O->Bool
 |.st ..=>true
 |_=>false
def GO(N:Nat)(o:Oper):Bool:=match o.dst with|some d=>decide (d<N)|none=>true
def PZ(ops:Array Oper)(b:Nat->Bool):Nat->List Nat->List Nat->List Nat
 |0,_,done=>done
 |n+1,left,done=>
  let ready:=left.filter λ i=>(Wt ops i).all done.contains
  match ready.find? (λ i=>!b i)with
  |some i=>PZ ops b n (left.filter (· != i)) (done++[i])
  |none=>(match ready with
   |i::_=>PZ ops b n (left.filter (· != i)) (done++[i])
   |[]=>done)
def W6(ops:Array Oper):Nat->Nat
 |0=>0
 |k+1=>if(range k).all (λ j=>((X2 ops ops.size).getD k 0).testBit j)then W6 ops k else k+1
def X9(P:Program)(mu dets:List Nat)(ops:Array Oper)(i:Nat):Bool:=
 match ops[i]? with
 |some o=>!stable (Q5 P mu o)&&!((o.dst.map dets.contains).getD false)
 |none=>false
def Yi(P:Program)(mu:List Nat)(ops:Array Oper)(rl:List Nat)(i:Nat):Nat:=
 if rl.contains i then 2 else match ops[i]? with
  |some o=>if stable (Q5 P mu o)then 0 else 1
  |none=>1
def Yw(ops:Array Oper)(x j:Nat):Bool:=!((X2 ops ops.size).getD x 0).testBit j
def GW(P:Program)(mu:List Nat)(ops:Array Oper)(rl:List Nat)(x i:Nat):Nat:=
 if rl.contains i then 2 else match ops[i]? with
  |some o=>if stable (Q5 P mu o)&&(!HQ (Q5 P mu o)|| !Yw ops x i)then 0 else if Yw ops x i then 3 else 1
  |none=>3
def YW(P:Program)(mu:List Nat)(N:Nat)(dets:List Nat)(ops:Array Oper)(f:Bool):C:=
 if !ops.all (GO N)then .bad else
 match f with
 |false=>(match(range ops.size).mapM (λ i=>(ops[i]?).bind (Jg P mu ops))with|some l=>.reg l|none=>.bad)
 |true=>
  let k:=W6 ops ops.size
  let qs:=PZ ops (X9 P mu dets ops) ops.size (range k) []
  let ts:=(range ops.size).drop k
  let rl:=(range k).filter (X9 P mu dets ops)
  if !PY ops rl qs ts|| !rl.all (λ i=>((ops[i]?).map (·.guard.isNone)).getD true)then .bad else
  match qs.getLast?.bind λ x=>((ops[x]?).bind (Jg P mu ops)).bind λ st=>if rl.contains x&&LQ st.o&&st.g.isNone&&st.dfr.isNone then some (x,st)else none with
  |some (x,st)=>(match qs.dropLast.mapM (λ i=>((ops[i]?).bind (Jg P mu ops)).map λ st=>(GW P mu ops rl x i,st)),ts.mapM (λ i=>(ops[i]?).bind (Jg P mu ops))with
   |some a,some b=>if a.all (λ x=>x.2.dfr.isNone)then .drs a st b else .bad
   |_,_=>.bad)
  |none=>
  match qs.mapM (λ i=>((ops[i]?).bind (Jg P mu ops)).map λ st=>(Yi P mu ops rl i,st)),ts.mapM (λ i=>(ops[i]?).bind (Jg P mu ops))with
  |some a,some b=>if a.all (λ x=>x.2.dfr.isNone)then .drw a b else .bad
  |_,_=>.bad
def kC:Op->Bool
 |.go _=>true
 |_=>false
def km:Op->Bool
 |.mapEntry ..=>true
 |_=>false
def Uq(ops:Array Oper):Bool:=ops.any λ o=>kC o.op|| km o.op
def clean(P:Program)(mu:List Nat)(N:Nat)(dets:List Nat):Code->C
 |.skip=>.skip
 |.label _=>.skip
 |.seq a b=>.seq (clean P mu N dets a) (clean P mu N dets b)
 |.cond c a b=>.ite c (clean P mu N dets a) (clean P mu N dets b)
 |.block id b=>.block id (clean P mu N dets b)
 |.loop b=>.loop (clean P mu N dets b)
 |.exit i=>.exit i
 |.ret=>.ret
 |.scope b=>.scope (clean P mu N dets b)
 |.region id ops d=>if Uq ops|| mu.contains (1000+id)then .cd N (.region id ops d)else match YW P mu N dets ops d with
  |.bad=>.cd N (.region id ops d)
  |c=>c
 |.rangeFunc f ps as h=>.rng N mu dets f ps (clean P mu N dets as) (clean P mu N dets h)
 |.goto _=>.bad
 |.refuse _=>.bad
def kn(b:Zk T->(Nat->Zk T)->Zk T->Zk T)(x:Nat->Zk T)(r:Zk T):Zk T:=λ f ds U=>
 ∃(α:Type)(L:α->List (Nat×Value))(I:α->Qa T->Prop)(μ:α->Nat)(h:α),Xx f (L h)/\I h U /\
   ∀y f U,I y U->b (λ E w U'=>w=ds/\∃B,Xx E (L B)/\I B U'/\μ B<μ y) x r (ovr (L y) f) ds U
def UE(c:Operand)(a b:Zk T):Zk T:=λ f ds U=>(match Zf f c with
  |.bool t=>CB t (a f ds U) (b f ds U)
  |_=>False)
def Wo(S:Sys P T)(fn:FuncId)(ro:Option Nat)(N:Nat)(mu dets:List Nat)(c:Operand)(params:Array Tmp)(as b:C)(n:Zk T)(x:Nat->Zk T)(r:Zk T):Zk T:=λ f ds U=>
 ∀ca cb:Code,clean P mu N dets ca=as->clean P mu N dets cb=b->∀a:Act,FR N a f ds ->
   Zq S fn ro (.rangeFunc c params ca cb) (λ e a' U'=>a'.tmps=a.tmps/\(match e with|.normal=>n f a'.defers U'|.exit i=>x i f a'.defers U'|.ret=>r f a'.defers U')) a U
def UF(S:Sys P T)(fn:FuncId)(ro:Option Nat)(N:Nat)(c:Code)(n:Zk T)(x:Nat->Zk T)(r:Zk T):Zk T:=λ f ds U=>
 ∀a:Act,FR N a f ds ->
   Zq S fn ro c (λ e a' U'=>a'.tmps.size=a.tmps.size/\∃b,(∀t,a'.tmps.getD t undef=b t)/\(match e with|.normal=>n b a'.defers U'|.exit i=>x i b a'.defers U'|.ret=>r b a'.defers U')) a U
def ZT(S:Sys P T)(fn:FuncId)(ro:Option Nat)(c:C):Zk T->(Nat->Zk T)->Zk T->Zk T:=
 C.rec (motive:=λ _=>Zk T->(Nat->Zk T)->Zk T->Zk T)
  (λ n _ _=>n)
  (λ _ _ a b n x r=>a (b n x r) x r)
  (λ c _ _ a b n x r=>UE c (a n x r) (b n x r))
  (λ id _ b n x r=>b n (λ i f ds U=>bif Nat.beq i id then n f ds U else x i f ds U) r)
  (λ _ b _ x r=>kn b x r)
  (λ i _ x _=>x i)
  (λ _ _ r=>r)
  (λ _ b n x r=>b n x r)
  (λ l n _ _=>JV S ro l n)
  (λ qs ts n _ _=>DX S (λ _=>False) qs (λ _=>True) (JV S ro ts n))
  (λ qs st ts n _ _ f ds U=>∃G,XC G/\DX S G qs (λ _=>True) (LS S G st (JV S ro ts n)) f ds U)
  (λ N mu dets c params as h _ _ n x r=>Wo S fn ro N mu dets c params as h n x r)
  (λ N c n x r=>UF S fn ro N c n x r)
  (λ _ _ _ _ _ _=>False) c
def Qa.sees.le{U U':Qa T}{a:Addr}{v:Value}(h:U.sees a v)(hl:U.le U'):U'.sees a v:=by
 obtain⟨b,⟨c,t,fr,hb,f⟩|⟨t,n,hm⟩⟩:=h
 .exact⟨b,.inl ⟨c,t,fr,hb.imp (hl.imm _ _) (λ h=>hl.own▸h),f⟩⟩
 .exact⟨b,.inr ⟨t,n,hl.own▸hm⟩⟩
def Je.le{U U':Qa T}{a:Addr}{vs:List Value}(h:Je U a vs)(hl:U.le U'):Je U' a vs:=λ i v b=>(h i v b).le hl
def ZG.mono{K h:Value->Qa T->Prop}(f:∀v U,K v U->h v U){n:Next}{U:Qa T}(b:ZG S K n U):ZG S h n U:=by
 cases n <;> first|exact f _ _ b|exact Qb.mono b f|exact WC.mono b f|exact b
def OX.mono{o:O}{f:Fm}{K F:Value->Qa T->Prop}{U:Qa T}(w:∀v U,K v U->F v U)(h:OX S o f K U):OX S o f F U:=by
 cases o with
 |raw o=>exact λ a ha=>Qq.mono _ (h a ha) λ n U E=>ZG.mono (λ v U⟨B,h1,h2⟩=>⟨B,h1,w _ _ h2⟩) E
 |call c args=>
  simp only[OX]at h ⊢;split at h
  .simp only[J4]at h ⊢;exact⟨h.1,h.2.mono λ v U h H=>w v U (h H)⟩
  .simp only[J4]at h ⊢;exact Qq.mono _ h λ n U E=>ZG.mono w E
  .exact h
 |st n x v=>
  simp only[OX]at h ⊢;split at h
  .exact⟨h.1,QX.mono (λ U⟨B,a,b⟩=>⟨B,a,w _ B b⟩) _ _ _ h.2⟩
  .exact h
 |box t x=>simp only[OX,OI]at h ⊢;exact λ b B hl hb=>w _ _ (h b B hl hb)
 |boxM t x=>exact λ b hb=>w _ _ (h b hb)
 |alloc t z=>exact λ b hb=>let ⟨B,a,b⟩:=h b hb;⟨B,a,w _ _ b⟩
 |bsl t len z ps=>
  simp only[OX,HJ,Array.toArray_toList]at h ⊢;split at h
  .exact λ b hb=>let ⟨B,a,b⟩:=h b hb;⟨B,a,w _ _ b⟩
  .exact h
 |lenM x=>
  simp only[OX]at h ⊢;split at h
  .exact w _ _ h
  .obtain⟨a,b,c,d⟩:=h;exact⟨a,b,c,w _ _ d⟩
  .exact h
 |mv x=>simp only[OX,Qy]at h ⊢;exact w _ _ h
 |mkf fn first G=>simp only[OX,J4]at h ⊢;exact w _ _ h
 |pick c a b=>
  simp only[OX,Qy]at h ⊢;split at h
  .exact w _ _ h
  .exact w _ _ h
  .exact h
 |ext x i=>
  simp only[OX,Qy]at h ⊢;split at h
  .split at h
   .exact w _ _ h
   .exact h
  .exact h
 |part1 off x=>
  simp only[OX,Qy]at h ⊢;split at h
  .split at h
   .exact w _ _ h
   .exact h
  .exact h
 |ld x=>
  simp only[OX,Qy]at h ⊢;split at h
  .obtain⟨v,a,b⟩:=h;exact⟨v,a,w _ _ b⟩
  .exact h
 |ldn n x=>
  simp only[OX]at h ⊢;split at h
  .obtain⟨v,a,b⟩:=h;exact⟨v,a,w _ _ b⟩
  .exact h
 |sidx x i=>
  simp only[OX]at h ⊢;split at h
  .obtain⟨j,v,a,b⟩:=h;exact⟨j,v,a,w _ _ b⟩
  .exact h
 |idx n x i=>
  simp only[OX]at h ⊢;split at h
  .obtain⟨ad,j,a,b⟩:=h;exact⟨ad,j,a,w _ _ b⟩
  .exact h
 |aidx n m x i=>
  simp only[OX]at h ⊢;split at h
  .obtain⟨j,a,b⟩:=h;exact⟨j,a,w _ _ b⟩
  .exact h
 |sub3 sz x lo hi=>
  simp only[OX]at h ⊢;split at h
  .split at h
   .obtain⟨l,hh,a,b⟩:=h;exact⟨l,hh,a,w _ _ b⟩
   .exact h
  .exact h
 |build z ps=>
  simp only[OX,HJ,Array.toArray_toList]at h ⊢;split at h
  .exact w _ _ h
  .exact h
 |cmp op x y=>
  simp only[OX]at h ⊢;split at h
  .refine⟨h.1,?_⟩;cases op <;> first|exact h.2.elim|exact w _ _ h.2
  .exact h
 |beq op x y=>
  simp only[OX]at h ⊢;split at h
  .cases op <;> first|exact h.elim|exact w _ _ h
  .exact h
 |teq op x y=>
  simp only[OX]at h ⊢;split at h
  .cases op <;> first|exact h.elim|exact w _ _ h
  .exact h
 |ar op x y=>
  simp only[OX]at h ⊢;split at h
  .cases op <;> first|exact h.elim|exact⟨h.1,h.2.1,w _ _ h.2.2⟩|exact⟨h.1,w _ _ h.2⟩
  .exact h
 |_=>
  simp only[OX]at h ⊢;split at h
  .first|exact⟨h.1,w _ _ h.2⟩|exact w _ _ h
  .exact h
def OX.stable{o:O}{f:Fm}{K:Value->Qa T->Prop}{U:Qa T}(B:stable o=true)(h:OX S o f K U):∃v,K v U/\∀(U':Qa T)(w:Value->Qa T->Prop),(HQ o=false\/U.le U')->w v U'->OX S o f w U':=by
 cases o with
 |raw o=>cases B
 |call c args=>cases B
 |st n x v=>cases B
 |box t x=>cases B
 |boxM t x=>cases B
 |alloc t z=>cases B
 |bsl t len z ps=>cases B
 |lenM x=>cases B
 |mv x=>simp only[OX,Qy]at h;exact⟨_,h,λ _ _ _ k=>by simpa only[OX,Qy]using k⟩
 |mkf fn first E=>simp only[OX,J4]at h;exact⟨_,h,λ _ _ _ k=>by simpa only[OX,J4]using k⟩
 |pick c a b=>
  simp only[OX,Qy]at h;split at h <;> rename_i e
  .exact⟨_,h,λ _ _ _ k=>by simpa[OX,Qy,e]using k⟩
  .exact⟨_,h,λ _ _ _ k=>by simpa[OX,Qy,e]using k⟩
  .exact h.elim
 |ext x i=>
  simp only[OX,Qy]at h;split at h <;> rename_i e
  .split at h <;> rename_i e'
   .exact⟨_,h,λ _ _ _ k=>by simpa[OX,Qy,e,e']using k⟩
   .exact h.elim
  .exact h.elim
 |part1 off x=>
  simp only[OX,Qy]at h;split at h <;> rename_i e
  .split at h <;> rename_i e'
   .exact⟨_,h,λ _ _ _ k=>by simpa[OX,Qy,e,e']using k⟩
   .exact h.elim
  .exact h.elim
 |ld x=>
  simp only[OX,Qy]at h;split at h <;> rename_i e
  .obtain⟨v,a,b⟩:=h;exact⟨v,b,λ U' w hl k=>by simp only[OX,Qy,e];exact⟨v,a.le (hl.resolve_left (by simp[HQ])),k⟩⟩
  .exact h.elim
 |ldn n x=>
  simp only[OX]at h;split at h <;> rename_i e
  .obtain⟨v,a,b⟩:=h;exact⟨_,b,λ U' w hl k=>by simp only[OX,Qy,e];exact⟨v,⟨a.1,a.2.le (hl.resolve_left (by simp[HQ]))⟩,k⟩⟩
  .exact h.elim
 |sidx x i=>
  simp only[OX]at h;split at h
  .rename_i e e';obtain⟨j,v,a,b⟩:=h;exact⟨_,b,λ U' w hl k=>by simp only[OX,Qy,e,e'];exact⟨j,v,a,k⟩⟩
  .exact h.elim
 |sub3 sz x lo hi=>
  simp only[OX]at h;split at h <;> rename_i e
  .split at h <;> rename_i e'
   .obtain⟨l,hh,a,b⟩:=h;exact⟨_,b,λ U' w hl k=>by simp only[OX,Qy,e,e'];exact⟨l,hh,a,k⟩⟩
   .exact h.elim
  .exact h.elim
 |build z ps=>
  simp only[OX,HJ,Array.toArray_toList]at h;split at h <;> rename_i e
  .exact⟨_,h,λ U' w hl k=>by simp only[OX,Qy,HJ,Array.toArray_toList,e];exact k⟩
  .exact h.elim
 |cmp op x y=>
  simp only[OX]at h;split at h
  .rename_i e e';obtain⟨G,h⟩:=h;cases op <;> first|exact h.elim|exact⟨_,h,λ U' w hl k=>by simp only[OX,Qy,e,e'];exact⟨G,k⟩⟩
  .exact h.elim
 |beq op x y=>
  simp only[OX]at h;split at h
  .rename_i e e';cases op <;> first|exact h.elim|exact⟨_,h,λ U' w hl k=>by simp only[OX,Qy,e,e'];exact k⟩
  .exact h.elim
 |teq op x y=>
  simp only[OX]at h;split at h
  .rename_i e e';cases op <;> first|exact h.elim|exact⟨_,h,λ U' w hl k=>by simp only[OX,Qy,e,e'];exact k⟩
  .exact h.elim
 |ar op x y=>
  simp only[OX]at h;split at h
  .rename_i e e'
   cases op <;> first
    |exact h.elim
    |exact⟨_,h.2.2,λ U' w hl k=>by simp only[OX,Qy,e,e'];exact⟨h.1,h.2.1,k⟩⟩
    |exact⟨_,h.2,λ U' w hl k=>by simp only[OX,Qy,e,e'];exact⟨h.1,k⟩⟩
  .exact h.elim
 |add x y=>simp only[OX]at h;split at h;{ rename_i e e';exact⟨_,h.2,λ U' w hl k=>by simp only[OX,Qy,e,e'];exact⟨h.1,k⟩⟩ };exact h.elim
 |sub x y=>simp only[OX]at h;split at h;{ rename_i e e';exact⟨_,h.2,λ U' w hl k=>by simp only[OX,Qy,e,e'];exact⟨h.1,k⟩⟩ };exact h.elim
 |mul x y=>simp only[OX]at h;split at h;{ rename_i e e';exact⟨_,h.2,λ U' w hl k=>by simp only[OX,Qy,e,e'];exact⟨h.1,k⟩⟩ };exact h.elim
 |idx n x y=>simp only[OX]at h;split at h;{ rename_i e e';obtain⟨F,j,a,b⟩:=h;exact⟨_,b,λ U' w hl k=>by simp only[OX,Qy,e,e'];exact⟨F,j,a,k⟩⟩ };exact h.elim
 |aidx n m x y=>simp only[OX]at h;split at h;{ rename_i e e';obtain⟨j,a,b⟩:=h;exact⟨_,b,λ U' w hl k=>by simp only[OX,Qy,e,e'];exact⟨j,a,k⟩⟩ };exact h.elim
 |_=>
  simp only[OX]at h;split at h <;> rename_i e
  .exact⟨_,h,λ U' w hl k=>by simp only[OX,Qy,e];exact k⟩
  .exact h.elim
def gW{A:Value->Act}:∀v U U',Qv U U'->QU S fn ro ops todo I (A v) U'->QU S fn ro ops todo I (A v) U:=λ _ _ _ b h=>Gj b h
inductive Ye(P:Program)(mu:List Nat)(ops:Array Oper)(o:Oper):St->Prop
 |plain:(∀c,o.op≠.defer c)->o.guard=none->Ye P mu ops o ⟨Q5 P mu o,o.dst,none,none⟩
 |guarded {j:Nat} {w:Bool} {d:Nat}:(∀c,o.op≠.defer c)->o.guard=some (j,w)->(ops[j]?).bind (·.dst)=some d->Ye P mu ops o ⟨Q5 P mu o,o.dst,some (d,w),none⟩
 |dfr {c:Operand} {args:Array Operand} {ats:Array TypeId}:o.op=.defer { callee:=.value c,args:=args,argTypes:=ats }->o.guard=none->Ye P mu ops o ⟨.mv c,o.dst,none,some (c,args)⟩
def Vd(h:Jg P mu ops ρ=some st):Ye P mu ops ρ st:=by
 unfold Jg at h;split at h
 .rename_i ho hg;cases h;exact .dfr ho hg
 .cases h
 .rename_i hg hnd0 hnd;cases h;exact .plain (λ c b=>hnd c b) hg
 .rename_i j w hg hnd;split at h
  .rename_i hd;cases h;exact .guarded (λ c b=>hnd c b) hg hd
  .cases h
def Wl(b:ρ.guard=none):Region.wanted ρ (yielded ops ε.tmps)=true:=by simp[Region.wanted,b]
def O4{o:Oper}(h:o.guard=some (j,ok))(f:(ops[j]?).bind (·.dst)=some N)(B:ε.tmps[N]?=some (.bool L)) :
  Region.wanted o (yielded ops ε.tmps)=(L==ok):=by
 simp only[Region.wanted,h,yielded,f,Option.bind_some,B];cases L <;> cases ok <;> rfl
def On(hf:FR N ε f ds)(h:ρ.guard=some (j,ok))(b:(ops[j]?).bind (·.dst)=some n)(B:f n=.tuple c) :
  Region.wanted ρ (yielded ops ε.tmps)=false:=by
 have:=hf.get n;rw[B,Array.getD_eq_getD_getElem?]at this
 have hy:yielded ops ε.tmps j=none:=by
  simp only[yielded,b,Option.bind_some];cases hx:ε.tmps[n]? with
  |none=>rfl
  |some v=>
   rw[hx]at this;simp only[Option.getD_some]at this;subst this;rfl
 simp only[Region.wanted,h,hy];cases ok <;> rfl
def PR{Q:Ex->Act->Qa T->Prop}{n:Zk T}(hQ:∀a f ds U,FR N a f ds->n f ds U->Q .normal a U)(Z:∀(i:Nat)(o:Oper),ops[i]?=some o->∀d,o.dst=some d->d<N) :
  ∀(B:List Nat)(l:List St),B.mapM (λ i=>(ops[i]?).bind (Jg P mu ops))=some l ->
   ∀(a:Act)(f:Fm)(ds:List Deferred)(U:Qa T),FR N a f ds->JV S ro l n f ds U->QU S fn ro ops B Q a U:=by
 intro B
 induction B with
 |nil=>
  intro l hl a f ds U hf h;simp at hl;subst hl;exact Ly (hQ a f ds U hf h)
 |cons i B M=>
  intro l hl a f ds U hf h;simp only[mapM_cons,Option.pure_def,Option.bind_eq_bind,Option.bind_eq_some_iff]at hl;obtain⟨st,⟨o,G,X⟩,l',hl',e⟩:=hl;cases e;have I:=Z i o G
  have step:∀{f:Fm},FR N a f ds->(∀c,o.op≠.defer c)->Region.wanted o (yielded ops a.tmps)=true->OX S (Q5 P mu o) f (λ v U'=>JV S ro l' n (ZC f o.dst v) ds U') U->QU S fn ro ops (i::B) Q a U:=by
   intro f hf E H h;refine XS G H (.inr E) (QK.opV (W1 (λ x=>hf.eval x) gW (OX.mono (λ v U' hv=>?_) h)));exact M l' hl' _ _ _ _ (hf.put o.dst v I) hv
  cases Vd X with
  |plain E F=>simp only[OY,V7]at h;exact step hf E (Wl F) h
  |@guarded j w d E F K=>
   simp only[OY,V7]at h;split at h
   .rename_i b hb;have H:=O4 (ops:=ops) (o:=o) F K (hf.slot hb);have e:JH f d (.bool b)=f:=Y4 hb;cases b <;> cases w <;> simp only[GB,Bool.not_true,Bool.not_false]at h <;> rw[e]at h
    .exact step hf E (by rw[H];rfl) h
    .exact P2 G (by rw[H];rfl) (M l' hl' _ _ _ _ (hf.put o.dst undef I) h)
    .exact P2 G (by rw[H];rfl) (M l' hl' _ _ _ _ (hf.put o.dst undef I) h)
    .exact step hf E (by rw[H];rfl) h
   .rename_i vs hb;exact P2 G (On hf F K hb) (M l' hl' _ _ _ _ (hf.put o.dst undef I) h)
   .exact h.elim
  |@dfr c args Y W F=>
   simp only[OY,V7]at h;split at h
   .rename_i g first capt e
    obtain⟨L,h⟩:=h;have V:a.eval=Zf f:=funext hf.eval;refine XS G (Wl F) (.inl L) ?_;unfold G0;simp only[execOp,W,Qd,resolve,V,e,Deferred.ofValue,Qi,Ys];refine⟨L,M l' hl' _ _ _ _ ?_ h⟩;have h1:FR N { a with defers:={ target:=.fn g capt,args:=first++args.map (Zf f) }::a.defers } f ({ target:=.fn g capt,args:=first++args.map (Zf f) }::ds):=⟨by rw[hf.ds],hf.size,hf.get⟩;exact h1.put o.dst undef I
   .exact h.elim
def Jq:∀(w:Value)(f h:Qa T),Qv f h->(w=q/\∃b,Qv h b/\U'.le b)->(w=q/\∃b,Qv f b/\U'.le b):=
 λ _ _ _ B⟨e,b,h1,h2⟩=>⟨e,b,B.trans h1,h2⟩
def L9{Fin:Act->Qa T->Prop}{K:Zk T}{rl:List Nat}{B:Nat->Nat->Prop}(af:∀a f ds H,FR N a f ds->(∀U',U.le U'->H U'->K f ds U')->ZV S ops rl B late G U Fin tail H a)(hN:∀(i:Nat)(o:Oper),ops[i]?=some o->∀d,o.dst=some d->d<N)
  (aa:∀i,kind i=0\/kind i=1\/kind i=3->i∉rl) (ai:∀i,kind i≠0->kind i≠1->kind i≠3->i∈rl) (ae:∀i,kind i=0->∀o,ops[i]?=some o->stable (Q5 P mu o)=true/\(late i=true->HQ (Q5 P mu o)=false)) (ah:∀i,kind i=1->late i=false) :
  ∀(E:List Nat)(l:List (Nat×St)),E.mapM (λ i=>((ops[i]?).bind (Jg P mu ops)).map λ st=>(kind i,st))=some l->(l.all λ x=>x.2.dfr.isNone)=true->(∀i∈E,∀o,ops[i]?=some o->o.guard=none\/i∉rl) ->
   ∀(a:Act)(f:Fm)(ds:List Deferred)(H:Qa T->Prop),FR N a f ds->DX S G l H K f ds U->ZV S ops rl B late G U Fin (E++tail) H a:=by
 intro E
 induction E with
 |nil=>
  intro l hl _ _ a f ds H hf h;simp at hl;subst hl;exact af a f ds H hf h
 |cons i E ih=>
  intro l hl Q ad a f ds H hf h;simp only[mapM_cons,Option.pure_def,Option.bind_eq_bind,Option.bind_eq_some_iff,Option.map_eq_some_iff]at hl;obtain⟨x,⟨st,⟨o,V,Y⟩,rfl⟩,l',hl',e⟩:=hl;cases e;simp only[all_cons,Bool.and_eq_true]at Q;have hd:=hN i o V;have L:=ih l' hl' Q.2 (λ j hj=>ad j (mem_cons_of_mem _ hj))
  have run:∀{f:Fm},FR N a f ds->Region.wanted o (yielded ops a.tmps)=true ->
    (match kind i with
     |0=>OX S (Q5 P mu o) f (λ v _=>DX S G l' H K (ZC f o.dst v) ds U) U
     |1=>∃v,(∀U',U.le U'->H U'->OX S (Q5 P mu o) f (λ v' U2=>v'=v/\∃M,Qv U2 M/\U'.le M) U')/\DX S G l' H K (ZC f o.dst v) ds U
     |3=>∃v,(∀U',U.le U'->H U'->OX S (Q5 P mu o) f (λ v' U2=>v'=v/\∃M,Qv U2 M/\U'.le M) U')/\(∀U',G U'->OX S (Q5 P mu o) f (λ v' U2=>v'=v/\∃M,Qv U2 M/\U'.le M) U')/\DX S G l' H K (ZC f o.dst v) ds U
     |_=>∃F:Value->Qa T->Prop,(∀v,XC (F v))/\(∀U',U.le U'->H U'->OX S (Q5 P mu o) f (λ v' U2=>∃M,Qv U2 M/\F v' M/\U'.le M) U') /\
       ∀v,(∃U',U.le U'/\H U'/\F v U')->DX S G l' (λ U'=>H U'/\F v U') K (ZC f o.dst v) ds U)->ZV S ops rl B late G U Fin (i::(E++tail)) H a:=by
   intro f hf Z h;split at h
   .rename_i hk;obtain⟨v,hn,Y⟩:=OX.stable (ae i hk o V).1 h;refine .det v (aa i (.inl hk)) V Z (λ U' I _=>?_) (λ X U' _=>?_) (L _ _ _ _ (hf.put o.dst v hd) hn)
    .exact W1 (λ x=>hf.eval x) Jq (Y U' _ (.inr I) ⟨rfl,U',.refl _,.refl _⟩)
    .exact W1 (λ x=>hf.eval x) Jq (Y U' _ (.inl ((ae i hk o V).2 X)) ⟨rfl,U',.refl _,.refl _⟩)
   .rename_i hk;obtain⟨v,W,hn⟩:=h;refine .det v (aa i (.inr (.inl hk))) V Z (λ U' I hc=>?_) (λ X=>by rw[ah i hk]at X;cases X) (L _ _ _ _ (hf.put o.dst v hd) hn);exact W1 (λ x=>hf.eval x) Jq (W U' I hc)
   .rename_i hk;obtain⟨v,W,ag,hn⟩:=h;refine .det v (aa i (.inr (.inr hk))) V Z (λ U' I hc=>?_) (λ _ U' hg=>?_) (L _ _ _ _ (hf.put o.dst v hd) hn)
    .exact W1 (λ x=>hf.eval x) Jq (W U' I hc)
    .exact W1 (λ x=>hf.eval x) Jq (ag U' hg)
   .rename_i h0 h1 h3;obtain⟨F,hF,W,hn⟩:=h;refine .rel F (ai i (λ e=>h0 e) (λ e=>h1 e) (λ e=>h3 e)) hF V Z (λ U' I hc=>?_) (λ v hv=>L _ _ _ _ (hf.put o.dst v hd) (hn v hv));exact W1 (λ x=>hf.eval x) (λ v' U2 U3 hs⟨M,a,b,c⟩=>⟨M,hs.trans a,b,c⟩) (W U' I hc)
  cases Vd Y with
  |plain aj hg=>simp only[IM,Vc]at h;exact run hf (Wl hg) h
  |@guarded j w d aj hg ac=>
   simp only[IM,Vc]at h;have ab:i∉rl:=(ad i (mem_cons_self ..) o V).resolve_left (by rw[hg];simp);split at h
   .rename_i b hb;have Z:=O4 (ops:=ops) (o:=o) hg ac (hf.slot hb);have e:JH f d (.bool b)=f:=Y4 hb;cases b <;> cases w <;> simp only[GB,Bool.not_true,Bool.not_false]at h <;> rw[e]at h
    .exact run hf (by rw[Z];rfl) h
    .exact .un ab V (by rw[Z];rfl) (L _ _ _ _ (hf.put o.dst undef hd) h)
    .exact .un ab V (by rw[Z];rfl) (L _ _ _ _ (hf.put o.dst undef hd) h)
    .exact run hf (by rw[Z];rfl) h
   .rename_i vs hb;exact .un ab V (On hf hg ac hb) (L _ _ _ _ (hf.put o.dst undef hd) h)
   .exact h.elim
  |dfr=>simp at Q
def Gz(N:Nat)(n:Zk T)(x:Nat->Zk T)(r:Zk T)(e:Ex)(a:Act)(U:Qa T):Prop:=
 ∃f ds,FR N a f ds/\(match e with|.normal=>n f ds U|.exit i=>x i f ds U|.ret=>r f ds U)
def ZV.fin{Fin:Act->Qa T->Prop}(I:∀ε U,Fin ε U->X ε U)(h:ZV S ops mu ν late G U Fin dets γ ε):ZV S ops mu ν late G U X dets γ ε:=by
 induction h with
 |nil h=>exact .nil λ U' ε b=>I _ _ (h U' ε b)
 |un ε b c _ E=>exact .un ε b c E
 |det v ε b c d e _ E=>exact .det v ε b c d e E
 |rel F ε b c d e _ E=>exact .rel F ε b c d e E
 |last ε b c d e f g=>exact .last ε b c d e f λ hx U' h=>I _ _ (g hx U' h)
def gH{G:Type}{c:Code}{Q:Ex->Act->Qa T->Prop}(I:G->Act->Qa T->Prop)(μ:G->Nat){g:G}(E:I g ε U)
  (round:∀g ε U,I g ε U->Zq S fn ro c (λ e a' U'=>match e with|.normal=>∃g',I g' a' U'/\μ g'<μ g|e=>Q e a' U') ε U):Zq S fn ro (.loop c) Q ε U:=by
 intro Stop m b k cs hb h;refine .still rfl (λ _=>vk) ?_
 have key:∀N g ε U,μ g<=N->I g ε U->J S Stop m (R b ε (.code c::.inLoop c::k) cs) U:=by
  intro N
  induction N with
  |zero=>
   intro g ε U F w;refine round g ε U w Stop m b (.inLoop c::k) cs hb λ e a' U' q=>?_;cases e with
   |normal=>obtain⟨g',_,f⟩:=q;exact absurd f O1
   |exit id=>exact(h _ _ _ q).push (λ _ _=>rfl) S1
   |ret=>exact(h _ _ _ q).push (x:=.inLoop c) (λ _ _=>rfl) S1
  |succ N H=>
   intro g ε U F w;refine round g ε U w Stop m b (.inLoop c::k) cs hb λ e a' U' q=>?_;cases e with
   |normal=>obtain⟨g',B,f⟩:=q;exact .still rfl (λ _=>xE) (H g' a' U' O1 B)
   |exit id=>exact(h _ _ _ q).push (λ _ _=>rfl) S1
   |ret=>exact(h _ _ _ q).push (x:=.inLoop c) (λ _ _=>rfl) S1
 exact key _ g ε U (Nat.le_refl _) E
def pY(h:ops.all (GO N)=true):∀(i:Nat)(o:Oper),ops[i]?=some o->∀d,o.dst=some d->d<N:=by
 intro i o f d b;have:=(Array.all_eq_true'.1 h) o (Array.mem_of_getElem? f);simpa[GO,b]using this
def jf(hm:P.follows .mixedOrders=true)(hf:FR N ε f ds)
  (h:ZT S fn ro (YW P mu N dets ops ok) ζ χ η f ds U):Zq S fn ro (.region len ops ok) (Gz N ζ χ η) ε U:=by
 unfold YW at h;split at h
 .exact h.elim
 .rename_i hall;have Q:=pY (N:=N) (ops:=ops) (by simpa using hall);have Y:∀ε f ds U,FR N ε f ds->ζ f ds U->Gz N ζ χ η .normal ε U:=λ ε f ds U hf h=>⟨f,ds,hf,h⟩;split at h
  .split at h
   .rename_i l hl;exact Ip (PR Y Q _ l hl ε f ds U hf h)
   .exact h.elim
  .dsimp only at h
   split at h
   .exact h.elim
   .rename_i L;simp only[Bool.or_eq_true,Bool.not_eq_true',not_or,Bool.not_eq_false]at L;obtain⟨L,X⟩:=L;split at h
    .rename_i χ st hx;split at h
     .rename_i la lb hla hlb;split at h
      .rename_i hdf;obtain⟨G,hG,h⟩:=h;simp only[Option.bind_eq_some_iff]at hx;obtain⟨x',H,st',⟨o,E,ab⟩,hx⟩:=hx;split at hx
       .rename_i w;cases hx;simp only[Bool.and_eq_true,contains_iff_mem,Option.isNone_iff_eq_none]at w;obtain⟨⟨⟨ac,ae⟩,aa⟩,Z⟩:=w;refine Dj (late:=Yw ops χ) (G:=G) _ _ _ hm L ?_;refine ZV.fin (Fin:=λ ε U=>∃f ds,FR N ε f ds/\JV S ro lb ζ f ds U) (λ ε U⟨f,ds,hf,h⟩=>PR Y Q _ lb hlb ε f ds U hf h) ?_
        obtain⟨W,rfl⟩:o.guard=none/\st=⟨Q5 P mu o,o.dst,none,none⟩:=by
         cases Vd ab with
         |plain _ W=>exact⟨W,rfl⟩
         |guarded=>cases aa
         |dfr=>cases Z
        have hq:PZ ops (X9 P mu dets ops) ops.size (range (W6 ops ops.size)) []=(PZ ops (X9 P mu dets ops) ops.size (range (W6 ops ops.size)) []).dropLast++[χ]:=by
         rw[getLast?_eq_some_iff]at H;obtain⟨ys,ad⟩:=H;rw[ad];simp
        rw[hq];refine L9 (S:=S) (mu:=mu) (tail:=[χ]) (K:=LS S G ⟨Q5 P mu o,o.dst,none,none⟩ (JV S ro lb ζ)) (λ ε f ds Cn hf h=>.last ac hG (λ j hj=>?_) E (Wl W) (λ U' I w=>?_) (λ hx U'' W=>?_)) Q ?_ ?_ ?_ ?_ _ la hla hdf ?_ ε f ds _ hf h
        .refine Wm ops ops.size χ j ?_;simpa[Yw]using hj
        .exact W1 (λ χ=>hf.eval χ) (λ v' U2 U3 V⟨e,U1,ε,b⟩=>⟨e,U1,V.trans ε,b⟩) (h U' I w).1
        .obtain⟨U',I,w⟩:=hx;exact⟨_,_,hf.put o.dst undef (Q χ o E),(h U' I w).2 U'' W⟩
        .intro i hi w;have F:=contains_iff_mem.2 w;simp only[GW,F,if_true]at hi;rcases hi with hi|hi|hi <;> cases hi
        .intro i h0 h1 h3;apply Classical.byContradiction;intro w
         have F:(List.filter (X9 P mu dets ops) (range (W6 ops ops.size))).contains i=false:=by
          cases M:(List.filter (X9 P mu dets ops) (range (W6 ops ops.size))).contains i with
          |false=>rfl
          |true=>exact absurd (contains_iff_mem.1 M) w
         simp only[GW,F,Bool.false_eq_true,if_false]at h0 h1 h3;cases E:ops[i]? with
         |none=>simp[E]at h3
         |some o=>
          simp only[E]at h0 h1 h3;split at h0
          .exact h0 rfl
          .rename_i hh;simp only[hh,Bool.false_eq_true,if_false]at h1 h3;split at h1
           .rename_i hl;simp[hl]at h3
           .exact h1 rfl
        .intro i h0 o E;simp only[GW]at h0;split at h0
         .cases h0
         .simp only[E]at h0;split at h0
          .rename_i hh;simp only[Bool.and_eq_true,Bool.or_eq_true,Bool.not_eq_true']at hh;exact⟨hh.1,λ hl=>hh.2.resolve_right (by rw[hl];simp)⟩
          .split at h0 <;> cases h0
        .intro i h1;simp only[GW]at h1;split at h1
         .cases h1
         .split at h1
          .split at h1
           .cases h1
           .split at h1
            .cases h1
            .rename_i hl;simpa using hl
          .cases h1
        .intro i _ o E;by_cases w:i∈List.filter (X9 P mu dets ops) (range (W6 ops ops.size))
         .refine .inl ?_;have:=all_eq_true.1 X i w;simpa[E]using this
         .exact .inr w
       .cases hx
      .exact h.elim
     .exact h.elim
    .split at h
     .rename_i la lb hla hlb;split at h
      .rename_i hdf;refine Dj (late:=λ _=>false) (G:=λ _=>False) _ _ _ hm L ?_;refine ZV.fin (Fin:=λ ε U=>∃f ds,FR N ε f ds/\JV S ro lb ζ f ds U) (λ ε U⟨f,ds,hf,h⟩=>PR Y Q _ lb hlb ε f ds U hf h) ?_;have key:=L9 (S:=S) (mu:=mu) (rl:=List.filter (X9 P mu dets ops) (range (W6 ops ops.size))) (B:=JA ops) (late:=λ _=>false) (G:=λ _=>False) (tail:=[]) (Fin:=λ ε U=>∃f ds,FR N ε f ds/\JV S ro lb ζ f ds U) (K:=JV S ro lb ζ) (U:=U) (λ ε f ds Cn hf h=>.nil λ U' I w=>⟨f,ds,hf,h U' I w⟩) Q ?_ ?_ ?_ (λ _ _=>rfl) _ la hla hdf ?_ ε f ds (λ _=>True) hf h
       .simpa using key
       .intro i hi w;have F:=contains_iff_mem.2 w;simp only[Yi,F,if_true]at hi;rcases hi with hi|hi|hi <;> cases hi
       .intro i h0 h1 h3;apply Classical.byContradiction;intro w
        have F:(List.filter (X9 P mu dets ops) (range (W6 ops ops.size))).contains i=false:=by
         cases M:(List.filter (X9 P mu dets ops) (range (W6 ops ops.size))).contains i with
         |false=>rfl
         |true=>exact absurd (contains_iff_mem.1 M) w
        simp only[Yi,F,Bool.false_eq_true,if_false]at h0 h1;cases E:ops[i]? with
        |none=>simp[E]at h1
        |some o=>
         simp only[E]at h0 h1;by_cases V:stable (Q5 P mu o)=true <;> simp[V]at h0 h1
       .intro i h0 o E;simp only[Yi]at h0;split at h0
        .cases h0
        .simp only[E]at h0;by_cases V:stable (Q5 P mu o)=true
         .exact⟨V,λ h=>by cases h⟩
         .simp[V]at h0
       .intro i _ o E;by_cases w:i∈List.filter (X9 P mu dets ops) (range (W6 ops ops.size))
        .refine .inl ?_;have:=all_eq_true.1 X i w;simpa[E]using this
        .exact .inr w
      .exact h.elim
     .exact h.elim
def Ga(hm:P.follows .mixedOrders=true):∀(code:Code){n:Zk T}{x:Nat->Zk T}{r:Zk T}{f:Fm}{ds:List Deferred}{U:Qa T}{a:Act},FR N a f ds->ZT S fn ro (clean P mu N dets code) n x r f ds U ->
  Zq S fn ro code (Gz N n x r) a U:=by
 intro code
 induction code with
 |skip=>exact λ hf h=>pO ⟨_,_,hf,h⟩
 |label l=>exact λ hf h=>gG ⟨_,_,hf,h⟩
 |region id ops d=>
  intro n x r f ds U a hf h;simp only[clean]at h
  have cd:ZT S fn ro (.cd N (.region id ops d)) n x r f ds U->Zq S fn ro (.region id ops d) (Gz N n x r) a U:=λ h=>by
   refine Zq.mono (h a hf) λ e a' U'⟨ht,E,b,hp⟩=>⟨E,a'.defers,⟨rfl,by rw[ht];exact hf.size,b⟩,?_⟩;cases e <;> exact hp
  split at h
  .exact cd h
  .split at h
   .exact cd h
   .exact jf hm hf h
 |seq K M F H=>
  intro n x r f ds U a hf h;refine vU (Zq.mono (F hf h) λ e a' U' hp=>?_);obtain⟨E,B,b,hp⟩:=hp;cases e with
  |normal=>exact H b hp
  |exit i=>exact⟨E,B,b,hp⟩
  |ret=>exact⟨E,B,b,hp⟩
 |cond c K M F H=>
  intro n x r f ds U a hf h
  replace h:UE c (ZT S fn ro (clean P mu N dets K) n x r) (ZT S fn ro (clean P mu N dets M) n x r) f ds U:=h
  unfold UE at h;split at h
  .rename_i t ht;refine pN t (by rw[hf.eval];exact ht) ?_;cases t
   .exact H hf h
   .exact F hf h
  .exact h.elim
 |block id c Q=>
  intro n x r f ds U a hf h;refine gF (Zq.mono (Q hf h) λ e a' U' hp=>?_);obtain⟨E,B,b,hp⟩:=hp;cases e with
  |normal=>exact⟨E,B,b,hp⟩
  |exit i=>
   simp only at hp ⊢;by_cases e:i=id
   .subst e;have:Nat.beq i i=true:=S1
    rw[this]at hp;rw[if_pos rfl];exact⟨E,B,b,hp⟩
   .have:Nat.beq i id=false:=by cases hb:Nat.beq i id with|false=>rfl|true=>exact absurd (Nat.eq_of_beq_eq_true hb) e
    rw[this]at hp;rw[if_neg e];exact⟨E,B,b,hp⟩
  |ret=>exact⟨E,B,b,hp⟩
 |loop c Q=>
  intro n x r f ds U a hf h;obtain⟨α,L,I,μ,Z,he,V,hr⟩:=h;refine gH (G:=α) (λ y a U=>∃f,FR N a (ovr (L y) f) ds/\I y U) μ (g:=Z) ⟨f,by rw[he.ovr];exact hf,V⟩ λ y a U⟨f,hf,V⟩=>?_;refine Zq.mono (Q hf (hr y f U V)) λ e a' U' hp=>?_;obtain⟨E,B,b,hp⟩:=hp;cases e with
  |normal=>
   obtain⟨rfl,y',X,W,Y⟩:=hp;exact⟨y',⟨E,by rw[X.ovr];exact b,W⟩,Y⟩
  |exit i=>exact⟨E,B,b,hp⟩
  |ret=>exact⟨E,B,b,hp⟩
 |rangeFunc c params assign body _ _=>
  intro n x r f ds U a hf h;refine Zq.mono (h _ _ rfl rfl a hf) λ e a' U'⟨ht,hp⟩=>⟨f,a'.defers,⟨rfl,by rw[ht];exact hf.size,λ t=>by rw[ht];exact hf.get t⟩,?_⟩;cases e <;> exact hp
 |exit id=>exact λ hf h=>L6 ⟨_,_,hf,h⟩
 |scope c Q=>exact λ hf h=>gI (Q hf h)
 |goto l=>exact λ _ h=>h.elim
 |ret=>exact λ hf h=>LD ⟨_,_,hf,h⟩
 |refuse w=>exact λ _ h=>h.elim
def fm(args:List Value):Fm:=λ t=>args.getD t undef
def Qo(b o n:Nat):(Addr.mk b o none).add n=⟨b,o+n,none⟩:=by
 simp only[Addr.add];split
 .rename_i h;subst h;rfl
 .rfl
def pe(a:Addr)(h:a.spot=none)(m n:Nat):(a.add m).add n=a.add (m+n):=by
 obtain⟨b,o,s⟩:=a;cases h;rw[Qo,Qo,Qo,Nat.add_assoc]
def Zi.sees{U:Qa T}{b o:Nat}{c:Array Value}{v:Value}(h:Zi U b c)(f:c[o]?=some v):U.sees ⟨b,o,none⟩ v:=by
 obtain⟨t,fr,h⟩:=h;exact⟨rfl,.inl ⟨c,t,fr,.inl h,f⟩⟩
def Zi.le{U U':Qa T}{b:Nat}{c:Array Value}(h:Zi U b c)(hl:U.le U'):Zi U' b c:=let ⟨t,fr,h⟩:=h;⟨t,fr,hl.imm _ _ h⟩
def Zi.reads(h:Zi U b c)(f:∀i v,vs[i]?=some v->c[N+i]?=some v):Je U ⟨b,N,none⟩ vs:=by
 intro i v hi;rw[Qo];exact h.sees (f i v hi)
def Zi.rd(h:Zi U b vs.toArray):Je U ⟨b,0,none⟩ vs:=h.reads λ k v f=>by simpa using f
def Dw(h:U.le U'):Qv U' U:=by
 refine⟨h.tok.symm,λ w ok=>⟨⟨λ b o e=>ok.imm b o (h.imm b o e),λ r B=>ok.held r (h.own▸B),h.own▸ok.apart,λ r B=>?_⟩,λ l hl=>?_,λ l hl=>?_⟩⟩
 .have:=ok.sep r (h.own▸B);cases e:U.I r.blk with
  |none=>rfl
  |some o=>rw[h.imm _ _ e]at this;cases this
 .rw[Q4]at hl ⊢;rw[h.own];exact hl
 .rw[Qx]at hl ⊢;rw[h.own];refine hl.imp id λ hl=>?_;cases l with
  |cell a=>obtain⟨c,t,fr,E,f⟩:=hl;exact⟨c,t,fr,h.imm _ _ E,f⟩
  |obj b=>obtain⟨o,F⟩:=hl;exact⟨o,h.imm _ _ F⟩
  |output=>exact hl
  |goroutines=>exact hl
  |mark _=>exact hl
def Qb.pure(h:Qb S g args (λ v U'=>σ v/\U.le U') U):Qb S g args (λ v U'=>σ v/\U'=U) U:=
 h.post λ _ _⟨q,hl⟩=>⟨U,Dw hl,q,rfl⟩
def Xw(id:Nat):Code->Option Code
 |.region i ops d=>if i=id then some (.region i ops d)else none
 |.seq a b=>(Xw id a).or (Xw id b)
 |.cond _ a b=>(Xw id a).or (Xw id b)
 |.block _ b=>Xw id b
 |.loop b=>Xw id b
 |.scope b=>Xw id b
 |.rangeFunc _ _ a b=>(Xw id a).or (Xw id b)
 |_=>none
def kD(fd:Func)(id:Nat):Code:=(fd.body.bind (Xw id)).getD .skip
def GZ(fd:Func)(id:Nat):Array Oper:=match kD fd id with
 |.region _ ops _=>ops
 |_=>#[]
inductive RV where
 |t (n:Nat)
 |c (a:Nat)
 |cn (a n:Nat)
variable{rl:List RV}
def Xj(P:Program):ResultVar->Option RV
 |.tmp t=>some (.t t)
 |.cell a t=>match P.underlying t with
  |some d=>if TypeDesc.agg d then(Js P t).map (.cn a)else some (.c a)
  |none=>none
def Yz(acc:List Value):Value:=match acc with|[v]=>v|l=>.tuple l.reverse.toArray
def YB(acc:List Value)(K:Value->Prop):Prop:=match acc with|[v]=>K v|l=>K (.tuple l.reverse.toArray)
def px(acc:List Value)(K:Value->Prop):YB acc K=K (Yz acc):=by
 unfold YB Yz;split <;> simp_all
def V4(f:Fm)(Q:Value->Qa T->Prop)(x:RV)(h:List Value->Qa T->Prop)(acc:List Value)(U:Qa T):Prop:=
 match x with
 |.t t=>WO (f t) λ v=>h (v::acc) U
 |.c a=>match f a with|.pointer (some b)=>∃v,U.sees b v/\WO v λ v=>h (v::acc) U|_=>False
 |.cn a n=>match f a with|.pointer (some b)=>∃vs:List Value,(vs.length=n/\Je U b vs)/\h (.agg vs.toArray::acc) U|_=>False
def HD(f:Fm)(Q:Value->Qa T->Prop)(l:List RV):List Value->Qa T->Prop:=
 List.rec (motive:=λ _=>List Value->Qa T->Prop) (λ acc U=>YB acc λ v=>Q v U) (λ x _ b=>V4 f Q x b) l
def Ow(f:Fm)(Q:Value->Qa T->Prop)(x:RV)(r:List RV):HD f Q (x::r)=V4 f Q x (HD f Q r):=rfl
def LG(acc:List Value):Value:=if h:acc.reverse.toArray.size=1 then acc.reverse.toArray[0]else .tuple acc.reverse.toArray
def xB(acc:List Value):Yz acc=LG acc:=by
 unfold LG Yz
 match acc with
 |[]=>rfl
 |[v]=>rfl
 |a::b::r=>rw[dif_neg S1]
def jA(ht:∀t,tmps.getD t undef=f t) :
  ∀(l:List ResultVar)(rl:List RV),l.mapM (Xj P)=some rl->∀(acc:List Value)(U:Qa T),HD f Q rl acc U->Qq P (X1 (λ x=>match x with
   |ResultVar.tmp t=>pure (tmps.getD t undef)
   |ResultVar.cell a t=>do loadVar t (<- asAddr (tmps.getD a undef))) l acc.reverse.toArray) (λ vs U=>Qq P (pure (if h:vs.size=1 then vs[0]else .tuple vs):Sem Value) Q U) U:=by
 intro l
 induction l with
 |nil=>
  intro rl h acc U b;simp at h;subst h
  replace b:YB acc (λ v=>Q v U):=b
  rw[px]at b;rw[xB]at b;exact b
 |cons x l F=>
  intro rl h acc U b;simp only[mapM_cons,Option.pure_def,Option.bind_eq_bind,Option.bind_eq_some_iff]at h;obtain⟨M,w,L,B,e⟩:=h;cases e;have push:∀v:Value,acc.reverse.toArray.push v=(v::acc).reverse.toArray:=λ v=>by apply Array.ext';simp
  cases x with
  |tmp t=>
   simp only[Xj,Option.some.injEq]at w;subst w;simp only[Ow,V4,Qy]at b;simp only[X1];rw[Qd,ht,Qi,push];exact F _ B _ _ b
  |cell a t=>
   simp only[X1];rw[Qd,Qd,ht];simp only[Xj]at w;split at w
   .rename_i d hd;split at w
    .rename_i hag;simp only[Option.map_eq_some_iff]at w;obtain⟨n,G,rfl⟩:=w;obtain⟨K,hi,E⟩:=G2 G;simp only[Ow,V4]at b;split at b
     .rename_i ad e;obtain⟨vs,⟨hl,H⟩,b⟩:=b;rw[e];simp only[asAddr,Qi,loadVar,Qd,Ht hd,hag,if_true,Jd hi,E,<- hl];refine H.cells ?_;simp only[Qi,push];exact F _ B _ _ b
     .exact b.elim
    .rename_i hag;cases w;simp only[Ow,V4]at b;split at b
     .rename_i ad e;obtain⟨v,I,b⟩:=b;rw[Qy]at b;rw[e];simp only[asAddr,Qi,loadVar,Qd,Ht hd,hag,Bool.false_eq_true,if_false];refine SX I ?_;rw[push];exact F _ B _ _ b
     .exact b.elim
   .cases w
def V6(rl:List RV)(Q:Value->Qa T->Prop)(f:Fm)(l:List Deferred):Qa T->Prop:=
 List.rec (motive:=λ _=>Qa T->Prop) (λ U=>HD f Q rl [] U) (λ d _ h U=>match d.target with
  |.collected b=>∃M',J0 b (.deferred none) (.deferred (some [])) U.M M'/\h { U with M:=M' }
  |_=>False) l
def J0.mem{o:Obj}(h:J0 b o' o M M'):Qw.obj b o∈M:=by
 induction h with
 |here=>exact mem_cons_self ..
 |there _ f=>exact mem_cons_of_mem _ f
def VJ{fd:Func}{rl:List RV}(B:fd.results.toList.mapM (Xj P)=some rl){Q:Value->Qa T->Prop}{f:Fm}:∀(ds:List Deferred)(U:Qa T),V6 rl Q f ds U ->
  ∀tmps:Array Value,(∀t,tmps.getD t undef=f t)->X4 P fd Q tmps ds U
 |[],U,h,tmps,ht=>by
  have w:fd.results=fd.results.toList.toArray:=rfl;simp only[X4,results];rw[w,Qd,SJ];exact jA ht _ _ B [] U h
 |⟨tg,args⟩::ds,U,h,tmps,ht=>by
  cases tg with
  |collected b=>
   obtain⟨M',E,h⟩:=h;simp only[X4,Instr.takeDeferred,Qd,getObj];refine⟨_,.inr E.mem,rfl,rfl,?_⟩;simp only[Qq,Qd,setObj];exact⟨_,M',E,rfl,rfl,rfl,rfl,VJ B ds _ h tmps ht⟩
  |_=>exact h.elim
structure Zj(P:Program)(g:FuncId)(N:Nat)(cc:C)(rl:List RV):Prop where
 ok:∃fd mu dets,P.funcs[g]?=some fd/\fd.body=some (fd.body.getD .skip)/\clean P mu fd.ntmps dets (fd.body.getD .skip)=cc/\fd.ntmps=N/\fd.results.toList.mapM (Xj P)=some rl/\(fd.name != "runtime.NumGoroutine")=true
def Zj.mk'(mu dets:List Nat)(hf:P.funcs[g]?=some fd)(hb:fd.body.isSome=true)(f:clean P mu fd.ntmps dets (fd.body.getD .skip)=cc)(b:fd.ntmps=N)
  (B:fd.results.toList.mapM (Xj P)=some rl) (w:(fd.name != "runtime.NumGoroutine")=true):Zj P g N cc rl:=
 ⟨fd,mu,dets,hf,by cases h:fd.body with|none=>rw[h]at hb;cases hb|some c=>rfl,f,b,B,w⟩
def Zj.o(mu dets:List Nat)(hf:P.funcs[g]?=some fd)(h:(fd.body.isSome,clean P mu fd.ntmps dets (fd.body.getD .skip),fd.ntmps,fd.results.toList.mapM (Xj P),(fd.name != "runtime.NumGoroutine"))=(true,cc,N,some rl,true)):Zj P g N cc rl:=by
 obtain⟨h1,h2,b,f,h5⟩:=(by simpa only[Prod.mk.injEq]using h:_/\_/\_/\_/\_);exact .mk' mu dets hf h1 h2 b f h5
def Zj.any{g:FuncId}{N:Nat}{cc:C}{rl:List RV}(k:Zj P g N cc rl):(P.funcs[g]?.any λ fd=>fd.body.isSome&&fd.name != "runtime.NumGoroutine")=true:=by
 obtain⟨fd,mu,dets,hf,hb,-,-,-,b⟩:=k.ok;rw[hf,Option.any_some,b,hb];rfl
def kQ(o:Oper):List Nat:=(o.after.toList.filter (Region.binds .any)).map (·.on)
def M2(m j:Nat):Bool:=m.testBit j
def UH(b:List Nat):List Nat->Nat->Nat
 |[],a=>a
 |j::l,a=>UH b l (a||| (1<<<j)||| b.getD j 0)
def M7:List (List Nat)->List Nat->List Nat
 |[],b=>b
 |e::es,b=>M7 es (b++[UH b e 0])
def LZ:List Nat->Nat->Nat
 |[],k=>k
 |m::r,k=>match m==(1<<<(k-1))-1 with
  |true=>LZ r (k-1)
  |false=>k
structure Z_ where
 i:Nat
 e:Nat
 r:Bool
 s:St
def Ma(dets:List Nat):List St->List (List Nat)->Nat->List Z_
 |s::r,e::es,i=>⟨i,UH [] e 0,!stable s.o&&!((s.dst.map dets.contains).getD false),s⟩::Ma dets r es (i+1)
 |_,_,_=>[]
def Yt:List Z_->Nat->List Z_->List Z_->List Z_×List Z_
 |[],_,ds,dn=>(ds.reverse,dn)
 |⟨i,e,r,s⟩::l,b,ds,dn=>match r|| (e&&&b)!=0 with
  |true=>Yt l (b||| (1<<<i)) (⟨i,e,r,s⟩::ds) dn
  |false=>Yt l b ds (⟨i,e,r,s⟩::dn)
def M4:List Z_->Nat->Nat
 |[],a=>a
 |⟨i,_,_,_⟩::l,a=>M4 l (a||| (1<<<i))
def LU(b:Nat):List Z_->List Z_->Option (Z_×List Z_)
 |[],_=>none
 |⟨i,e,r,s⟩::l,f=>match(e&&&b)==0 with
  |true=>some (⟨i,e,r,s⟩,f.reverse++l)
  |false=>LU b l (⟨i,e,r,s⟩::f)
def LV:Nat->List Z_×List Z_->List Z_
 |0,x=>x.2.reverse
 |n+1,(ds,dn)=>match LU (M4 ds 0) ds []with
  |some (x,l)=>LV n (Yt l 0 [] (x::dn))
  |none=>dn.reverse
def kS(b:Nat):Z_->Nat×St
 |⟨i,_,r,s⟩=>(match r with|true=>2|false=>match stable s.o&&(!HQ s.o|| M2 b i)with|true=>0|false=>match M2 b i with|true=>1|false=>3,s)
def kR:Z_->Nat×St
 |⟨_,_,r,s⟩=>(match r with|true=>2|false=>match stable s.o with|true=>0|false=>1,s)
def kP(b:List Nat)(qs:List Z_)(ts:List St):C:=
 match qs.getLast? with
 |some ⟨i,_,r,s⟩=>(match r&&LQ s.o&&s.g.isNone&&s.dfr.isNone with
  |true=>.drs (qs.dropLast.map (kS (b.getD i 0))) s ts
  |false=>.drw (qs.map kR) ts)
 |none=>.drw [] ts
def kz(l:List St)(b:List Nat)(it:List Z_)(k:Nat):C:=kP b (LV k (Yt (it.take k) 0 [] [])) (l.drop k)
def kA(dets:List Nat)(l:List St)(es:List (List Nat))(b:List Nat):C:=kz l b (Ma dets l es 0) (LZ b.reverse b.length)
def kB(dets:List Nat)(l:List St)(es:List (List Nat)):C:=kA dets l es (M7 es [])
def sZ(P:Program)(mu:List Nat)(ds:List (Option Nat))(o:Oper):Option St:=match o.guard with
 |none=>(match o.op with
  |.defer { callee:=.value c,args,.. }=>some ⟨.mv c,o.dst,none,some (c,args)⟩
  |.defer _=>none
  |_=>some ⟨Q5 P mu o,o.dst,none,none⟩)
 |some (j,w)=>(match o.op with
  |.defer _=>none
  |_=>(match ds.getD j none with
   |some d=>some ⟨Q5 P mu o,o.dst,some (d,w),none⟩
   |none=>none))
def Mb(P:Program)(mu:List Nat)(ds:List (Option Nat)):List Oper->List St->Option (List St)
 |[],acc=>some acc.reverse
 |o::l,acc=>match sZ P mu ds o with
  |some s=>Mb P mu ds l (s::acc)
  |none=>none
def Xv(P:Program)(mu:List Nat)(N:Nat)(dets h:List Nat):Code->C
 |.skip=>.skip
 |.label _=>.skip
 |.seq a b=>.seq (Xv P mu N dets h a) (Xv P mu N dets h b)
 |.cond c a b=>.ite c (Xv P mu N dets h a) (Xv P mu N dets h b)
 |.block id b=>.block id (Xv P mu N dets h b)
 |.loop b=>.loop (Xv P mu N dets h b)
 |.exit i=>.exit i
 |.ret=>.ret
 |.scope b=>.scope (Xv P mu N dets h b)
 |.region id ops d=>if Uq ops|| mu.contains (1000+id)|| h.contains id then .cd N (.region id ops d)else match Mb P mu (ops.toList.map (·.dst)) ops.toList []with
  |none=>.cd N (.region id ops d)
  |some l=>if d then kB dets l (ops.toList.map kQ)else .reg l
 |.rangeFunc f ps as w=>.rng N mu dets f ps (Xv P mu N dets h as) (Xv P mu N dets h w)
 |.goto _=>.bad
 |.refuse _=>.bad
def cz(P:Program)(fd:Func)(mu dets b:List Nat):C:=Xv P mu fd.ntmps dets b (fd.body.getD .skip)
abbrev Zz5(P:Program)(n N:Nat)(f:Func)(r:List RV)(d m b:List Nat:=[]):Prop:=Zj P n N (cz P f m d b) r
def Zj.z(hf:P.funcs[g]?=some fd)(h:(fd.body.isSome,fd.ntmps,fd.results.toList.mapM (Xj P),(fd.name != "runtime.NumGoroutine"),clean P mu fd.ntmps dets (fd.body.getD .skip))=(true,N,some rl,true,cz P fd mu dets todo):=by kernel_rfl):Zj P g N (cz P fd mu dets todo) rl:=by
 obtain⟨h1,h2,f,w,h5⟩:=(by simpa only[Prod.mk.injEq]using h:_/\_/\_/\_/\_);exact .mk' mu dets hf h1 h5 h2 f w
def Qb.of0(k:Zj P g N cc rl)(hm:P.follows .mixedOrders=true)(H:vs.length<=N)
  (h:ZT S g none cc (λ f ds U=>V6 rl Q f ds U) (λ _ _ _ _=>False) (λ f ds U=>V6 rl Q f ds U) (fm vs) [] U):Qb S g vs.toArray Q U:=by
 obtain⟨fd,mu,dets,hf,hb,F,rfl,B,-⟩:=k.ok;refine Qb.of_body hf hb ?_
 have w:FR fd.ntmps { tmps:=vs.toArray++Array.replicate (fd.ntmps-vs.toArray.size) undef,defers:=[] } (fm vs) []:=by
  refine⟨rfl,S3,λ t=>?_⟩;simp only[fm,Array.getD_eq_getD_getElem?,getD_eq_getElem?_getD,Array.getElem?_append,size_toArray,getElem?_toArray];split
  .rfl
  .rename_i hlt;rw[getElem?_eq_none O1,Array.getElem?_replicate];split <;> rfl
 subst F;refine Zq.mono (Ga hm _ w h) λ e a U hp=>?_;obtain⟨G,E,b,hp⟩:=hp;cases e with
 |normal=>have:=VJ B _ _ hp a.tmps b.get;simpa only[Un,b.ds]using this
 |exit i=>exact hp.elim
 |ret=>have:=VJ B _ _ hp a.tmps b.get;simpa only[Un,b.ds]using this
def Qb.of(k:Zj P g N cc rl)(hm:P.follows .mixedOrders=true){args:List Value}(w:args.length<=N)
  (h:ZT S g none as (λ f ds U=>V6 rl Q f ds U) (λ _ _ _ _=>False) (λ f ds U=>V6 rl Q f ds U) (fm args) [] U) (b:cc=as:=by first|(conv=>lhs;cbv)|rfl):Qb S g args.toArray Q U:=
 Qb.of0 k hm w (b▸h)
abbrev C.sr(l:List St)(c:C):C:=.seq (.reg l) c
abbrev St.xz(d a b t:Nat):St:=.d d (.rw (.call { callee:=.builtin .append,args:=#[.tmp a,.tmp b],argTypes:=#[t,t] }) t)
abbrev St.xo(d k t:Nat):St:=.d d (.off k (.tmp t))
abbrev St.xl(d t:Nat):St:=.d d (.ld (.tmp t))
abbrev St.xi(d n a b:Nat):St:=.d d (.idx n (.tmp a) (.tmp b))
abbrev St.xn(d t:Nat):St:=.d d (.len (.tmp t))
abbrev St.xc(d:Nat)(o:BinOp)(a b:Nat):St:=.d d (.cmp o (.tmp a) (.tmp b))
abbrev St.xk(d:Nat)(o:BinOp)(a:Nat)(n:Int):St:=.d d (.cmp o (.tmp a) (.ci n))
abbrev St.xa(d t:Nat):St:=.d d (.add (.tmp t) (.ci 1))
abbrev St.xe(d t i:Nat):St:=.d d (.ext (.tmp t) i)
abbrev St.xd(d n t:Nat):St:=.d d (.ldn n (.tmp t))
abbrev St.xt(d t:Nat):St:=.d d (.not (.tmp t))
abbrev St.xv(d:Nat)(n:Int):St:=.d d (.mv (.ci n))
abbrev St.xb(d:Nat)(b:Bool):St:=.d d (.mv (.cb b))
abbrev St.xs(d:Nat):St:=.d d (.mv .cn)
abbrev St.xp(d a b:Nat):St:=.d d (.pick (.tmp a) (.tmp b) (.cb false))
abbrev St.xq(d a b:Nat):St:=.d d (.pick (.tmp a) (.cb true) (.tmp b))
abbrev St.yo(d g:Nat)(p:Bool)(k t:Nat):St:=.u d g p (.off k (.tmp t))
abbrev St.yl(d g:Nat)(p:Bool)(t:Nat):St:=.u d g p (.ld (.tmp t))
abbrev St.yi(d g:Nat)(p:Bool)(n a b:Nat):St:=.u d g p (.idx n (.tmp a) (.tmp b))
abbrev St.yn(d g:Nat)(p:Bool)(t:Nat):St:=.u d g p (.len (.tmp t))
abbrev St.ym(d g:Nat)(p:Bool)(t:Nat):St:=.u d g p (.mv (.tmp t))
abbrev St.yk(d g:Nat)(p:Bool)(o:BinOp)(a:Nat)(n:Int):St:=.u d g p (.cmp o (.tmp a) (.ci n))
def Z6(U:Qa T)(a:Option Addr)(len:Nat)(l:List Int):Prop:=l.length=len/\∀i x,l[i]?=some x->∃b,a=some b/\b.spot=none/\U.sees (b.add (i*1)) (.int .i64 x)
def Q7(U:Qa T)(a:Option Addr)(len n:Nat)(l:List α)(R:α->List Value->Prop):Prop:=
 l.length=len/\∀i x,l[i]?=some x->∃b vs,a=some b/\b.spot=none/\R x vs/\vs.length=n/\Je U (b.add (i*n)) vs
def Z6.le{U U':Qa T}{a:Option Addr}{len:Nat}{l:List Int}(h:Z6 U a len l)(hl:U.le U'):Z6 U' a len l:=
 ⟨h.1,λ i x hx=>let ⟨ad,e,hs,hv⟩:=h.2 i x hx;⟨ad,e,hs,hv.le hl⟩⟩
def Q7.le{U U':Qa T}{a:Option Addr}{len n:Nat}{α:Type}{l:List α}{R R':α->List Value->Prop}(h:Q7 U a len n l R)(hl:U.le U')(b:∀x vs,R x vs->R' x vs):Q7 U' a len n l R':=
 ⟨h.1,λ i x hx=>let ⟨ad,vs,e,hs,hr,hn,hv⟩:=h.2 i x hx;⟨ad,vs,e,hs,b _ _ hr,hn,hv.le hl⟩⟩
def Z6.at{l:List Int}(h:Z6 U a len l)(hi:i<len):∃b x,l[i]?=some x/\a=some b/\b.spot=none/\U.sees (b.add (i*1)) (.int .i64 x):=by
 have f:i<l.length:=by rw[h.1];exact hi
 obtain⟨b,e,w,B⟩:=h.2 i l[i] S1;exact⟨b,l[i],S1,e,w,B⟩
def Q7.at{R:α->List Value->Prop}(h:Q7 U a len n μ R)(hi:i<len) :
  ∃b x vs,μ[i]?=some x/\a=some b/\b.spot=none/\R x vs/\vs.length=n/\Je U (b.add (i*n)) vs:=by
 have f:i<μ.length:=by rw[h.1];exact hi
 obtain⟨b,vs,e,E,B,w,F⟩:=h.2 i μ[i] S1;exact⟨b,μ[i],vs,S1,e,E,B,w,F⟩
def Je.cell{a:Addr}(h:Je U a vs){v:Value}(b:vs[i]?=some v):U.sees (a.add i) v:=h i v b
def Zx(h:M'.Sublist U.M):Qv U { U with M:=M' }:=by
 refine⟨rfl,λ w ok=>⟨⟨ok.imm,λ r b=>ok.held r (h.subset b),ok.apart.sublist h,λ r b=>ok.sep r (h.subset b)⟩,λ l hl=>?_,λ l hl=>?_⟩⟩
 .rw[Q4]at hl ⊢;obtain⟨r,b,hl⟩:=hl;exact⟨r,h.subset b,hl⟩
 .rw[Qx]at hl ⊢;exact hl.imp (λ⟨r,b,hl⟩=>⟨r,h.subset b,hl⟩) id
def Iv(E:JS U')(w:U'.M=.obj b o'::M₀)(h:∀x f,U.I x=some f->U'.I x=some f)(B:U.M=M₀)(ht:U'.tok=U.tok) :
  ∃U'',Qv U' U''/\U.le U''/\U''.I b=some o':=by
 refine⟨{ U' with I:=JD U'.I b o',M:=M₀ },Wa (by rw[w]),⟨λ x f hx=>?_,B.symm,ht⟩,by simp[JD]⟩;have hb:U'.I b=none:=E (.obj b o') (by rw[w];simp);show JD U'.I b o' x=_;unfold JD;rw[if_neg]
 .exact h x f hx
 .rintro rfl;rw[h _ _ hx]at hb;cases hb
structure Qa.lg(U U':Qa T):Prop where
 imm:∀b o,U.I b=some o->U'.I b=some o
 own:∃A,U'.M=A++U.M
 tok:U'.tok=U.tok
def Qa.le.lg{U U':Qa T}(h:U.le U'):U.lg U':=⟨h.imm,⟨[],h.own⟩,h.tok⟩
def Qa.lg.trans{a b c:Qa T}(h:a.lg b)(k:b.lg c):a.lg c:=
 ⟨λ x o e=>k.imm x o (h.imm x o e),let ⟨A,e⟩:=h.own;let ⟨B,e'⟩:=k.own;⟨B++A,by rw[e',e,append_assoc]⟩,k.tok.trans h.tok⟩
def Z2(b:Nat)(o:Obj):U.lg (U.put b o):=⟨λ _ _ h=>h,⟨[.obj b o],rfl⟩,rfl⟩
def Qa.lg.shift(h:U.lg U'):∃U'',Qv U' U''/\U.le U''/\U''.I=U'.I:=by
 obtain⟨A,e⟩:=h.own;exact⟨_,Zx (M':=U.M) (by rw[e];exact sublist_append_right ..),⟨h.imm,rfl,h.tok⟩,rfl⟩
def Qb.go(h:Qb S g args (λ v U'=>v=q/\U'=U) U)(k:K q U):Qb S g args K U:=h.mono λ v U'⟨a,b⟩=>by rw[a,b];exact k
def Qb.pure'{Q:Value->Prop}(h:Qb S g args (λ v U'=>Q v/\U.lg U') U):Qb S g args (λ v U'=>Q v/\U'=U) U:=
 h.post λ _ _⟨q,hl⟩=>let ⟨_,h1,h2,_⟩:=hl.shift;⟨U,h1.trans (Dw h2),q,rfl⟩
def Qa.sees.lg{U U':Qa T}{a:Addr}{v:Value}(h:U.sees a v)(hl:U.lg U'):U'.sees a v:=by
 obtain⟨A,e⟩:=hl.own;obtain⟨b,⟨c,t,fr,hb,f⟩|⟨t,n,hm⟩⟩:=h
 .exact⟨b,.inl ⟨c,t,fr,hb.imp (hl.imm _ _) (λ h=>by rw[e];exact mem_append_right _ h),f⟩⟩
 .exact⟨b,.inr ⟨t,n,by rw[e];exact mem_append_right _ hm⟩⟩
def Je.lg{U U':Qa T}{a:Addr}{vs:List Value}(h:Je U a vs)(hl:U.lg U'):Je U' a vs:=λ i v b=>(h i v b).lg hl
def Zi.lg{U U':Qa T}{b:Nat}{c:Array Value}(h:Zi U b c)(hl:U.lg U'):Zi U' b c:=let ⟨t,fr,h⟩:=h;⟨t,fr,hl.imm _ _ h⟩
def Z6.lg{U U':Qa T}{a:Option Addr}{len:Nat}{l:List Int}(h:Z6 U a len l)(hl:U.lg U'):Z6 U' a len l:=
 ⟨h.1,λ i x hx=>let ⟨ad,e,hs,hv⟩:=h.2 i x hx;⟨ad,e,hs,hv.lg hl⟩⟩
def Q7.lg{U U':Qa T}{a:Option Addr}{len n:Nat}{α:Type}{l:List α}{R R':α->List Value->Prop}(h:Q7 U a len n l R)(hl:U.lg U')(b:∀x vs,R x vs->R' x vs):Q7 U' a len n l R':=
 ⟨h.1,λ i x hx=>let ⟨ad,vs,e,hs,hr,hn,hv⟩:=h.2 i x hx;⟨ad,vs,e,hs,b _ _ hr,hn,hv.lg hl⟩⟩
def rq(h:Qq P s (λ v U'=>∃b,Qv U' b/\K v b) U):Qq P (do pure (.value (<- s)):Sem Next) (ZG S λ v U'=>∃b,Qv U' b/\K v b) U:=by
 rw[Qd];exact h
def ru{s:Sem Unit}(h:Qq P s (λ _ U'=>∃b,Qv U' b/\K undef b) U):Qq P (do s;pure .skip:Sem Next) (ZG S λ v U'=>∃b,Qv U' b/\K v b) U:=by
 rw[Qd];exact h
def pp{m:Nat}(b:P.underlying B=some (.slice e))(h:θ a.isNone U):Qq P (Op.equalIn (m+1) B (.slice a n N) (.slice none i c0)) θ U:=by
 rw[Op.equalIn];simp only[Qd,Ze b];cases a <;> exact h
def K6(w:P.underlying H=some (.slice e))(hx:Zf f x=.slice a n N)(h:K (.bool a.isNone) U) :
  OX S (.rw (.binOp .eql H x (.const (.slice none b c0)) B) E) f K U:=by
 intro a' ha;simp only[execOp,ha,hx];refine rq ?_;rw[Qd];show Qq P (binOp .eql H (.slice a n N) (.slice none b c0)) _ U;show Qq P (do pure (Value.bool (<- Op.equal H (.slice a n N) (.slice none b c0))):Sem Value) _ U;rw[Qd];exact pp (m:=9999) w ⟨U,.refl _,h⟩
def WU:TypeDesc->Bool
 |.int _|.bool|.string=>true
 |_=>false
def HY:Value->Value->Bool
 |.int _ a,.int _ b=>a==b
 |.bool a,.bool b=>a==b
 |.string a,.string b=>a==b
 |_,_=>false
def X6:TypeDesc->Value->Bool
 |.int k,.int k' _=>decide (k=k')
 |.bool,.bool _=>true
 |.string,.string _=>true
 |_,_=>false
def IF(f:P.underlying B=some δ)(b:WU δ=true)(hx:X6 δ q=true)(hy:X6 δ D=true)(Q:Bool->Qa T->Prop)(U:Qa T) :
  Qq P (Op.equalIn (N+1) B q D) Q U=Q (HY q D) U:=by
 rw[Op.equalIn];simp only[Qd,Ze f];cases δ <;> simp[WU]at b <;> cases q <;> simp[X6]at hx <;> cases D <;> simp[X6]at hy
 .rfl
 .subst hx;subst hy;simp only[if_true];rfl
 .rfl
def Hw(P:Program):List Field->Nat->Bool
 |[],_=>true
 |fd::r,j=>fd.name != "_"&&decide (fd.offset=j)&&(match P.underlying fd.type with|some d=>WU d|none=>false)&&Hw P r (j+1)
def JO(P:Program):List Field->List Value->Bool
 |[],[]=>true
 |fd::r,v::vs=>(match P.underlying fd.type with|some d=>X6 d v|none=>false)&&JO P r vs
 |_,_=>false
def ZF:List Value->List Value->Bool
 |[],[]=>true
 |x::xs,y::ys=>HY x y&&ZF xs ys
 |_,_=>false
theorem Gq(f:P.underlying B=some δ)(b:WU δ=true)(h:c[j]?=some q)(Q:Value->Qa T->Prop)(U:Qa T) :
  Qq P (part B c j) Q U=Q q U:=by
 have:TypeDesc.agg δ=false:=by cases δ <;> first|rfl|simp[WU]at b
 simp only[part,Qd,Ht f,this,Bool.false_eq_true,if_false,h];rfl
def Vf{x:α}{b:β}{Q:β->Qa T->Prop} :
  Qq P (forIn (x::μ) b τ) Q U=Qq P (τ x b) (λ r U=>match r with|.done b=>Q b U|.yield b=>Qq P (forIn μ b τ) Q U) U:=by
 rw[forIn_cons,Qd];congr 1;funext r U;cases r <;> rfl
def Dk{m:Nat}{xs ys:Array Value}{Q:Option Bool×PUnit->Qa T->Prop}:∀(G:List Field)(j:Nat)(vs ws:List Value),Hw P G j=true->JO P G vs=true->JO P G ws=true ->
  (∀i v,vs[i]?=some v->xs[j+i]?=some v)->(∀i v,ws[i]?=some v->ys[j+i]?=some v)->Q (if ZF vs ws then none else some false,()) U ->
  Qq P (forIn G ((none,()):Option Bool×PUnit) λ fd _=>
   if fd.name ≠ "_" then do
    let a <- part fd.type xs fd.offset
    let b <- part fd.type ys fd.offset
    let c <- Op.equalIn (m+1) fd.type a b
    if(!c)=true then pure (ForInStep.done (some false,()))else pure (ForInStep.yield (none,()))
   else pure (ForInStep.yield (none,()))) Q U
 |[],j,vs,ws,_,f,B,_,_,h=>by
  cases vs <;> cases ws <;> simp[JO]at f B;exact h
 |fd::r,j,vs,ws,hf,f,B,hx,hy,h=>by
  cases vs with
  |nil=>simp[JO]at f
  |cons v vs=>
  cases ws with
  |nil=>simp[JO]at B
  |cons w ws=>
  simp only[Hw,Bool.and_eq_true,decide_eq_true_eq]at hf;obtain⟨⟨⟨h1,h2⟩,E⟩,K⟩:=hf;simp only[JO,Bool.and_eq_true]at f B;cases F:P.underlying fd.type with
  |none=>rw[F]at E;cases E
  |some d=>
   rw[F]at E f B;rw[Vf,if_pos (by simpa using h1)];simp only[Qd,h2];have H:xs[j]?=some v:=by simpa using hx 0 v rfl
   have I:ys[j]?=some w:=by simpa using hy 0 w rfl
   rw[Gq F E H,Gq F E I,IF F E f.1 B.1];cases hb:HY v w with
   |false=>simpa[hb,ZF,Qi]using h
   |true=>
    simp only[Bool.not_true,Bool.false_eq_true,if_false,Qi];refine Dk r (j+1) vs ws K f.2 B.2 (λ i v hi=>?_) (λ i v hi=>?_) (by simpa[hb,ZF]using h)
    .have:=hx (i+1) v hi;rwa [show j+(i+1)=j+1+i by omega]at this
    .have:=hy (i+1) v hi;rwa [show j+(i+1)=j+1+i by omega]at this
def Oz(E:P.underlying e=some (.struct W))(f:P.stoodInHeld e=false)(hf:Hw P W.toList 0=true)(F:JO P W.toList vs=true)(G:JO P W.toList ws=true)
   (h:θ (ZF vs ws) U):Qq P (Op.equal e (.agg vs.toArray) (.agg ws.toArray)) θ U:=by
 have w:Op.equal e (.agg vs.toArray) (.agg ws.toArray)=Op.equalIn (9998+1+1) e (.agg vs.toArray) (.agg ws.toArray):=rfl;rw[w,Op.equalIn];simp only[Qd,Ze E,program,Qq,f,Bool.false_eq_true,if_false];obtain⟨B⟩:=W;rw[forIn_toArray];refine Dk B 0 vs ws hf F G (λ i v hi=>by simpa using hi) (λ i v hi=>by simpa using hi) ?_;cases hb:ZF vs ws <;> simpa[hb,Qi]using h
def OB(b:P.eqGuardType P.depth B=false)(h:V () U):Qq P (eqGuard op B x y (.agg c) (.agg args)) V U:=by
 unfold eqGuard
 have key (u:Unsupported):Qq P (do
     if !(<- program).eqGuardType (<- program).depth B then return
     if <- Op.eqGuardIn Op.maxDepth B (.agg c) (.agg args)then unsupported u:Sem Unit) V U:=by
  simp only[Qd,program,Qq,b,Bool.not_false,if_true,Qi];exact h
 cases op <;> first|exact key _|exact h
structure Ge(P:Program)(t:TypeId)(fs:Array Field):Prop where
 u:P.underlying t=some (.struct fs)
 s:P.stoodInHeld t=false
 f:Hw P fs.toList 0=true
 g:P.eqGuardType P.depth t=false
def pE(k:Ge P e W)(hx:Zf f x=.agg vs.toArray)(hy:Zf f y=.agg ws.toArray)(w:JO P W.toList vs=true)(B:JO P W.toList ws=true)(h:K (.bool (ZF vs ws)) U) :
  OX S (.rw (.binOp .eql e x y E) F) f K U:=by
 intro a' ha;simp only[execOp,ha,hx,hy];refine rq ?_;rw[Qd];refine OB k.g ?_;simp only[binOp,Qd];exact Oz k.u k.s k.f w B ⟨U,.refl _,h⟩
def pF(k:Ge P e W)(hx:Zf f x=.agg vs.toArray)(hy:Zf f y=.agg ws.toArray)(w:JO P W.toList vs=true)(B:JO P W.toList ws=true)(h:K (.bool (!ZF vs ws)) U) :
  OX S (.rw (.binOp .neq e x y E) F) f K U:=by
 intro a' ha;simp only[execOp,ha,hx,hy];refine rq ?_;rw[Qd];refine OB k.g ?_;simp only[binOp,Qd];exact Oz k.u k.s k.f w B ⟨U,.refl _,h⟩
def Zmq(hx:Zf f x=.int k ψ)(hy:Zf f y=.int k ω)(h:K (.int k (max ψ ω)) U) :
  OX S (.rw (.call { callee:=.builtin .max,args:=#[x,y],argTypes:=w }) B) f K U:=by
 intro a' ha;have hm:(#[x,y]:Array Operand).map a'.eval=#[.int k ψ,.int k ω]:=by simp[ha,hx,hy]
 simp only[execOp,resolve,hm,Qd,Qi,invoke,builtin,Builtin.max_,List.foldlM,Builtin.max2];refine⟨U,.refl _,?_⟩;have:(if ω > ψ then ω else ψ)=max ψ ω:=by rw[Int.max_def];split <;> split <;> omega
 rw[this];exact h
def Zmr(hx:Zf f x=.int k ψ)(hy:Zf f y=.int k ω)(h:K (.int k (min ψ ω)) U) :
  OX S (.rw (.call { callee:=.builtin .min,args:=#[x,y],argTypes:=w }) B) f K U:=by
 intro a' ha;have hm:(#[x,y]:Array Operand).map a'.eval=#[.int k ψ,.int k ω]:=by simp[ha,hx,hy]
 simp only[execOp,resolve,hm,Qd,Qi,invoke,builtin,Builtin.min_,List.foldlM,Builtin.min2];refine⟨U,.refl _,?_⟩;have:(if ω<ψ then ω else ψ)=min ψ ω:=by rw[Int.min_def];split <;> split <;> omega
 rw[this];exact h
def Qs{κ:Type}(enc:κ->Value):List (κ×Value)->Nat->List MapEntry
 |[],_=>[]
 |p::l,i=>⟨enc p.1,p.2,i⟩::Qs enc l (i+1)
def Qt(enc:κ->Value)(l:List (κ×Value)):Obj:=.map (Qs enc l 0).toArray l.length
def QL{κ:Type}[DecidableEq κ](k:κ):List (κ×Value)->Nat->Option (Nat×Value)
 |[],_=>none
 |p::l,i=>if k=p.1 then some (i,p.2)else QL k l (i+1)
def lk{κ:Type}[DecidableEq κ](k:κ)(l:List (κ×Value)):Option Value:=(QL k l 0).map (·.2)
def ZA{κ:Type}[DecidableEq κ](k:κ)(v:Value):List (κ×Value)->List (κ×Value)
 |[]=>[(k,v)]
 |p::l=>if k=p.1 then(p.1,v)::l else p::ZA k v l
structure WI(T:Type)(P:Program)(kt:TypeId){κ:Type}[DecidableEq κ](enc:κ->Value):Prop where
 chk:∀(e:Bool)(k:κ){Q:Unit->Qa T->Prop}{U:Qa T},Q () U->Qq P (Instr.checkKey e 10000 kt (enc k)) Q U
 find:∀(k:κ)(l:List (κ×Value)){Q:Option (Nat×Value)->Qa T->Prop}{U:Qa T},Q (QL k l 0) U->Qq P (Instr.findKey kt (enc k) (Qs enc l 0)) Q U
 bits:∀k,Instr.sameBits 10000 (enc k) (enc k)=true
def Fa{κ:Type}[DecidableEq κ]{enc:κ->Value}{d:TypeDesc}(h:∀k k',Instr.sameNow d (enc k) (enc k')=some (decide (k=k')))(k:κ):∀(l:List (κ×Value))(i j:Nat),Instr.findNow d (enc k) (Qs enc l j) i=some (QL k l i)
 |[],i,j=>rfl
 |p::l,i,j=>by
  simp only[Qs,Instr.findNow,h,QL];by_cases e:k=p.1
  .simp[e]
  .simp only[e,decide_false,if_false];exact Fa h k l (i+1) (j+1)
def Ed(h:∀k k',Instr.sameNow δ (enc k) (enc k')=none)(k:κ)(p:κ×Value)(l:List (κ×Value))(i j:Nat):Instr.findNow δ (enc k) (Qs enc (p::l) j) i=none:=by
 simp only[Qs,Instr.findNow,h]
def Oh{κ:Type}[DecidableEq κ]{enc:κ->Value}{f:TypeId}(h:∀k k'{Q:Bool->Qa T->Prop}{U:Qa T},Q (decide (k=k')) U->Qq P (Op.equal f (enc k) (enc k')) Q U)(k:κ) :
  ∀(l:List (κ×Value))(i j:Nat){Q:Option (Nat×Value)->Qa T->Prop}{U:Qa T},Q (QL k l i) U->Qq P (Instr.findAsking f (enc k) (Qs enc l j) i) Q U
 |[],i,j,Q,U,b=>b
 |p::l,i,j,Q,U,b=>by
  simp only[Qs,Instr.findAsking,Qd];refine h k p.1 ?_;by_cases e:k=p.1
  .simpa[e,QL,Qi]using b
  .simp only[e,decide_false,Bool.false_eq_true,if_false];exact Oh h k l (i+1) (j+1) (by simpa[QL,e]using b)
def WI.simple{d:TypeDesc}{κ:Type}[DecidableEq κ]{enc:κ->Value}(f:P.underlying E=some d)(w:WU d=true)(B:∀k k',Instr.sameNow d (enc k) (enc k')=some (decide (k=k')))(hb:∀k,Instr.sameBits 10000 (enc k) (enc k)=true):WI T P E enc:=by
 refine⟨λ e k Q U h=>?_,λ k l Q U h=>?_,hb⟩
 .have:∀m,Qq P (Instr.checkKey e (m+1) E (enc k)) Q U:=λ m=>by
   rw[Instr.checkKey];simp only[Qd,Ze f];cases d <;> simp[WU]at w <;> exact h
  exact this 9999
 .unfold Instr.findKey;simp only[Qd,Ze f,Fa B k l 0 0];exact h
def FO{m:Nat}{e:Bool}{xs:Array Value}{Q:PUnit->Qa T->Prop}:∀(E:List Field)(j:Nat)(vs:List Value),Hw P E j=true->JO P E vs=true->(∀i v,vs[i]?=some v->xs[j+i]?=some v)->Q () U ->
  Qq P (forIn E PUnit.unit λ fd _=>
   if fd.name ≠ "_" then do
    let a <- part fd.type xs fd.offset
    Instr.checkKey e (m+1) fd.type a
    pure (ForInStep.yield PUnit.unit)
   else pure (ForInStep.yield PUnit.unit)) Q U
 |[],_,_,_,_,_,h=>h
 |fd::r,j,vs,hf,B,hx,h=>by
  cases vs with
  |nil=>simp[JO]at B
  |cons v vs=>
  simp only[Hw,Bool.and_eq_true,decide_eq_true_eq]at hf;obtain⟨⟨⟨h1,h2⟩,b⟩,G⟩:=hf;simp only[JO,Bool.and_eq_true]at B;cases w:P.underlying fd.type with
  |none=>rw[w]at b;cases b
  |some d=>
   rw[w]at b B;rw[Vf,if_pos (by simpa using h1)];have F:xs[j]?=some v:=by simpa using hx 0 v rfl
   simp only[Qd,h2];rw[Gq w b F]
   have f:∀Q:Unit->Qa T->Prop,Qq P (Instr.checkKey e (m+1) fd.type v) Q U=Q () U:=λ Q=>by
    rw[Instr.checkKey];simp only[Qd,Ze w];cases d <;> simp[WU]at b <;> rfl
   rw[f];simp only[Qi];refine FO r (j+1) vs G B.2 (λ i v hi=>?_) h;have:=hx (i+1) v hi;rwa [show j+(i+1)=j+1+i by omega]at this
def WI.struct{κ:Type}[DecidableEq κ]{enc:κ->List Value}(w:Ge P E W)(b:∀k,JO P W.toList (enc k)=true)(G:∀k k',ZF (enc k) (enc k')=decide (k=k'))(hb:∀k,Instr.sameBits 10000 (.agg (enc k).toArray) (.agg (enc k).toArray)=true) :
  WI T P E (λ k=>.agg (enc k).toArray):=by
 refine⟨λ e k Q U h=>?_,λ k l Q U h=>?_,hb⟩
 .have:∀m,Qq P (Instr.checkKey e (m+1+1) E (.agg (enc k).toArray)) Q U:=λ m=>by
   rw[Instr.checkKey];simp only[Qd,Ze w.u];obtain⟨F⟩:=W;rw[forIn_toArray];exact FO F 0 (enc k) w.f (b k) (λ i v hi=>by simpa using hi) h
  exact this 9998
 .unfold Instr.findKey;simp only[Qd,Ze w.u];cases l with
  |nil=>exact h
  |cons p l=>
   rw[Ed (enc:=λ k=>Value.agg (enc k).toArray) (λ _ _=>rfl)];exact Oh (λ k k' Q U H=>Oz w.u w.s w.f (b k) (b k') (by rw[G];exact H)) k (p::l) 0 0 h
def P3(enc:κ->Value)(h:∀b,U.free b->K (.map (some b)) (U.put b (Qt enc []))) :
  OX S (.rw (.makeMap B none) e) f K U:=by
 intro a' ha;simp only[execOp];refine rq ?_;simp only[Instr.makeMap,Qd,newObj,Qq,Qi,Option.map_none];exact λ b hb=>⟨_,.refl _,h b hb⟩
def IH{κ:Type}[DecidableEq κ]{enc:κ->Value}{t:TypeId}{l:List (κ×Value)}{k:κ}(w:WI T P B enc)(F:P.underlying t=some (.map B E))(G:Xb P E=some q)
  (hm:U.has b (Qt enc l))  (h:Q (if ok then .tuple #[(lk k l).getD q,.bool (lk k l).isSome]else(lk k l).getD q) U):Qq P (Instr.lookup t (.map (some b)) (enc k) ok) Q U:=by
 obtain⟨H,hi,f⟩:=P4 G;unfold Instr.lookup;simp only[Qd,Ze F,getObj];refine⟨_,hm,rfl,rfl,?_⟩;simp only[Qq,Qt,Qi,Qd];refine w.chk _ _ ?_;refine w.find k l ?_;unfold lk at h;cases e:QL k l 0 with
 |none=>simp only[e,Option.map_none,Option.getD_none,Option.isSome_none]at h;simp only[Qd,X8 hi f,Qi];exact h
 |some p=>simp only[e,Option.map_some,Option.getD_some,Option.isSome_some]at h;simp only[Qi];exact h
def Ol{κ:Type}[DecidableEq κ]{enc:κ->Value}{w:TypeId}{l:List (κ×Value)}{k:κ}(E:WI T P w enc)(F:P.underlying e=some (.map w B))(G:Xb P B=some q)
  (hx:Zf f x=.map (some b)) (hy:Zf f y=enc k) (hm:U.has b (Qt enc l)) (h:K ((lk k l).getD q) U) :
  OX S (.rw (.lookup e x y false) H) f K U:=by
 intro a' ha;simp only[execOp,ha,hx,hy];exact rq (IH E F G hm ⟨U,.refl _,h⟩)
def YZ{κ:Type}[DecidableEq κ]{enc:κ->Value}{w:TypeId}{l:List (κ×Value)}{k:κ}(E:WI T P w enc)(F:P.underlying e=some (.map w B))(G:Xb P B=some q)
  (hx:Zf f x=.map (some b)) (hy:Zf f y=enc k) (hm:U.has b (Qt enc l)) (h:K (.tuple #[(lk k l).getD q,.bool (lk k l).isSome]) U) :
  OX S (.rw (.lookup e x y true) H) f K U:=by
 intro a' ha;simp only[execOp,ha,hx,hy];exact rq (IH E F G hm ⟨U,.refl _,h⟩)
def Eb{κ:Type}(enc:κ->Value):∀(l:List (κ×Value))(i:Nat),(Qs enc l i).length=l.length
 |[],_=>rfl
 |_::l,i=>by simp[Qs,Eb enc l]
def YK{κ:Type}(enc:κ->Value):∀(l l':List (κ×Value))(i:Nat),Qs enc (l++l') i=Qs enc l i++Qs enc l' (i+l.length)
 |[],l',i=>by simp[Qs]
 |p::l,l',i=>by simp[Qs,YK enc l l' (i+1)];congr 1;omega
def Sg{κ:Type}[DecidableEq κ]{k:κ}{v:Value}:∀{l:List (κ×Value)}{i:Nat},QL k l i=none->ZA k v l=l++[(k,v)]
 |[],_,_=>rfl
 |p::l,i,h=>by
  simp only[QL]at h;split at h
  .cases h
  .rename_i e;simp only[ZA,if_neg e,cons_append,Sg h]
def Ln{κ:Type}[DecidableEq κ]{enc:κ->Value}{k:κ}{v:Value}:∀{l:List (κ×Value)}{i j n:Nat}{x:Value},QL k l i=some (n,x)->i<=n/\(∃e,(Qs enc l j)[n-i]?=some e/\e.key=enc k) /\
   (Qs enc l j).modify (n-i) (λ e=>{ e with key:=enc k,val:=v })=Qs enc (ZA k v l) j/\(ZA k v l).length=l.length
 |[],_,_,_,_,h=>by cases h
 |p::l,i,j,n,x,h=>by
  simp only[QL]at h;split at h
  .rename_i e;cases h;refine⟨Nat.le_refl _,?_,?_,?_⟩
   .simp[Qs,e]
   .simp[Qs,ZA,e]
   .simp[ZA,e]
  .rename_i e;obtain⟨h1,⟨x,h2,b⟩,w,B⟩:=Ln (enc:=enc) (v:=v) (j:=j+1) h;have f:n-i=(n-(i+1))+1:=O1
   refine⟨O1,?_,?_,by simp[ZA,e,B]⟩
   .rw[f];exact⟨x,by simpa[Qs]using h2,b⟩
   .rw[f];simp only[Qs,ZA,if_neg e,modify_succ_cons,w]
def YL{κ:Type}[DecidableEq κ]{enc:κ->Value}{t Y X:TypeId}{l:List (κ×Value)}{k:κ}{v:Value}{u:Operand}(F:WI T P H enc)(V:P.underlying t=some (.map H Y))
  (hx:Zf f x=.map (some b)) (hy:Zf f y=enc k) (W:Zf f u=v) (hm:J0 b (Qt enc (ZA k v l)) (Qt enc l) U.M M') (h:K undef { U with M:=M' }) :
  OX S (.rw (.mapUpdate t x y u) X) f K U:=by
 intro a' ha;simp only[execOp,ha,hx,hy,W];refine ru ?_;unfold Instr.mapUpdate;simp only[Qd,Ze V,getObj];refine⟨_,.inr hm.mem,rfl,rfl,?_⟩;simp only[Qq,Qt,Qi,Qd];refine F.chk _ _ ?_;refine F.find k l ?_;cases e:QL k l 0 with
 |none=>
  have G:=Sg (v:=v) e;simp only[setObj,Qq];refine⟨Qt enc l,M',?_,rfl,rfl,rfl,⟨_,.refl _,h⟩⟩
  have:Obj.map ((Qs enc l 0).toArray.push { key:=enc k,val:=v,born:=l.length }) (l.length+1)=Qt enc (ZA k v l):=by
   rw[G];simp only[Qt,length_append,length_cons,length_nil,YK,Qs,Nat.zero_add];congr 1;apply Array.ext';simp
  rw[this];exact hm
 |some p=>
  obtain⟨n,w⟩:=p;obtain⟨h1,⟨I,h2,E⟩,L,N⟩:=Ln (enc:=enc) (v:=v) (j:=0) e
  have Q:(((Qs enc l 0).toArray[n]?).map (·.key)).getD (enc k)=enc k:=by
   have:(Qs enc l 0).toArray[n]?=some I:=by simpa using h2
   rw[this];exact E
  simp only[Qd,Instr.keyThatStays,Q,F.bits,if_true,Qi,setObj,Qq];refine⟨Qt enc l,M',?_,rfl,rfl,rfl,⟨_,.refl _,h⟩⟩
  have:Obj.map ((Qs enc l 0).toArray.modify n λ e=>{ e with key:=enc k,val:=v }) l.length=Qt enc (ZA k v l):=by
   simp only[Qt,N];congr 1;apply Array.ext';have B:=L;rw[Nat.sub_zero]at B;simpa using B
  rw[this];exact hm
def H7{b off:Nat}{e:TypeId}{M₀:List Qw}{Q:Qa T->Prop}:∀(vs:List Value)(i:Nat)(c:Array Value)(U:Qa T),U.M=.obj b (.cells c e (0,0))::M₀->(∀v∈vs,v.single=true)->off+i+vs.length<=c.size ->
  Q { U with M:=.obj b (.cells (ZU c off vs i) e (0,0))::M₀ }->QX ⟨b,off,none⟩ vs i Q U
 |[],i,c,U,f,_,_,h=>by
  have:U={ U with M:=.obj b (.cells c e (0,0))::M₀ }:=by rw[<- f]
  show Q U;rw[this];exact h
 |v::vs,i,c,U,f,w,hb,h=>by
  simp only[length_cons]at hb;refine⟨w v (mem_cons_self ..),.obj b (.cells (c.setIfInBounds (off+i) v) e (0,0))::M₀,?_,?_⟩
  .rw[f,Qo];exact .obj (a:=⟨b,off+i,none⟩) rfl (by show off+i<c.size;omega)
  .exact H7 vs (i+1) _ _ rfl (λ v B=>w v (mem_cons_of_mem _ B)) S3 h
def Pm(h:c.size=vs.length):ZU c 0 vs 0=vs.toArray:=by
 apply Array.ext
 .rw[VK];simpa using h
 .intro i h1 h2;have hi:i<vs.length:=by simpa using h2
  have:=Po vs c 0 0 i O1;rw[if_pos O1]at this;simp only[Nat.zero_add,Nat.sub_zero]at this;rw[Array.getElem?_eq_getElem h1,getElem?_eq_getElem hi]at this;simpa using Option.some.inj this
def Zv(hf:U.free b)(w:c.size=vs.length)(B:∀v∈vs,v.single=true)(h:∀f,U.le f->Zi f b vs.toArray->G f) :
  QX ⟨b,0,none⟩ vs 0 (λ U'=>∃f,Qv U' f/\G f) (U.put b (.cells c e)):=by
 refine H7 vs 0 c _ rfl B O1 ?_;rw[Pm w];exact⟨_,Wa (b:=b) (M':=U.M) (Perm.refl _),h _ (Gv hf) Zi.new⟩
def Acc(e:TypeId)(n:Nat)(v:Value)(cs:List Value)(M M₀:List Qw):Prop:=
 (v=.nl/\cs=[]/\M=M₀) \/
 (∃(b:Nat)(c:Array Value)(len cap:Nat),v=.slice (some ⟨b,0,none⟩) len cap/\cs.length=len*n/\len<=cap/\c.size=cap*n/\M=.obj b (.cells c e (0,0))::M₀/\∀(i:Nat)(x:Value),cs[i]?=some x->c[i]?=some x)
def Yh:Value->Bool
 |.slice none _ _=>true
 |_=>false
def Acc.nil:Acc e n .nl [] M₀ M₀:=.inl ⟨rfl,rfl,rfl⟩
def Acc.empty:Acc e n (.slice (some ⟨b,0,none⟩) 0 0) [] (.obj b (.cells #[] e (0,0))::M₀) M₀:=
 .inr ⟨b,#[],0,0,rfl,S1,Nat.le_refl _,S1,rfl,λ i x h=>by simp at h⟩
def Iu(b:Nat):∀(r c:Nat),Builtin.growBy b r c<=max c (b+(b+768) / 4)
 |0,c=>by simp[Builtin.growBy];omega
 |r+1,c=>by
  simp only[Builtin.growBy];split
  .omega
  .have:=Iu b r (c+(c+768) / 4);omega
def QF{need old:Nat}(h:old<need):Builtin.nextslicecap need old<=2*need+192:=by
 unfold Builtin.nextslicecap;split
 .omega
 .split
  .omega
  .have:=Iu need 4 old;omega
def Src(U:Qa T)(a:Option Addr)(cs:List Value):Prop:=(a=none/\cs=[])\/∃b,a=some b/\Je U b cs
def XR(h:Src U a cs)(hl:cs.length=N*n)(b:υ cs.toArray U):Qq P (Builtin.firstCells n N (.slice a N i)) υ U:=by
 rcases h with⟨rfl,rfl⟩|⟨w,rfl,f⟩
 .exact b
 .simp only[Builtin.firstCells];rw[<- hl];exact f.cells b
def PV(h:V () U):Qq P (askRoom b) V U:=by
 unfold askRoom;split
 .exact⟨rfl,h⟩
 .exact h
def Fo(f:U.M=.obj b (.cells c e (0,0))::M₀)(h:∀(i:Nat)(x:Value),cs[i]?=some x->c[i]?=some x):Je U ⟨b,0,none⟩ cs:=by
 intro i v hi;rw[Qo];exact⟨rfl,.inl ⟨c,e,(0,0),.inr (by rw[f];simp),by simpa using h i v hi⟩⟩
def Acc.src(h:Acc N n q cs U.M M₀):∃a l c,q=.slice a l c/\cs.length=l*n/\Src U a cs:=by
 rcases h with⟨rfl,rfl,f⟩|⟨b,c,len,cap,rfl,h1,h2,B,f,w⟩
 .exact⟨_,_,_,rfl,S1,.inl ⟨rfl,rfl⟩⟩
 .exact⟨_,_,_,rfl,h1,.inr ⟨_,rfl,Fo f w⟩⟩
def jy{e e2:Nat}{yl:Nat}
  (hu:P.underlying j=some (.slice e)) (ah:P.underlying c0=some (.slice e2)) (hi:P.info? e=some ξ) (ag:ξ.size=n) (hz:ξ.zero=some q) (ai:q.cells.size=n) (Q:ξ.bytes≠0/\ξ.bytes<=1024)
  (hx:Zf f x=D) (hy:Zf f y=.slice Y yl yc) (ha:Acc e n D cs U.M M₀) (L:Src U Y vs) (hl:vs.length=yl*n) (hn:0<n) (N:∀w∈vs,w.single=true) (aj:cs.length+vs.length<=1048576)
  (h:∀v' M',Acc e n v' (cs++vs) M' M₀->Yh v'=(Yh D&&vs.isEmpty)->K v' { U with M:=M' }) :
  OX S (.rw (.call { callee:=.builtin .append,args:=#[x,y],argTypes:=#[j,c0] }) ty) f K U:=by
 intro a' ad;obtain⟨sa,sl,sc,H,G,af⟩:=ha.src;have hm:(#[x,y]:Array Operand).map a'.eval=#[.slice sa sl sc,.slice Y yl yc]:=by simp[ad,hx,hy,H]
 simp only[execOp,resolve,hm,Qd,Qi,invoke,builtin];show Qq P (Builtin.append_ #[j,c0] ty #[.slice sa sl sc,.slice Y yl yc]) _ U;unfold Builtin.append_;simp only[getElem?_toArray,getElem?_cons_zero,getElem?_cons_succ,Qd,Ze hu,Ze ah,Jd hi,ag,Qi,Bool.false_eq_true,if_false,Builtin.lenOf,We hi,false_or,Bool.not_false,if_true];have al:sl<=cs.length:=by rw[G];exact Nat.le_mul_of_pos_right _ hn
 have am:yl<=vs.length:=by rw[hl];exact Nat.le_mul_of_pos_right _ hn
 have I:(cs++vs).length=(sl+yl)*n:=by rw[length_append,G,hl,Nat.add_mul]
 split
 .rename_i hle;rw[Qd];refine XR L hl ?_;rcases ha with⟨rfl,rfl,F⟩|⟨b,c,len,cap,rfl,h1,h2,W,F,h4⟩
  .cases H;have:yl=0:=O1
   subst this;have V:vs=[]:=by simpa using hl
   subst V;refine⟨U,.refl _,?_⟩;have:=h .nl U.M (.inl ⟨rfl,rfl,F⟩) rfl;exact this
  .cases H;simp only[Qd];refine Ww _ _ _ ?_;rw[Qo]
   have E:0+sl*n+0+vs.length<=c.size:=by
    have:(sl+yl)*n<=sc*n:=Nat.mul_le_mul_right n hle;rw[Nat.add_mul]at this;rw[W,hl];omega
   refine H7 _ _ c U F N E ?_;refine⟨_,.refl _,h _ _ (.inr ⟨b,_,sl+yl,sc,rfl,I,hle,by rw[VK];exact W,rfl,λ i x hi=>?_⟩) rfl⟩;rw[Po _ _ _ _ _ E];simp only[getElem?_append]at hi;split at hi
   .rename_i ae;rw[if_neg O1];exact h4 i x hi
   .rename_i hge;have ae:=(Zz4 hi);rw[if_pos O1];rw[show i-(0+sl*n+0)=i-cs.length by omega];exact hi
 .rename_i hgt;have ab:¬(((sl+yl:Nat):Int) > IntKind.i64.max/\ξ.bytes=0):=λ h=>Q.1 h.2
  have ac:¬(Builtin.nextslicecap (sl+yl) sc*ξ.bytes > 2^48):=by
   have:=QF (need:=sl+yl) (old:=sc) O1;have h2:Builtin.nextslicecap (sl+yl) sc*ξ.bytes<=(2*(sl+yl)+192)*1024:=Nat.mul_le_mul this Q.2;have aa:(2:Nat)^48=281474976710656:=D1
   rw[aa];omega
  simp only[We hi,Qd];rw[if_neg ab];simp only[We hi,Qd];rw[if_neg ac];simp only[choose,Qd];show ∀X,Qq P _ _ U;intro X;show Qq P (typeInfo e) _ U;rw[We hi];refine PV ?_;refine XR af G ?_;refine XR L hl ?_;simp only[X8 hi hz];refine Jh λ Z ak=>?_;have T:sl+yl<=Question.cut (.appendCap (sl+yl) sc e) X:=by simp only[Question.cut];omega
  refine⟨_,Zx (M':=.obj Z (.cells (cs.toArray++vs.toArray++Builtin.zeroCells q.cells (Question.cut (.appendCap (sl+yl) sc e) X-(sl+yl))) e)::M₀) ?_,?_⟩
  .show Sublist _ (.obj Z _::U.M);refine Sublist.cons_cons _ ?_;rcases ha with⟨rfl,rfl,F⟩|⟨b,c,len,cap,rfl,h1,h2,W,F,h4⟩
   .rw[F];exact Sublist.refl _
   .rw[F];exact sublist_cons_self _ _
  .refine h _ _ (.inr ⟨Z,_,sl+yl,Question.cut (.appendCap (sl+yl) sc e) X,rfl,I,T,?_,rfl,λ i x hi=>?_⟩) ?_
   .simp only[Array.size_append,size_toArray,G,hl,Builtin.zeroCells,Array.size_map,Array.size_range,ai];rw[<- Nat.add_mul,<- Nat.add_mul];congr 1;omega
   .have:(cs.toArray++vs.toArray)=(cs++vs).toArray:=S1
    rw[this,Array.getElem?_append_left (by simpa using(Zz4 hi))];simpa using hi
   .rcases ha with⟨rfl,rfl,F⟩|⟨b,c,len,cap,rfl,h1,h2,W,F,h4⟩
    .cases H;have:vs≠[]:=by rintro rfl;simp at hl;omega
     cases vs with
     |nil=>exact absurd rfl this
     |cons=>rfl
    .rfl
def M9(P:Program)(t e n:Nat):Bool:=
 (match P.underlying t with|some (.slice e')=>decide (e'=e)|_=>false)&&(match P.info? e with
  |some b=>decide (b.size=n)&&(match b.zero with|some z=>decide (z.cells.size=n)|none=>false)&&decide (b.bytes≠0)&&decide (b.bytes<=1024)
  |none=>false)&&decide (0<n)
structure X7(P:Program)(t e n:Nat):Prop where
 u:P.underlying t=some (.slice e)
 i:∃inf z,P.info? e=some inf/\inf.size=n/\inf.zero=some z/\z.cells.size=n/\inf.bytes≠0/\inf.bytes<=1024
 n:0<n
def X7.of(h:M9 P N i n=true):X7 P N i n:=by
 unfold M9 at h;simp only[Bool.and_eq_true,decide_eq_true_eq]at h;obtain⟨⟨h1,h2⟩,f⟩:=h;refine⟨?_,?_,f⟩
 .split at h1
  .rename_i e' hu;simp only[decide_eq_true_eq]at h1;subst h1;exact hu
  .cases h1
 .split at h2
  .rename_i inf hi;simp only[Bool.and_eq_true,decide_eq_true_eq]at h2;obtain⟨⟨⟨a,b⟩,c⟩,d⟩:=h2;split at b
   .rename_i z hz;simp only[decide_eq_true_eq]at b;exact⟨inf,z,hi,a,hz,b,c,d⟩
   .cases b
  .cases h2
def Wn{v:Value}{new:List Value}(k:X7 P i len n)
  (hx:Zf f x=v) (hy:Zf f y=.slice a c0 yc) (ha:Acc len n v cs U.M M₀) (E:Src U a new) (hl:new.length=c0*n) (b:∀w∈new,w.single=true) (B:cs.length+new.length<=1048576)
  (h:∀F M',Acc len n F (cs++new) M' M₀->Yh F=(Yh v&&new.isEmpty)->K F { U with M:=M' }) :
  OX S (.rw (.call { callee:=.builtin .append,args:=#[x,y],argTypes:=#[i,i] }) j) f K U:=by
 obtain⟨N,z,h1,h2,H,I,h5,L⟩:=k.i;exact jy k.u k.u h1 h2 H I ⟨h5,L⟩ hx hy ha E hl k.n b B h
def YA(P:Program)(t:TypeId):Array Field:=match P.underlying t with|some (.struct b)=>b|_=>#[]
def IU(P:Program)(t:TypeId):Bool:=
 (match P.underlying t with|some (.struct _)=>true|_=>false)&&!P.stoodInHeld t&&Hw P (YA P t).toList 0&&!P.eqGuardType P.depth t
def Ge.of(h:IU P B=true):Ge P B (YA P B):=by
 unfold IU at h;simp only[Bool.and_eq_true,Bool.not_eq_true']at h;obtain⟨⟨⟨h1,h2⟩,b⟩,f⟩:=h;refine⟨?_,h2,b,f⟩;unfold YA;split at h1
 .rename_i fs hu;rw[hu]
 .cases h1
def BK(b:q.cells.size=n):(Builtin.zeroCells q.cells N).toList.length=N*n:=by
 simp[Builtin.zeroCells,b]
def Zh1(b:q.cells=#[q])(k:Nat):(Builtin.zeroCells q.cells k).toList=replicate k q:=by
 apply ext_getElem
 .simp[Builtin.zeroCells,b]
 .intro i h1 h2;simp[Builtin.zeroCells,b,Nat.mod_one]
def Zlj{off cap:Nat}(Q:P.underlying i=some (.slice j))(hi:P.info? j=some ξ)(T:ξ.zero=some q)(G:q.cells.size=n)
  (B:∀w∈(Builtin.zeroCells q.cells len).toList,w.single=true)
  (hx:Zf f x=.slice (some ⟨b,off,none⟩) len cap) (H:U.M=.obj b (.cells c j (0,0))::M₀) (hb:off+len*n<=c.size) (h:K undef { U with M:=.obj b (.cells (ZU c off (Builtin.zeroCells q.cells len).toList 0) j (0,0))::M₀ }) :
  OX S (.rw (.call { callee:=.builtin .clear,args:=#[x],argTypes:=#[i] }) c0) f K U:=by
 intro a' F;have hm:(#[x]:Array Operand).map a'.eval=#[.slice (some ⟨b,off,none⟩) len cap]:=by simp[F,hx]
 simp only[execOp,resolve,hm,Qd,Qi,invoke,builtin];show Qq P (Builtin.clear_ #[i] c0 #[.slice (some ⟨b,off,none⟩) len cap]) _ U;unfold Builtin.clear_;simp only[getElem?_toArray,getElem?_cons_zero,Qd,Ze Q];cases len with
 |zero=>
  refine⟨U,.refl _,?_⟩;have L:(Builtin.zeroCells q.cells 0).toList=[]:=by simp[Builtin.zeroCells]
  rw[L]at h;have N:U={ U with M:=.obj b (.cells (ZU c off [] 0) j (0,0))::M₀ }:=by simp only[ZU];rw[<- H]
  rw[N];exact h
 |succ len=>
  show Qq P (do storeCells ⟨b,off,none⟩ (Builtin.zeroCells (<- zeroValue j).cells (len+1)).toList;pure (Value.tuple #[]):Sem Value) _ U;rw[Qd,X8 hi T,Qd];refine Ww _ _ _ (H7 _ _ c U H B (by rw[BK G];omega) ?_);exact⟨_,.refl _,h⟩
def Ee(V:P.underlying len=some (.slice j))(hi:P.info? j=some ξ)(X:ξ.zero=some q)(L:q.cells=#[q])(I:ξ.size=1)(F:ξ.bytes<=64)
  (hx:Zf f x=.int .i64 n) (hy:Zf f y=.int .i64 n) (T:n<=1048576) (h:∀b,U.free b->K (.slice (some ⟨b,0,none⟩) n n) (U.put b (.cells (replicate n q).toArray j))) :
  OX S (.rw (.makeSlice len x y) c0) f K U:=by
 intro a' ha;simp only[execOp,ha,hx,hy];refine rq ?_;unfold Instr.makeSlice;have W:IntKind.wrap .i64 (n:Int)=n:=Gl I1;simp only[Qd,Ze V,asInt,asIntOf,Qi,We hi,W]
 have Q:(ξ.bytes:Int)*(n:Int)<=67108864:=by
  have:=Nat.mul_le_mul F T;have j:((ξ.bytes*n:Nat):Int)=(ξ.bytes:Int)*n:=S1
  omega
 have E:(2:Int)^48=281474976710656:=D1
 have H:(((decide ((n:Int)<0)|| decide ((ξ.bytes:Int)*(n:Int) > 2^48))|| decide ((n:Int)<0))|| decide ((n:Int) > n))=false:=by
  rw[E];simp only[Bool.or_eq_false_iff,decide_eq_false_iff_not];omega
 simp only[H,Bool.false_eq_true,if_false];rw[Qd];refine PV ?_;simp only[Qd,Jd hi,I,Nat.mul_one,Int.toNat_natCast]
 have fin:∀c:Array Value,(n≠0->c=q.cells)->Qq P (newRow j ((Array.range n).map (c[· % c.size]!))) (λ a U'=>∃M,Qv U' M/\K (.slice (some a) n n) M) U:=by
  intro c N;refine Jh λ b hb=>⟨_,.refl _,?_⟩
  have:(Array.range n).map (c[· % c.size]!)=(replicate n q).toArray:=by
   apply Array.ext
   .simp
   .intro i h1 h2;have G:n≠0:=by simp at h1;omega
    have B:=N G;rw[L]at B;subst B;simp[Nat.mod_one]
  rw[this];exact h b hb
 split
 .rename_i h0;exact fin #[] λ h=>absurd h0 h
 .simp only[Qd,X8 hi X];exact fin _ λ _=>rfl
def xA{s:ByteArray}(G:P.underlying N=some .string)(B:P.underlying n=some (.slice len))(E:P.underlying len=some (.int .u8))(hx:Zf f x=.string s)
  (h:∀b cap(c:Array Value)fr,U.free b->(∀(i:Nat)u,s.data[i]?=some u->c[i]?=some (.int .u8 u.toNat))->K (.slice (some ⟨b,0,none⟩) s.size cap) { U with I:=JD U.I b (.cells c len fr) }) :
  OX S (.rw (.convert N n x) j) f K U:=by
 intro a' ha;simp only[execOp,ha,hx];refine rq ?_;unfold convert;simp only[Qd,Ze G,Ze B,Ze E,Conv.stringToBytes,choose];show ∀H,Qq P _ _ U;intro H;simp only[Qi,Qq];refine Jh λ b hb=>?_;unfold markStringish;simp only[Qd,shape];refine⟨_,.inr (mem_cons_self ..),?_⟩;simp only[Obj.shapeOf,Qq,freeze];refine⟨D1,_,_,_,rfl,?_⟩;refine⟨_,Wa (b:=b) (M':=U.M) (Perm.refl _),?_⟩;refine h b _ _ _ hb λ i u hi=>?_;have w:=(Array.getElem?_eq_some_iff.1 hi).1;rw[Array.getElem?_append_left (by simpa using w)];simp[hi]
def kI(t:Tmp)(b:Fm->List Value->Fm)(f:Fm):List Value->Fm
 |[]=>f
 |v::vs=>b (JH f t v) vs
def HX(f:Fm):List Tmp->List Value->Fm
 |[],_=>f
 |t::ts,vs=>kI t (λ f vs=>HX f ts vs) f vs
def La{N:Nat}:∀(ts:List Tmp)(vs:List Value)(tmps:Array Value)(f:Fm),(∀t∈ts,t<N)->FR N ⟨tmps,[]⟩ f []->FR N ⟨(ts.zip vs).foldl (λ tmps p=>tmps.setIfInBounds p.1 p.2) tmps,[]⟩ (HX f ts vs) []
 |[],_,_,_,_,h=>h
 |t::ts,[],_,_,_,h=>h
 |t::ts,v::vs,tmps,f,b,h=>by
  simp only[zip_cons_cons,foldl_cons];show FR N _ (HX (JH f t v) ts vs) [];exact La ts vs _ _ (λ t ht=>b t (mem_cons_of_mem _ ht)) (h.put (some t) v λ d w=>by cases w;exact b t (mem_cons_self ..))
def UB(l:Nat)(lo:LoopState->Option Code->Obj)(K:Value->Qa T->Prop)(j:Option Code)(U:Qa T):Prop:=
 ∃M',J0 l (lo (if j.isNone then .ready else .done) j) (lo .busy none) U.M M'/\K (.bool j.isNone) { U with M:=M' }
def vP(l:Nat)(lo:LoopState->Option Code->Obj)(n:Qa T->Prop)(x:Nat->Qa T->Prop)(r:Qa T->Prop)(U:Qa T):Prop:=
 ∃st j M',st≠.busy/\J0 l (lo .exhausted j) (lo st j) U.M M'/\(match j with|none=>n { U with M:=M' }|some (.exit i)=>x i { U with M:=M' }|some .ret=>r { U with M:=M' }|_=>False)
def Lu(S:Sys P T)(fn:FuncId)(params:Array Tmp)(as E:C)(l:Nat)(lo:LoopState->Option Code->Obj)(f:Fm):Prop:=
 ∀(vs:List Value)(K:Value->Qa T->Prop)(U:Qa T),vs.length=params.size->Qw.obj l (lo .ready none)∈U.M ->
  ZT S fn (some l) as (λ w h B=>h=[]/\∃M₁,J0 l (lo .busy none) (lo .ready none) B.M M₁ /\
   ZT S fn (some l) E (λ _ _ b=>UB l lo K none b) (λ i _ _ b=>UB l lo K (some (.exit i)) b) (λ _ _ b=>UB l lo K (some .ret) b) w [] { B with M:=M₁ })
   (λ _ _ _ _=>False) (λ _ _ _=>False) (HX f params.toList vs) [] U->Zm S l vs K U
def VM{Q:Loop->Qa T->Prop}(hm:Qw.obj b (.loop r)∈U.M)(h:Q r U):Qq P (Instr.getLoop b) Q U:=by
 unfold Instr.getLoop;rw[Qd];exact⟨.loop r,.inr hm,rfl,rfl,h⟩
def zy(b:r.state=.ready)(f:J0 N (.loop { r with state:=.busy }) (.loop r) U.M M')(h:V () { U with M:=M' }):Qq P (Instr.beginRound N) V U:=by
 unfold Instr.beginRound;rw[Qd];refine VM f.mem ?_;simp only[Qd,setObj,Qq];refine⟨_,M',f,rfl,rfl,rfl,?_⟩;rw[b];exact h
def O0{j:Option Code}(b:J0 N (.loop { r with state:=if j.isNone then .ready else .done,pending:=j }) (.loop r) U.M M')(h:Q (.bool j.isNone) { U with M:=M' }):Qq P (Instr.endRound N j) Q U:=by
 unfold Instr.endRound;rw[Qd];refine VM b.mem ?_;simp only[Qd,setObj,Qq];exact⟨_,M',b,rfl,rfl,rfl,h⟩
def jD(b:r.state≠.busy)(f:J0 N (.loop { r with state:=.exhausted }) (.loop r) U.M M')(h:φ r.pending { U with M:=M' }):Qq P (Instr.endLoop N) φ U:=by
 unfold Instr.endLoop;rw[Qd];refine VM f.mem ?_;have:(r.state==.busy)=false:=by simpa using b
 rw[this];simp only[Bool.false_eq_true,if_false,Qd,setObj,Qq];exact⟨_,M',f,rfl,rfl,rfl,h⟩
def Ls(hm:P.follows .mixedOrders=true){fn:Nat}{b:Array Value}
  (hc:Zf f y=.func (.func g) args b) (hp:params.toList.all (λ t=>decide (t<N))=true) (hg:(P.funcs[g]?.any λ fd=>fd.body.isSome&&fd.name != "runtime.NumGoroutine")=true)
  (h:∀(l d:Nat)(lo:LoopState->Option Code->Obj),U.free d->U.free l->l≠d->Lu S fn params as cc l lo f ->
   Qb S g (args.toList++[Value.func (.yield l) #[] #[]]++b.toList).toArray (λ _ X=>JS X ->
    vP l lo (λ U=>ζ f (⟨.collected d,#[]⟩::ds) U) (λ i U=>χ i f (⟨.collected d,#[]⟩::ds) U) (λ U=>η f (⟨.collected d,#[]⟩::ds) U) X)
    { U with M:=.obj l (lo .ready none)::.obj d (.deferred (some []))::U.M }) :
  ZT S fn none (.rng N mu dets y params as cc) ζ χ η f ds U:=by
 intro ca cb Z aa a hf;have hN:∀t∈params.toList,t<N:=λ t ht=>by simpa using all_eq_true.1 hp t ht
 refine zT ?_;simp only[Instr.enterLoop,Qd,newObj,Qq,Qi];intro d hd l hl;have ad:U.free l:=⟨hl.1,λ η hr=>hl.2 η (mem_cons_of_mem _ hr)⟩;have ae:l≠d:=λ e=>hl.2 (.obj d (.deferred (some []))) (mem_cons_self ..) e.symm
 let lo:LoopState->Option Code->Obj:=λ st j=>.loop { state:=st,pending:=j,fn,tmps:=a.tmps,params,assign:=ca,body:=cb,defers:=d }
 have L:FR N ⟨a.tmps,[]⟩ f []:=⟨rfl,hf.size,hf.get⟩
 have hR:Lu S fn params as cc l lo f:=by
  intro vs K U' ai W hw;unfold Zm Instr.yield;rw[Qd];refine VM (r:={ state:=.ready,pending:=none,fn,tmps:=a.tmps,params,assign:=ca,body:=cb,defers:=d }) W ?_;have ag:¬(vs.toArray.size≠params.size):=by simp[ai]
  simp only[ag,if_false,Qi];show WC S l fn _ ca cb K U';refine WC.of_body ?_
  have ac:FR N ⟨(params.zip vs.toArray).foldl (λ tmps(t,a)=>tmps.setIfInBounds t a) a.tmps,[]⟩ (HX f params.toList vs) []:=by
   have:=La params.toList vs a.tmps f hN L;rw[<- Array.foldl_toList];simpa using this
  rw[<- Z]at hw;refine Zq.mono (Ga hm ca ac hw) λ e a' U1 hp=>?_;obtain⟨an,al,I,hp⟩:=hp;cases e with
  |exit i=>exact hp.elim
  |ret=>exact hp.elim
  |normal=>
   obtain⟨rfl,M₁,w,hp⟩:=hp;refine⟨rfl,zy (r:={ state:=.ready,pending:=none,fn,tmps:=a.tmps,params,assign:=ca,body:=cb,defers:=d }) rfl w ?_⟩;rw[<- aa]at hp;refine Zq.mono (Ga hm cb I hp) λ e ak U2 hp=>?_;obtain⟨ao,am,aj,hp⟩:=hp;cases e with
   |normal=>obtain⟨M',w,V⟩:=hp;exact O0 (r:={ state:=.busy,pending:=none,fn,tmps:=a.tmps,params,assign:=ca,body:=cb,defers:=d }) w V
   |exit i=>obtain⟨M',w,V⟩:=hp;exact O0 (r:={ state:=.busy,pending:=none,fn,tmps:=a.tmps,params,assign:=ca,body:=cb,defers:=d }) w V
   |ret=>obtain⟨M',w,V⟩:=hp;exact O0 (r:={ state:=.busy,pending:=none,fn,tmps:=a.tmps,params,assign:=ca,body:=cb,defers:=d }) w V
 have B:=h l d lo hd ad ae hR;have ab:a.eval y=.func (.func g) args b:=by rw[hf.eval];exact hc
 have af:(#[.const (.func (.yield l) #[] #[])]:Array Operand).map a.eval=#[Value.func (.yield l) #[] #[]]:=by simp[Act.eval]
 simp only[resolve,K7,ab,af,Qd,Deferred.ofValue,Qi,invoke,callFunc,program,Qq];cases Q:P.funcs[g]? with
 |none=>simp[Q]at hg
 |some fd=>
  simp only[Q,Option.any_some,Bool.and_eq_true,bne_iff_ne,ne_eq]at hg;obtain⟨h1,h2⟩:=hg;have G:fd.body.isNone=false:=by cases ap:fd.body <;> simp_all
  have F:(fd.name== "runtime.NumGoroutine")=false:=by simpa using h2
  simp only[F,G,Bool.false_eq_true,if_false,Qi];have e:(args++#[Value.func (.yield l) #[] #[]])++b=(args.toList++[Value.func (.yield l) #[] #[]]++b.toList).toArray:=by apply Array.ext';simp
  rw[e];refine Qb.sep B λ v X hs H=>⟨X,.refl _,?_⟩;obtain⟨st,j,M',ah,w,H⟩:=H hs;refine jD (r:={ state:=st,pending:=j,fn,tmps:=a.tmps,params,assign:=ca,body:=cb,defers:=d }) ah w ?_;have E:a.defers=ds:=hf.ds;cases j with
  |none=>exact⟨T1,by simpa[E]using H⟩
  |some cd=>
   cases cd with
   |exit i=>exact L6 ⟨T1,by simpa[E]using H⟩
   |ret=>exact LD ⟨T1,by simpa[E]using H⟩
   |_=>exact H.elim
structure Hv where
 name:ByteArray
 cls:Int
structure YF where
 ed:Int
 fr:Int
 to:Int
structure YE where
 ed:Int
 one:Int
 two:Int
 lev:Int
structure WK where
 eds:List (List Hv)
 mvs:List YF
 kns:List YE
def QP(n a b:Int):Bool:=decide (a<=n)&&decide (n<=b)
def WK.isEd(t:WK)(e:Int):Bool:=QP e 0 (t.eds.length-1)
def WK.items(t:WK)(e:Int):List Hv:=if t.isEd e then t.eds.getD e.toNat []else[]
def WK.isItem(t:WK)(e n:Int):Bool:=QP n 0 ((t.items e).length-1)
def WK.chk(t:WK)(e:Int):Option Int->List Int->Int
 |_,[]=>0
 |p,n::l=>if t.isItem e n then(match p with|some m=>if n<=m then 7 else t.chk e (some n) l|none=>t.chk e (some n) l)else 6
def WK.chk_cons(t:WK)(e:Int)(p:Option Int)(n:Int)(l:List Int):t.chk e p (n::l)=if t.isItem e n then(match p with|some m=>if n<=m then 7 else t.chk e (some n) l|none=>t.chk e (some n) l)else 6:=rfl
def Hl{x:α}(h:μ[i]?=some x):μ.drop i=x::μ.drop (i+1):=by
 obtain⟨b,rfl⟩:=List.getElem?_eq_some_iff.1 h;exact drop_eq_getElem_cons b
def Wf{x:α}(h:μ[i]?=some x):μ.take (i+1)=μ.take i++[x]:=by
 rw[take_add_one,h];rfl
structure TH where
 ea:Option Addr
 el:Nat
 ec:Nat
 ma:Option Addr
 ml:Nat
 mc:Nat
 ka:Option Addr
 kl:Nat
 kc:Nat
variable{h:TH}
abbrev TH.v(h:TH):Value:=.agg #[.slice h.ea h.el h.ec,.slice h.ma h.ml h.mc,.slice h.ka h.kl h.kc]
def Gt(U:Qa T)(v:Value)(l:List Hv):Prop:=∃a len cap,v=.slice a len cap/\Q7 U a len 2 l λ it vs=>vs=[.string it.name,.int .i64 it.cls]
structure GK(U:Qa T)(h:TH)(t:WK):Prop where
 eds:Q7 U h.ea h.el 1 t.eds λ l vs=>∃v,vs=[v]/\Gt U v l
 mvs:Q7 U h.ma h.ml 3 t.mvs λ m vs=>vs=[.int .i64 m.ed,.int .i64 m.fr,.int .i64 m.to]
 kns:Q7 U h.ka h.kl 4 t.kns λ k vs=>vs=[.int .i64 k.ed,.int .i64 k.one,.int .i64 k.two,.int .i64 k.lev]
 el:t.eds.length<2^60
 ml:t.mvs.length<2^60
 kl:t.kns.length<2^60
 il:∀l∈t.eds,l.length<2^60
 nl:∀l∈t.eds,∀it∈l,it.name.size<2^60
def Gt.lg{U U':Qa T}{v:Value}{l:List Hv}(h:Gt U v l)(hl:U.lg U'):Gt U' v l:=
 let ⟨a,len,cap,e,h⟩:=h;⟨a,len,cap,e,h.lg hl λ _ _ h=>h⟩
def GK.lg{U U':Qa T}{h:TH}{t:WK}(k:GK U h t)(hl:U.lg U'):GK U' h t:=
 ⟨k.eds.lg hl λ _ _⟨v,e,h⟩=>⟨v,e,h.lg hl⟩,k.mvs.lg hl λ _ _ h=>h,k.kns.lg hl λ _ _ h=>h,k.el,k.ml,k.kl,k.il,k.nl⟩
def GK.items_lt{t:WK}(k:GK U h t)(e:Int):(t.items e).length<2^60:=by
 unfold WK.items;split
 .rw[getD_eq_getElem?_getD];cases hx:t.eds[e.toNat]? with
  |none=>simp
  |some l=>exact k.il l (mem_of_getElem? hx)
 .simp
def Zi.sees3{o:Nat}(h:Zi U b c)(f:c[o]?=some q):U.sees ((Addr.mk b 0 none).add o) q:=by
 rw[Qo,Nat.zero_add];exact h.sees f
def Zi.rdT(hb:Zi U b #[.slice h.ea h.el h.ec,.slice h.ma h.ml h.mc,.slice h.ka h.kl h.kc])(f:∀x o,U.I x=some o->U'.I x=some o):Je U' ⟨b,0,none⟩ [.slice h.ea h.el h.ec,.slice h.ma h.ml h.mc,.slice h.ka h.kl h.kc]:=
 let ⟨t,fr,h⟩:=hb
 Zi.reads (⟨t,fr,f _ _ h⟩:Zi U' b _) λ k v w=>by simpa using w
