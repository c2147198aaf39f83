/- Lemmas. No conditions. -/
import Derived.Test.YtignaaddghcanaaGreatDoorB00
set_option linter.all false
open List
namespace Go
abbrev Operand.t(n:Nat):Operand:=.tmp n
abbrev Operand.ci(n:Int):Operand:=.const (.int .i64 n)
abbrev Operand.cb(b:Bool):Operand:=.const (.bool b)
abbrev Operand.cn:Operand:=.const .nl
end Go
namespace Go.TM
variable{ok q:Bool}{A ζ:Prop}{T α β κ:Type}{P:Program}{f:Fm}{b N n j ty len i c0 yc:Nat}{v z:Value}{W:Act}{ds:List Deferred}{S:Sys P T}{fn g:FuncId}{ro:Option Nat}{ops:Array Oper}{todo mu tail dets:List Nat}{Q:Ex->Act->Qa T->Prop}{η:Oper}{c args first:Array Value}{U' U:Qa T}{late:Nat->Bool}{kind:Nat->Nat}{ε:Nat->Nat->Prop}{L:Qa T->Prop}{E:Qa T->Prop}{vs ws cs:List Value}{θ:Value->Prop}{υ φ:Obj}{M M' M₀:List Qw}{fd:Func}{a ya:Option Addr}{δ:List α}{ρ:α->List Value->Prop}{K:Value->Qa T->Prop}{s:Sem Value}{B e G t' w:TypeId}{γ:Bool->Qa T->Prop}{x y:Operand}{V:TypeDesc}{μ:α->β->Sem (ForInStep β)}{χ:β->Qa T->Prop}{op:BinOp}{D:Unit->Qa T->Prop}{ω:Array TypeId}{enc:κ->Value}{ν:Array Value->Qa T->Prop}{σ:TypeInfo}{r:Loop}{τ:Loop->Qa T->Prop}{ξ:Option Code->Qa T->Prop}{params:Array Tmp}
abbrev O.rw(o:Op)(t:TypeId):O:=.raw { dst:=none,op:=o,type:=t,pos := "", after:=#[],guard:=none }
structure St where
 o:O
 dst:Option Nat
 g:Option (Nat×Bool)
 dfr:Option (Operand×Array Operand):=none
variable{st:St}
abbrev St.d(n:Nat)(o:O):St:=⟨o,some n,none,none⟩
abbrev St.m(n k:Nat):St:=⟨.mv (.tmp k),some n,none,none⟩
abbrev St.u(n j:Nat)(b:Bool)(o:O):St:=⟨o,some n,some (j,b),none⟩
abbrev Zl(T:Type):=Fm->List Deferred->Qa T->Prop
variable{π:Nat->Zl T}
def GB(b f:Bool)(A B:Prop):Prop:=
 match b,f with
 |true,true=>A
 |false,false=>A
 |true,false=>B
 |false,true=>B
def Jt(h:ok=q->A)(w:ok=!q->ζ):GB ok q A ζ:=by
 cases ok <;> cases q <;> first|exact h rfl|exact w rfl
def CB(b:Bool)(A B:Prop):Prop:=
 match b with
 |true=>A
 |false=>B
def Qg(h:ok=true->A)(f:ok=false->ζ):CB ok A ζ:=by cases ok <;> first|exact h rfl|exact f rfl
def PQ(S:Sys P T)(ro:Option Nat)(st:St)(z:Zl T->Zl T)(K:Zl T):Zl T:=λ f ds U=>
  match st.g with
  |some (j,h)=>(match f j with
   |.bool b=>GB b h (OX S st.o (JE f j (.bool h)) (λ v U'=>z K (ZB (JE f j (.bool h)) st.dst v) ds U') U)
     (z K (ZB (JE f j (.bool !h)) st.dst undef) ds U)
   |.tuple _=>z K (ZB f st.dst undef) ds U
   |_=>False)
  |none=>(match st.dfr with
   |some (c,args)=>(match Zg f c with
    |.func fn first w=>ro=none/\z K (ZB f st.dst undef) ({ target:=.fn fn w,args:=first++args.map (Zg f) }::ds) U
    |_=>False)
   |none=>OX S st.o f (λ v U'=>z K (ZB f st.dst v) ds U') U)
def JH(S:Sys P T)(ro:Option Nat)(l:List St):Zl T->Zl T:=List.rec (motive:=λ _=>Zl T->Zl T) (λ K=>K) (λ st _ b=>PQ S ro st b) l
def OJ(S:Sys P T)(ro:Option Nat)(st:St)(r:List St)(K:Zl T):JH S ro (st::r) K=PQ S ro st (JH S ro r) K:=rfl
def PW(S:Sys P T)(G:Qa T->Prop)(kd:Nat)(st:St)(E:(Qa T->Prop)->Zl T->Zl T)(C:Qa T->Prop)(K:Zl T):Zl T:=λ f ds U=>
  let run (f:Fm):Prop:=match kd with
   |0=>OX S st.o f (λ v _=>E C K (ZB f st.dst v) ds U) U
   |1=>∃v,(∀U',U.le U'->C U'->OX S st.o f (λ B z=>B=v/\∃h,Qv z h/\U'.le h) U')/\E C K (ZB f st.dst v) ds U
   |3=>∃v,(∀U',U.le U'->C U'->OX S st.o f (λ B z=>B=v/\∃h,Qv z h/\U'.le h) U')/\(∀U',G U'->OX S st.o f (λ B z=>B=v/\∃h,Qv z h/\U'.le h) U')/\E C K (ZB f st.dst v) ds U
   |_=>∃F:Value->Qa T->Prop,(∀v,Xz (F v))/\(∀U',U.le U'->C U'->OX S st.o f (λ B z=>∃h,Qv z h/\F B h/\U'.le h) U') /\
     ∀v,(∃U',U.le U'/\C U'/\F v U')->E (λ U'=>C U'/\F v U') K (ZB f st.dst v) ds U
  match st.g with
  |some (j,w)=>(match f j with
   |.bool b=>GB b w (run (JE f j (.bool w))) (E C K (ZB (JE f j (.bool !w)) st.dst undef) ds U)
   |.tuple _=>E C K (ZB f st.dst undef) ds U
   |_=>False)
  |none=>run f
def DX(S:Sys P T)(G:Qa T->Prop)(l:List (Nat×St)):(Qa T->Prop)->Zl T->Zl T:=
 List.rec (motive:=λ _=>(Qa T->Prop)->Zl T->Zl T) (λ C K f ds U=>∀U',U.le U'->C U'->K f ds U') (λ p _ b=>PW S G p.1 p.2 b) l
def IA(S:Sys P T)(G:Qa T->Prop)(kd:Nat)(st:St)(r:List (Nat×St)):DX S G ((kd,st)::r)=PW S G kd st (DX S G r):=rfl
def LI(S:Sys P T)(G:Qa T->Prop)(st:St)(K:Zl T):Zl T:=λ f ds U=>
 OX S st.o f (λ w h=>w=undef/\∃b,Qv h b/\G b) U/\∀U',G U'->K (ZB f st.dst undef) ds U'
def ovr:List (Nat×Value)->Fm->Fm
 |[],f=>f
 |p::l,f=>JE (ovr l f) p.1 p.2
def Xr(f:Fm)(l:List (Nat×Value)):Prop:=List.rec (motive:=λ _=>Prop) True (λ p _ b=>f p.1=p.2/\b) l
def KL(h:f b=v):JE f b v=f:=by
 funext t;simp only[JE];cases e:Nat.beq t b with
 |true=>rw[Nat.eq_of_beq_eq_true e];exact h.symm
 |false=>rfl
def Xr.ovr{f:Fm}:∀{l:List (Nat×Value)},Xr f l->ovr l f=f
 |[],_=>rfl
 |(d,v)::l,h=>by
  show JE (TM.ovr l f) d v=f;rw[Xr.ovr h.2];exact KL h.1
structure FR(N:Nat)(a:Act)(f:Fm)(ds:List Deferred):Prop where
 ds:a.defers=ds
 size:a.tmps.size=N
 get:∀t,a.tmps.getD t undef=f t
def FR.eval{N:Nat}{a:Act}{f:Fm}{ds:List Deferred}(h:FR N a f ds)(x:Operand):a.eval x=Zg f x:=by
 cases x with
 |tmp t=>exact h.get t
 |_=>rfl
def FR.put{N:Nat}{a:Act}{f:Fm}{ds:List Deferred}(h:FR N a f ds)(dst:Option Nat)(v:Value)(z:∀d,dst=some d->d<N):FR N (a.put dst v) (ZB f dst v) ds:=by
 cases dst with
 |none=>exact h
 |some d=>
  have b:=z d rfl;refine⟨h.ds,by simpa[Act.put]using h.size,λ t=>?_⟩;simp only[Act.put,ZB,JE,Array.getD_eq_getD_getElem?,Array.getElem?_setIfInBounds];by_cases e:d=t
  .subst e;have:d<a.tmps.size:=by rw[h.size];exact b
   simp[this]
  .have e':Nat.beq t d=false:=by cases w:Nat.beq t d with|false=>rfl|true=>exact absurd (Nat.eq_of_beq_eq_true w).symm e
   have:=h.get t;simp only[Array.getD_eq_getD_getElem?]at this;simp[e,e',this]
def FR.slot(h:FR N W f ds)(z:f n=.bool ok):W.tmps[n]?=some (.bool ok):=by
 have:=h.get n;rw[z,Array.getD_eq_getD_getElem?]at this;cases w:W.tmps[n]? with
 |none=>rw[w]at this;cases this
 |some v=>rw[w]at this;simpa using this
inductive C where
 |skip
 |seq (x y:C)
 |ite (c:Operand) (x y:C)
 |block (id:Nat) (b:C)
 |loop (b:C)
 |exit (id:Nat)
 |ret
 |scope (b:C)
 |reg (l:List St)
 |drw (qs:List (Nat×St)) (ts:List St)
 |drs (qs:List (Nat×St)) (st:St) (ts:List St)
 |rng (N:Nat) (mu dets:List Nat) (f:Operand) (params:Array Tmp) (assign body:C)
 |cd (N:Nat) (c:Code)
 |bad
variable{cc as Z:C}
def Z9(P:Program)(mu:List Nat)(ops:Array Oper)(o:Oper):Option St:=
 match o.op,o.guard with
 |.defer { callee:=.value c,args,.. },none=>some ⟨.mv c,o.dst,none,some (c,args)⟩
 |.defer _,_=>none
 |_,none=>some ⟨Q5 P mu o,o.dst,none,none⟩
 |_,some (j,w)=>(match(ops[j]?).bind (·.dst)with
  |some d=>some ⟨Q5 P mu o,o.dst,some (d,w),none⟩
  |none=>none)
def stable:O->Bool
 |.mv _|.pick ..|.add ..|.sub ..|.mul ..|.cmp ..|.beq ..|.ar ..|.teq ..|.not _|.len _|.lenT _|.conv ..|.off ..|.idx ..|.aidx ..|.sidx ..|.ld _|.ldn ..|.ext ..|.part ..|.part1 ..|.mkf ..|.nilc _|.sub3 ..|.build ..=>true
 |_=>false
def Gi:O->Bool
 |.ld _|.ldn ..=>true
 |_=>false
def yA:O->Bool
 |.st ..=>true
 |_=>false
def GD(N:Nat)(o:Oper):Bool:=match o.dst with|some d=>decide (d<N)|none=>true
def PJ(ops:Array Oper)(b:Nat->Bool):Nat->List Nat->List Nat->List Nat
 |0,_,done=>done
 |n+1,left,done=>
  let ready:=left.filter λ i=>(Wr ops i).all done.contains
  match ready.find? (λ i=>!b i)with
  |some i=>PJ ops b n (left.filter (· != i)) (done++[i])
  |none=>(match ready with
   |i::_=>PJ ops b n (left.filter (· != i)) (done++[i])
   |[]=>done)
def W4(ops:Array Oper):Nat->Nat
 |0=>0
 |k+1=>if(range k).all (λ j=>((W_ ops ops.size).getD k 0).testBit j)then W4 ops k else k+1
def X7(P:Program)(mu dets:List Nat)(ops:Array Oper)(i:Nat):Bool:=
 match ops[i]? with
 |some o=>!stable (Q5 P mu o)&&!((o.dst.map dets.contains).getD false)
 |none=>false
def Y5(P:Program)(mu:List Nat)(ops:Array Oper)(rl:List Nat)(i:Nat):Nat:=
 if rl.contains i then 2 else match ops[i]? with
  |some o=>if stable (Q5 P mu o)then 0 else 1
  |none=>1
def Yh(ops:Array Oper)(x j:Nat):Bool:=!((W_ ops ops.size).getD x 0).testBit j
def GM(P:Program)(mu:List Nat)(ops:Array Oper)(rl:List Nat)(x i:Nat):Nat:=
 if rl.contains i then 2 else match ops[i]? with
  |some o=>if stable (Q5 P mu o)&&(!Gi (Q5 P mu o)|| !Yh ops x i)then 0 else if Yh ops x i then 3 else 1
  |none=>3
def Yy(P:Program)(mu:List Nat)(N:Nat)(dets:List Nat)(ops:Array Oper)(f:Bool):C:=
 if !ops.all (GD N)then .bad else
 match f with
 |false=>(match(range ops.size).mapM (λ i=>(ops[i]?).bind (Z9 P mu ops))with|some l=>.reg l|none=>.bad)
 |true=>
  let k:=W4 ops ops.size
  let qs:=PJ ops (X7 P mu dets ops) ops.size (range k) []
  let ts:=(range ops.size).drop k
  let rl:=(range k).filter (X7 P mu dets ops)
  if !PK ops rl qs ts|| !rl.all (λ i=>((ops[i]?).map (·.guard.isNone)).getD true)then .bad else
  match qs.getLast?.bind λ x=>((ops[x]?).bind (Z9 P mu ops)).bind λ st=>if rl.contains x&&yA st.o&&st.g.isNone&&st.dfr.isNone then some (x,st)else none with
  |some (x,st)=>(match qs.dropLast.mapM (λ i=>((ops[i]?).bind (Z9 P mu ops)).map λ st=>(GM P mu ops rl x i,st)),ts.mapM (λ i=>(ops[i]?).bind (Z9 P mu ops))with
   |some a,some b=>if a.all (λ x=>x.2.dfr.isNone)then .drs a st b else .bad
   |_,_=>.bad)
  |none=>
  match qs.mapM (λ i=>((ops[i]?).bind (Z9 P mu ops)).map λ st=>(Y5 P mu ops rl i,st)),ts.mapM (λ i=>(ops[i]?).bind (Z9 P mu ops))with
  |some a,some b=>if a.all (λ x=>x.2.dfr.isNone)then .drw a b else .bad
  |_,_=>.bad
def yF:Op->Bool
 |.go _=>true
 |_=>false
def yz:Op->Bool
 |.mapEntry ..=>true
 |_=>false
def LG(ops:Array Oper):Bool:=ops.any λ o=>yF o.op|| yz o.op
def clean(P:Program)(mu:List Nat)(N:Nat)(dets:List Nat):Code->C
 |.skip=>.skip
 |.label _=>.skip
 |.seq a b=>.seq (clean P mu N dets a) (clean P mu N dets b)
 |.cond c a b=>.ite c (clean P mu N dets a) (clean P mu N dets b)
 |.block id b=>.block id (clean P mu N dets b)
 |.loop b=>.loop (clean P mu N dets b)
 |.exit i=>.exit i
 |.ret=>.ret
 |.scope b=>.scope (clean P mu N dets b)
 |.region id ops d=>if LG ops|| mu.contains (1000+id)then .cd N (.region id ops d)else match Yy P mu N dets ops d with
  |.bad=>.cd N (.region id ops d)
  |c=>c
 |.rangeFunc f w as h=>.rng N mu dets f w (clean P mu N dets as) (clean P mu N dets h)
 |.goto _=>.bad
 |.refuse _=>.bad
def yd(b:Zl T->(Nat->Zl T)->Zl T->Zl T)(x:Nat->Zl T)(r:Zl T):Zl T:=λ f ds U=>
 ∃(α:Type)(L:α->List (Nat×Value))(I:α->Qa T->Prop)(μ:α->Nat)(h:α),Xr f (L h)/\I h U /\
   ∀y f U,I y U->b (λ B w U'=>w=ds/\∃z,Xr B (L z)/\I z U'/\μ z<μ y) x r (ovr (L y) f) ds U
def Uh(c:Operand)(a b:Zl T):Zl T:=λ f ds U=>(match Zg f c with
  |.bool t=>CB t (a f ds U) (b f ds U)
  |_=>False)
def Wv(S:Sys P T)(fn:FuncId)(ro:Option Nat)(N:Nat)(mu dets:List Nat)(c:Operand)(params:Array Tmp)(as b:C)(n:Zl T)(x:Nat->Zl T)(r:Zl T):Zl T:=λ f ds U=>
 ∀ca cb:Code,clean P mu N dets ca=as->clean P mu N dets cb=b->∀a:Act,FR N a f ds ->
   Zs S fn ro (.rangeFunc c params ca cb) (λ e a' U'=>a'.tmps=a.tmps/\(match e with|.normal=>n f a'.defers U'|.exit i=>x i f a'.defers U'|.ret=>r f a'.defers U')) a U
def Ui(S:Sys P T)(fn:FuncId)(ro:Option Nat)(N:Nat)(c:Code)(n:Zl T)(x:Nat->Zl T)(r:Zl T):Zl T:=λ f ds U=>
 ∀a:Act,FR N a f ds ->
   Zs S fn ro c (λ e a' U'=>a'.tmps.size=a.tmps.size/\∃b,(∀t,a'.tmps.getD t undef=b t)/\(match e with|.normal=>n b a'.defers U'|.exit i=>x i b a'.defers U'|.ret=>r b a'.defers U')) a U
def JX(S:Sys P T)(fn:FuncId)(ro:Option Nat)(c:C):Zl T->(Nat->Zl T)->Zl T->Zl T:=
 C.rec (motive:=λ _=>Zl T->(Nat->Zl T)->Zl T->Zl T)
  (λ n _ _=>n)
  (λ _ _ a b n x r=>a (b n x r) x r)
  (λ c _ _ a b n x r=>Uh c (a n x r) (b n x r))
  (λ id _ b n x r=>b n (λ i f ds U=>bif Nat.beq i id then n f ds U else x i f ds U) r)
  (λ _ b _ x r=>yd b x r)
  (λ i _ x _=>x i)
  (λ _ _ r=>r)
  (λ _ b n x r=>b n x r)
  (λ l n _ _=>JH S ro l n)
  (λ qs ts n _ _=>DX S (λ _=>False) qs (λ _=>True) (JH S ro ts n))
  (λ qs st ts n _ _ f ds U=>∃G,Xz G/\DX S G qs (λ _=>True) (LI S G st (JH S ro ts n)) f ds U)
  (λ N mu dets c params as h _ _ n x r=>Wv S fn ro N mu dets c params as h n x r)
  (λ N c n x r=>Ui S fn ro N c n x r)
  (λ _ _ _ _ _ _=>False) c
def Qa.sees.le{U U':Qa T}{a:Addr}{v:Value}(h:U.sees a v)(b:U.le U'):U'.sees a v:=by
 obtain⟨f,⟨c,t,fr,w,z⟩|⟨t,n,B⟩⟩:=h
 .exact⟨f,.inl ⟨c,t,fr,w.imp (b.imm _ _) (λ h=>b.own▸h),z⟩⟩
 .exact⟨f,.inr ⟨t,n,b.own▸B⟩⟩
def Jj.le{U U':Qa T}{a:Addr}{vs:List Value}(h:Jj U a vs)(b:U.le U'):Jj U' a vs:=λ i v f=>(h i v f).le b
def ZF.mono{K h:Value->Qa T->Prop}(f:∀v U,K v U->h v U){n:Next}{U:Qa T}(b:ZF S K n U):ZF S h n U:=by
 cases n <;> first|exact f _ _ b|exact Qb.mono b f|exact J_.mono b f|exact b
def OX.mono{o:O}{f:Fm}{K G:Value->Qa T->Prop}{U:Qa T}(w:∀v U,K v U->G v U)(h:OX S o f K U):OX S o f G U:=by
 cases o with
 |raw o=>exact λ a N=>Qq.mono _ (h a N) λ n U F=>ZF.mono (λ v U⟨B,I,L⟩=>⟨B,I,w _ _ L⟩) F
 |call c args=>
  simp only[OX]at h ⊢;split at h
  .simp only[J4]at h ⊢;exact⟨h.1,h.2.mono λ v U h Q=>w v U (h Q)⟩
  .simp only[J4]at h ⊢;exact Qq.mono _ h λ n U F=>ZF.mono w F
  .exact h
 |st n x v=>
  simp only[OX]at h ⊢;split at h
  .exact⟨h.1,QZ.mono (λ U⟨B,a,b⟩=>⟨B,a,w _ B b⟩) _ _ _ h.2⟩
  .exact h
 |box t x=>simp only[OX,Oi]at h ⊢;exact λ b B P E=>w _ _ (h b B P E)
 |boxM t x=>exact λ b E=>w _ _ (h b E)
 |alloc t z=>exact λ b E=>let ⟨B,a,b⟩:=h b E;⟨B,a,w _ _ b⟩
 |bsl t len z V=>
  simp only[OX,Hy,Array.toArray_toList]at h ⊢;split at h
  .exact λ b E=>let ⟨B,a,b⟩:=h b E;⟨B,a,w _ _ b⟩
  .exact h
 |lenM x=>
  simp only[OX]at h ⊢;split at h
  .exact w _ _ h
  .obtain⟨a,b,c,d⟩:=h;exact⟨a,b,c,w _ _ d⟩
  .exact h
 |mv x=>simp only[OX,Qy]at h ⊢;exact w _ _ h
 |mkf fn first H=>simp only[OX,J4]at h ⊢;exact w _ _ h
 |pick c a b=>
  simp only[OX,Qy]at h ⊢;split at h
  .exact w _ _ h
  .exact w _ _ h
  .exact h
 |ext x i=>
  simp only[OX,Qy]at h ⊢;split at h
  .split at h
   .exact w _ _ h
   .exact h
  .exact h
 |part1 off x=>
  simp only[OX,Qy]at h ⊢;split at h
  .split at h
   .exact w _ _ h
   .exact h
  .exact h
 |ld x=>
  simp only[OX,Qy]at h ⊢;split at h
  .obtain⟨v,a,b⟩:=h;exact⟨v,a,w _ _ b⟩
  .exact h
 |ldn n x=>
  simp only[OX]at h ⊢;split at h
  .obtain⟨v,a,b⟩:=h;exact⟨v,a,w _ _ b⟩
  .exact h
 |sidx x i=>
  simp only[OX]at h ⊢;split at h
  .obtain⟨j,v,a,b⟩:=h;exact⟨j,v,a,w _ _ b⟩
  .exact h
 |idx n x i=>
  simp only[OX]at h ⊢;split at h
  .obtain⟨ad,j,a,b⟩:=h;exact⟨ad,j,a,w _ _ b⟩
  .exact h
 |aidx n m x i=>
  simp only[OX]at h ⊢;split at h
  .obtain⟨j,a,b⟩:=h;exact⟨j,a,w _ _ b⟩
  .exact h
 |sub3 sz x lo W=>
  simp only[OX]at h ⊢;split at h
  .split at h
   .obtain⟨l,hh,a,b⟩:=h;exact⟨l,hh,a,w _ _ b⟩
   .exact h
  .exact h
 |build z V=>
  simp only[OX,Hy,Array.toArray_toList]at h ⊢;split at h
  .exact w _ _ h
  .exact h
 |cmp op x y=>
  simp only[OX]at h ⊢;split at h
  .refine⟨h.1,?_⟩;cases op <;> first|exact h.2.elim|exact w _ _ h.2
  .exact h
 |beq op x y=>
  simp only[OX]at h ⊢;split at h
  .cases op <;> first|exact h.elim|exact w _ _ h
  .exact h
 |teq op x y=>
  simp only[OX]at h ⊢;split at h
  .cases op <;> first|exact h.elim|exact w _ _ h
  .exact h
 |ar op x y=>
  simp only[OX]at h ⊢;split at h
  .cases op <;> first|exact h.elim|exact⟨h.1,h.2.1,w _ _ h.2.2⟩|exact⟨h.1,w _ _ h.2⟩
  .exact h
 |_=>
  simp only[OX]at h ⊢;split at h
  .first|exact⟨h.1,w _ _ h.2⟩|exact w _ _ h
  .exact h
def OX.stable{o:O}{f:Fm}{K:Value->Qa T->Prop}{U:Qa T}(E:stable o=true)(h:OX S o f K U):∃v,K v U/\∀(U':Qa T)(w:Value->Qa T->Prop),(Gi o=false\/U.le U')->w v U'->OX S o f w U':=by
 cases o with
 |raw o=>cases E
 |call c args=>cases E
 |st n x v=>cases E
 |box t x=>cases E
 |boxM t x=>cases E
 |alloc t z=>cases E
 |bsl t len z I=>cases E
 |lenM x=>cases E
 |mv x=>simp only[OX,Qy]at h;exact⟨_,h,λ _ _ _ k=>by simpa only[OX,Qy]using k⟩
 |mkf fn first F=>simp only[OX,J4]at h;exact⟨_,h,λ _ _ _ k=>by simpa only[OX,J4]using k⟩
 |pick c a b=>
  simp only[OX,Qy]at h;split at h <;> rename_i e
  .exact⟨_,h,λ _ _ _ k=>by simpa[OX,Qy,e]using k⟩
  .exact⟨_,h,λ _ _ _ k=>by simpa[OX,Qy,e]using k⟩
  .exact h.elim
 |ext x i=>
  simp only[OX,Qy]at h;split at h <;> rename_i e
  .split at h <;> rename_i e'
   .exact⟨_,h,λ _ _ _ k=>by simpa[OX,Qy,e,e']using k⟩
   .exact h.elim
  .exact h.elim
 |part1 off x=>
  simp only[OX,Qy]at h;split at h <;> rename_i e
  .split at h <;> rename_i e'
   .exact⟨_,h,λ _ _ _ k=>by simpa[OX,Qy,e,e']using k⟩
   .exact h.elim
  .exact h.elim
 |ld x=>
  simp only[OX,Qy]at h;split at h <;> rename_i e
  .obtain⟨v,a,b⟩:=h;exact⟨v,b,λ U' w B k=>by simp only[OX,Qy,e];exact⟨v,a.le (B.resolve_left (by simp[Gi])),k⟩⟩
  .exact h.elim
 |ldn n x=>
  simp only[OX]at h;split at h <;> rename_i e
  .obtain⟨v,a,b⟩:=h;exact⟨_,b,λ U' w B k=>by simp only[OX,Qy,e];exact⟨v,⟨a.1,a.2.le (B.resolve_left (by simp[Gi]))⟩,k⟩⟩
  .exact h.elim
 |sidx x i=>
  simp only[OX]at h;split at h
  .rename_i e e';obtain⟨j,v,a,b⟩:=h;exact⟨_,b,λ U' w B k=>by simp only[OX,Qy,e,e'];exact⟨j,v,a,k⟩⟩
  .exact h.elim
 |sub3 sz x lo L=>
  simp only[OX]at h;split at h <;> rename_i e
  .split at h <;> rename_i e'
   .obtain⟨l,hh,a,b⟩:=h;exact⟨_,b,λ U' w B k=>by simp only[OX,Qy,e,e'];exact⟨l,hh,a,k⟩⟩
   .exact h.elim
  .exact h.elim
 |build z I=>
  simp only[OX,Hy,Array.toArray_toList]at h;split at h <;> rename_i e
  .exact⟨_,h,λ U' w B k=>by simp only[OX,Qy,Hy,Array.toArray_toList,e];exact k⟩
  .exact h.elim
 |cmp op x y=>
  simp only[OX]at h;split at h
  .rename_i e e';obtain⟨H,h⟩:=h;cases op <;> first|exact h.elim|exact⟨_,h,λ U' w B k=>by simp only[OX,Qy,e,e'];exact⟨H,k⟩⟩
  .exact h.elim
 |beq op x y=>
  simp only[OX]at h;split at h
  .rename_i e e';cases op <;> first|exact h.elim|exact⟨_,h,λ U' w B k=>by simp only[OX,Qy,e,e'];exact k⟩
  .exact h.elim
 |teq op x y=>
  simp only[OX]at h;split at h
  .rename_i e e';cases op <;> first|exact h.elim|exact⟨_,h,λ U' w B k=>by simp only[OX,Qy,e,e'];exact k⟩
  .exact h.elim
 |ar op x y=>
  simp only[OX]at h;split at h
  .rename_i e e'
   cases op <;> first
    |exact h.elim
    |exact⟨_,h.2.2,λ U' w B k=>by simp only[OX,Qy,e,e'];exact⟨h.1,h.2.1,k⟩⟩
    |exact⟨_,h.2,λ U' w B k=>by simp only[OX,Qy,e,e'];exact⟨h.1,k⟩⟩
  .exact h.elim
 |add x y=>simp only[OX]at h;split at h;{ rename_i e e';exact⟨_,h.2,λ U' w B k=>by simp only[OX,Qy,e,e'];exact⟨h.1,k⟩⟩ };exact h.elim
 |sub x y=>simp only[OX]at h;split at h;{ rename_i e e';exact⟨_,h.2,λ U' w B k=>by simp only[OX,Qy,e,e'];exact⟨h.1,k⟩⟩ };exact h.elim
 |mul x y=>simp only[OX]at h;split at h;{ rename_i e e';exact⟨_,h.2,λ U' w B k=>by simp only[OX,Qy,e,e'];exact⟨h.1,k⟩⟩ };exact h.elim
 |idx n x y=>simp only[OX]at h;split at h;{ rename_i e e';obtain⟨G,j,a,b⟩:=h;exact⟨_,b,λ U' w B k=>by simp only[OX,Qy,e,e'];exact⟨G,j,a,k⟩⟩ };exact h.elim
 |aidx n m x y=>simp only[OX]at h;split at h;{ rename_i e e';obtain⟨j,a,b⟩:=h;exact⟨_,b,λ U' w B k=>by simp only[OX,Qy,e,e'];exact⟨j,a,k⟩⟩ };exact h.elim
 |_=>
  simp only[OX]at h;split at h <;> rename_i e
  .exact⟨_,h,λ U' w B k=>by simp only[OX,Qy,e];exact k⟩
  .exact h.elim
def pV{A:Value->Act}:∀v U U',Qv U U'->QT S fn ro ops todo Q (A v) U'->QT S fn ro ops todo Q (A v) U:=λ _ _ _ b h=>G0 b h
inductive KV(P:Program)(mu:List Nat)(ops:Array Oper)(o:Oper):St->Prop
 |plain:(∀c,o.op≠.defer c)->o.guard=none->KV P mu ops o ⟨Q5 P mu o,o.dst,none,none⟩
 |guarded {j:Nat} {w:Bool} {d:Nat}:(∀c,o.op≠.defer c)->o.guard=some (j,w)->(ops[j]?).bind (·.dst)=some d->KV P mu ops o ⟨Q5 P mu o,o.dst,some (d,w),none⟩
 |dfr {c:Operand} {args:Array Operand} {ats:Array TypeId}:o.op=.defer { callee:=.value c,args:=args,argTypes:=ats }->o.guard=none->KV P mu ops o ⟨.mv c,o.dst,none,some (c,args)⟩
def PX(h:Z9 P mu ops η=some st):KV P mu ops η st:=by
 unfold Z9 at h;split at h
 .rename_i ho hg;cases h;exact .dfr ho hg
 .cases h
 .rename_i hg hnd0 hnd;cases h;exact .plain (λ c b=>hnd c b) hg
 .rename_i j w hg hnd;split at h
  .rename_i hd;cases h;exact .guarded (λ c b=>hnd c b) hg hd
  .cases h
def Wk(b:η.guard=none):Region.wanted η (yielded ops W.tmps)=true:=by simp[Region.wanted,b]
def YM{o:Oper}(h:o.guard=some (j,ok))(f:(ops[j]?).bind (·.dst)=some N)(z:W.tmps[N]?=some (.bool q)) :
  Region.wanted o (yielded ops W.tmps)=(q==ok):=by
 simp only[Region.wanted,h,yielded,f,Option.bind_some,z];cases q <;> cases ok <;> rfl
def YU(h:FR N W f ds)(z:η.guard=some (j,ok))(b:(ops[j]?).bind (·.dst)=some n)(B:f n=.tuple c) :
  Region.wanted η (yielded ops W.tmps)=false:=by
 have:=h.get n;rw[B,Array.getD_eq_getD_getElem?]at this
 have F:yielded ops W.tmps j=none:=by
  simp only[yielded,b,Option.bind_some];cases E:W.tmps[n]? with
  |none=>rfl
  |some v=>
   rw[E]at this;simp only[Option.getD_some]at this;subst this;rfl
 simp only[Region.wanted,z,F];cases ok <;> rfl
def PB{n:Zl T}(hQ:∀a f ds U,FR N a f ds->n f ds U->Q .normal a U)(hN:∀(i:Nat)(o:Oper),ops[i]?=some o->∀d,o.dst=some d->d<N) :
  ∀(z:List Nat)(l:List St),z.mapM (λ i=>(ops[i]?).bind (Z9 P mu ops))=some l ->
   ∀(a:Act)(f:Fm)(ds:List Deferred)(U:Qa T),FR N a f ds->JH S ro l n f ds U->QT S fn ro ops z Q a U:=by
 intro z
 induction z with
 |nil=>
  intro l V a f ds U B h;simp at V;subst V;exact Ll (hQ a f ds U B h)
 |cons i z X=>
  intro l V a f ds U B h;simp only[mapM_cons,Option.pure_def,Option.bind_eq_bind,Option.bind_eq_some_iff]at V;obtain⟨st,⟨o,H,aa⟩,l',F,e⟩:=V;cases e;have K:=hN i o H
  have step:∀{f:Fm},FR N a f ds->(∀c,o.op≠.defer c)->Region.wanted o (yielded ops a.tmps)=true->OX S (Q5 P mu o) f (λ v U'=>JH S ro l' n (ZB f o.dst v) ds U') U->QT S fn ro ops (i::z) Q a U:=by
   intro f B E I h;refine XP H I (.inr E) (QJ.opV (Wy (λ x=>B.eval x) pV (OX.mono (λ v U' hv=>?_) h)));exact X l' F _ _ _ _ (B.put o.dst v K) hv
  cases PX aa with
  |plain E G=>simp only[OJ,PQ]at h;exact step B E (Wk G) h
  |@guarded j w d E G L=>
   simp only[OJ,PQ]at h;split at h
   .rename_i b hb;have I:=YM (ops:=ops) (o:=o) G L (B.slot hb);have e:JE f d (.bool b)=f:=KL hb;cases b <;> cases w <;> simp only[GB,Bool.not_true,Bool.not_false]at h <;> rw[e]at h
    .exact step B E (by rw[I];rfl) h
    .exact GS H (by rw[I];rfl) (X l' F _ _ _ _ (B.put o.dst undef K) h)
    .exact GS H (by rw[I];rfl) (X l' F _ _ _ _ (B.put o.dst undef K) h)
    .exact step B E (by rw[I];rfl) h
   .rename_i vs hb;exact GS H (YU B G L hb) (X l' F _ _ _ _ (B.put o.dst undef K) h)
   .exact h.elim
  |@dfr c args ab Z G=>
   simp only[OJ,PQ]at h;split at h
   .rename_i g first capt e
    obtain⟨W,h⟩:=h;have Y:a.eval=Zg f:=funext B.eval;refine XP H (Wk G) (.inl W) ?_;unfold HP;simp only[execOp,Z,Qd,resolve,Y,e,Deferred.ofValue,Qk,Ye];refine⟨W,X l' F _ _ _ _ ?_ h⟩;have h1:FR N { a with defers:={ target:=.fn g capt,args:=first++args.map (Zg f) }::a.defers } f ({ target:=.fn g capt,args:=first++args.map (Zg f) }::ds):=⟨by rw[B.ds],B.size,B.get⟩;exact h1.put o.dst undef K
   .exact h.elim
def Jp:∀(w:Value)(f h:Qa T),Qv f h->(w=v/\∃b,Qv h b/\U'.le b)->(w=v/\∃b,Qv f b/\U'.le b):=
 λ _ _ _ E⟨e,b,z,B⟩=>⟨e,b,E.trans z,B⟩
def IX{Fin:Act->Qa T->Prop}{K:Zl T}{rl:List Nat}{B:Nat->Nat->Prop}{G:Qa T->Prop}(ag:∀a f ds H,FR N a f ds->(∀U',U.le U'->H U'->K f ds U')->ZS S ops rl B late G U Fin tail H a)(hN:∀(i:Nat)(o:Oper),ops[i]?=some o->∀d,o.dst=some d->d<N)
  (aa:∀i,kind i=0\/kind i=1\/kind i=3->i∉rl) (aj:∀i,kind i≠0->kind i≠1->kind i≠3->i∈rl) (ae:∀i,kind i=0->∀o,ops[i]?=some o->stable (Q5 P mu o)=true/\(late i=true->Gi (Q5 P mu o)=false)) (ai:∀i,kind i=1->late i=false) :
  ∀(z:List Nat)(l:List (Nat×St)),z.mapM (λ i=>((ops[i]?).bind (Z9 P mu ops)).map λ st=>(kind i,st))=some l->(l.all λ x=>x.2.dfr.isNone)=true->(∀i∈z,∀o,ops[i]?=some o->o.guard=none\/i∉rl) ->
   ∀(a:Act)(f:Fm)(ds:List Deferred)(H:Qa T->Prop),FR N a f ds->DX S G l H K f ds U->ZS S ops rl B late G U Fin (z++tail) H a:=by
 intro z
 induction z with
 |nil=>
  intro l hl _ _ a f ds H E h;simp at hl;subst hl;exact ag a f ds H E h
 |cons i z ih=>
  intro l hl V ad a f ds H E h;simp only[mapM_cons,Option.pure_def,Option.bind_eq_bind,Option.bind_eq_some_iff,Option.map_eq_some_iff]at hl;obtain⟨x,⟨st,⟨o,W,Z⟩,rfl⟩,l',ak,e⟩:=hl;cases e;simp only[all_cons,Bool.and_eq_true]at V;have hd:=hN i o W;have L:=ih l' ak V.2 (λ j hj=>ad j (mem_cons_of_mem _ hj))
  have run:∀{f:Fm},FR N a f ds->Region.wanted o (yielded ops a.tmps)=true ->
    (match kind i with
     |0=>OX S (Q5 P mu o) f (λ v _=>DX S G l' H K (ZB f o.dst v) ds U) U
     |1=>∃v,(∀U',U.le U'->H U'->OX S (Q5 P mu o) f (λ v' U2=>v'=v/\∃Q,Qv U2 Q/\U'.le Q) U')/\DX S G l' H K (ZB f o.dst v) ds U
     |3=>∃v,(∀U',U.le U'->H U'->OX S (Q5 P mu o) f (λ v' U2=>v'=v/\∃Q,Qv U2 Q/\U'.le Q) U')/\(∀U',G U'->OX S (Q5 P mu o) f (λ v' U2=>v'=v/\∃Q,Qv U2 Q/\U'.le Q) U')/\DX S G l' H K (ZB f o.dst v) ds U
     |_=>∃F:Value->Qa T->Prop,(∀v,Xz (F v))/\(∀U',U.le U'->H U'->OX S (Q5 P mu o) f (λ v' U2=>∃Q,Qv U2 Q/\F v' Q/\U'.le Q) U') /\
       ∀v,(∃U',U.le U'/\H U'/\F v U')->DX S G l' (λ U'=>H U'/\F v U') K (ZB f o.dst v) ds U)->ZS S ops rl B late G U Fin (i::(z++tail)) H a:=by
   intro f E hw h;split at h
   .rename_i hk;obtain⟨v,hn,Z⟩:=OX.stable (ae i hk o W).1 h;refine .det v (aa i (.inl hk)) W hw (λ U' I _=>?_) (λ Y U' _=>?_) (L _ _ _ _ (E.put o.dst v hd) hn)
    .exact Wy (λ x=>E.eval x) Jp (Z U' _ (.inr I) ⟨rfl,U',.refl _,.refl _⟩)
    .exact Wy (λ x=>E.eval x) Jp (Z U' _ (.inl ((ae i hk o W).2 Y)) ⟨rfl,U',.refl _,.refl _⟩)
   .rename_i hk;obtain⟨v,X,hn⟩:=h;refine .det v (aa i (.inr (.inl hk))) W hw (λ U' I hc=>?_) (λ Y=>by rw[ai i hk]at Y;cases Y) (L _ _ _ _ (E.put o.dst v hd) hn);exact Wy (λ x=>E.eval x) Jp (X U' I hc)
   .rename_i hk;obtain⟨v,X,ah,hn⟩:=h;refine .det v (aa i (.inr (.inr hk))) W hw (λ U' I hc=>?_) (λ _ U' hg=>?_) (L _ _ _ _ (E.put o.dst v hd) hn)
    .exact Wy (λ x=>E.eval x) Jp (X U' I hc)
    .exact Wy (λ x=>E.eval x) Jp (ah U' hg)
   .rename_i h0 h1 h3;obtain⟨F,hF,X,hn⟩:=h;refine .rel F (aj i (λ e=>h0 e) (λ e=>h1 e) (λ e=>h3 e)) hF W hw (λ U' I hc=>?_) (λ v hv=>L _ _ _ _ (E.put o.dst v hd) (hn v hv));exact Wy (λ x=>E.eval x) (λ v' U2 U3 hs⟨Q,a,b,c⟩=>⟨Q,hs.trans a,b,c⟩) (X U' I hc)
  cases PX Z with
  |plain al hg=>simp only[IA,PW]at h;exact run E (Wk hg) h
  |@guarded j w d al hg ac=>
   simp only[IA,PW]at h;have ab:i∉rl:=(ad i (mem_cons_self ..) o W).resolve_left (by rw[hg];simp);split at h
   .rename_i b hb;have hw:=YM (ops:=ops) (o:=o) hg ac (E.slot hb);have e:JE f d (.bool b)=f:=KL hb;cases b <;> cases w <;> simp only[GB,Bool.not_true,Bool.not_false]at h <;> rw[e]at h
    .exact run E (by rw[hw];rfl) h
    .exact .un ab W (by rw[hw];rfl) (L _ _ _ _ (E.put o.dst undef hd) h)
    .exact .un ab W (by rw[hw];rfl) (L _ _ _ _ (E.put o.dst undef hd) h)
    .exact run E (by rw[hw];rfl) h
   .rename_i vs hb;exact .un ab W (YU E hg ac hb) (L _ _ _ _ (E.put o.dst undef hd) h)
   .exact h.elim
  |dfr=>simp at V
def Gn(N:Nat)(n:Zl T)(x:Nat->Zl T)(r:Zl T)(e:Ex)(a:Act)(U:Qa T):Prop:=
 ∃f ds,FR N a f ds/\(match e with|.normal=>n f ds U|.exit i=>x i f ds U|.ret=>r f ds U)
def ZS.fin{Fin w:Act->Qa T->Prop}(H:∀W U,Fin W U->w W U)(h:ZS S ops mu ε late L U Fin dets E W):ZS S ops mu ε late L U w dets E W:=by
 induction h with
 |nil h=>exact .nil λ U' W b=>H _ _ (h U' W b)
 |un W b c _ z=>exact .un W b c z
 |det v W b c d e _ z=>exact .det v W b c d e z
 |rel F W b c d e _ z=>exact .rel F W b c d e z
 |last W b c d e f g=>exact .last W b c d e f λ I U' h=>H _ _ (g I U' h)
def pG{G:Type}{c:Code}(I:G->Act->Qa T->Prop)(μ:G->Nat){g:G}(B:I g W U)
  (round:∀g W U,I g W U->Zs S fn ro c (λ e a' U'=>match e with|.normal=>∃g',I g' a' U'/\μ g'<μ g|e=>Q e a' U') W U):Zs S fn ro (.loop c) Q W U:=by
 intro Stop m b k cs E h;refine .still rfl (λ _=>kn) ?_
 have key:∀N g W U,μ g<=N->I g W U->J S Stop m (R b W (.code c::.inLoop c::k) cs) U:=by
  intro N
  induction N with
  |zero=>
   intro g W U F w;refine round g W U w Stop m b (.inLoop c::k) cs E λ e a' U' q=>?_;cases e with
   |normal=>obtain⟨g',_,f⟩:=q;exact absurd f O1
   |exit id=>exact(h _ _ _ q).push (λ _ _=>rfl) S1
   |ret=>exact(h _ _ _ q).push (x:=.inLoop c) (λ _ _=>rfl) S1
  |succ N H=>
   intro g W U F w;refine round g W U w Stop m b (.inLoop c::k) cs E λ e a' U' q=>?_;cases e with
   |normal=>obtain⟨g',z,f⟩:=q;exact .still rfl (λ _=>xR) (H g' a' U' O1 z)
   |exit id=>exact(h _ _ _ q).push (λ _ _=>rfl) S1
   |ret=>exact(h _ _ _ q).push (x:=.inLoop c) (λ _ _=>rfl) S1
 exact key _ g W U (Nat.le_refl _) B
def vY(h:ops.all (GD N)=true):∀(i:Nat)(o:Oper),ops[i]?=some o->∀d,o.dst=some d->d<N:=by
 intro i o f d b;have:=(Array.all_eq_true'.1 h) o (Array.mem_of_getElem? f);simpa[GD,b]using this
def zL(hm:P.follows .mixedOrders=true){n:Zl T}{r:Zl T}{a:Act}(F:FR N a f ds)
  (h:JX S fn ro (Yy P mu N dets ops ok) n π r f ds U):Zs S fn ro (.region ty ops ok) (Gn N n π r) a U:=by
 unfold Yy at h;split at h
 .exact h.elim
 .rename_i hall;have Y:=vY (N:=N) (ops:=ops) (by simpa using hall);have hQ:∀a f ds U,FR N a f ds->n f ds U->Gn N n π r .normal a U:=λ a f ds U F h=>⟨f,ds,F,h⟩;split at h
  .split at h
   .rename_i l X;exact FE (PB hQ Y _ l X a f ds U F h)
   .exact h.elim
  .dsimp only at h
   split at h
   .exact h.elim
   .rename_i Q;simp only[Bool.or_eq_true,Bool.not_eq_true',not_or,Bool.not_eq_false]at Q;obtain⟨Q,aa⟩:=Q;split at h
    .rename_i π st V;split at h
     .rename_i la lb hla hlb;split at h
      .rename_i hdf;obtain⟨G,hG,h⟩:=h;simp only[Option.bind_eq_some_iff]at V;obtain⟨x',I,st',⟨o,z,ad⟩,V⟩:=V;split at V
       .rename_i w;cases V;simp only[Bool.and_eq_true,contains_iff_mem,Option.isNone_iff_eq_none]at w;obtain⟨⟨⟨ae,ah⟩,ac⟩,ab⟩:=w;refine UX (late:=Yh ops π) (G:=G) _ _ _ hm Q ?_;refine ZS.fin (Fin:=λ a U=>∃f ds,FR N a f ds/\JH S ro lb n f ds U) (λ a U⟨f,ds,F,h⟩=>PB hQ Y _ lb hlb a f ds U F h) ?_
        obtain⟨hg,rfl⟩:o.guard=none/\st=⟨Q5 P mu o,o.dst,none,none⟩:=by
         cases PX ad with
         |plain _ hg=>exact⟨hg,rfl⟩
         |guarded=>cases ac
         |dfr=>cases ab
        have hq:PJ ops (X7 P mu dets ops) ops.size (range (W4 ops ops.size)) []=(PJ ops (X7 P mu dets ops) ops.size (range (W4 ops ops.size)) []).dropLast++[π]:=by
         rw[getLast?_eq_some_iff]at I;obtain⟨ys,ag⟩:=I;rw[ag];simp
        rw[hq];refine IX (S:=S) (mu:=mu) (tail:=[π]) (K:=LI S G ⟨Q5 P mu o,o.dst,none,none⟩ (JH S ro lb n)) (λ a f ds Cn F h=>.last ae hG (λ j hj=>?_) z (Wk hg) (λ U' L w=>?_) (λ V U'' hg=>?_)) Y ?_ ?_ ?_ ?_ _ la hla hdf ?_ a f ds _ F h
        .refine Wm ops ops.size π j ?_;simpa[Yh]using hj
        .exact Wy (λ π=>F.eval π) (λ v' U2 U3 Z⟨e,U1,a,b⟩=>⟨e,U1,Z.trans a,b⟩) (h U' L w).1
        .obtain⟨U',L,w⟩:=V;exact⟨_,_,F.put o.dst undef (Y π o z),(h U' L w).2 U'' hg⟩
        .intro i H w;have E:=contains_iff_mem.2 w;simp only[GM,E,if_true]at H;rcases H with H|H|H <;> cases H
        .intro i h0 h1 h3;apply Classical.byContradiction;intro w
         have E:(List.filter (X7 P mu dets ops) (range (W4 ops ops.size))).contains i=false:=by
          cases W:(List.filter (X7 P mu dets ops) (range (W4 ops ops.size))).contains i with
          |false=>rfl
          |true=>exact absurd (contains_iff_mem.1 W) w
         simp only[GM,E,Bool.false_eq_true,if_false]at h0 h1 h3;cases z:ops[i]? with
         |none=>simp[z]at h3
         |some o=>
          simp only[z]at h0 h1 h3;split at h0
          .exact h0 rfl
          .rename_i hh;simp only[hh,Bool.false_eq_true,if_false]at h1 h3;split at h1
           .rename_i X;simp[X]at h3
           .exact h1 rfl
        .intro i h0 o z;simp only[GM]at h0;split at h0
         .cases h0
         .simp only[z]at h0;split at h0
          .rename_i hh;simp only[Bool.and_eq_true,Bool.or_eq_true,Bool.not_eq_true']at hh;exact⟨hh.1,λ X=>hh.2.resolve_right (by rw[X];simp)⟩
          .split at h0 <;> cases h0
        .intro i h1;simp only[GM]at h1;split at h1
         .cases h1
         .split at h1
          .split at h1
           .cases h1
           .split at h1
            .cases h1
            .rename_i X;simpa using X
          .cases h1
        .intro i _ o z;by_cases w:i∈List.filter (X7 P mu dets ops) (range (W4 ops ops.size))
         .refine .inl ?_;have:=all_eq_true.1 aa i w;simpa[z]using this
         .exact .inr w
       .cases V
      .exact h.elim
     .exact h.elim
    .split at h
     .rename_i la lb hla hlb;split at h
      .rename_i hdf;refine UX (late:=λ _=>false) (G:=λ _=>False) _ _ _ hm Q ?_;refine ZS.fin (Fin:=λ a U=>∃f ds,FR N a f ds/\JH S ro lb n f ds U) (λ a U⟨f,ds,F,h⟩=>PB hQ Y _ lb hlb a f ds U F h) ?_;have key:=IX (S:=S) (mu:=mu) (rl:=List.filter (X7 P mu dets ops) (range (W4 ops ops.size))) (B:=ZX ops) (late:=λ _=>false) (G:=λ _=>False) (tail:=[]) (Fin:=λ a U=>∃f ds,FR N a f ds/\JH S ro lb n f ds U) (K:=JH S ro lb n) (U:=U) (λ a f ds Cn F h=>.nil λ U' L w=>⟨f,ds,F,h U' L w⟩) Y ?_ ?_ ?_ (λ _ _=>rfl) _ la hla hdf ?_ a f ds (λ _=>True) F h
       .simpa using key
       .intro i H w;have E:=contains_iff_mem.2 w;simp only[Y5,E,if_true]at H;rcases H with H|H|H <;> cases H
       .intro i h0 h1 h3;apply Classical.byContradiction;intro w
        have E:(List.filter (X7 P mu dets ops) (range (W4 ops ops.size))).contains i=false:=by
         cases W:(List.filter (X7 P mu dets ops) (range (W4 ops ops.size))).contains i with
         |false=>rfl
         |true=>exact absurd (contains_iff_mem.1 W) w
        simp only[Y5,E,Bool.false_eq_true,if_false]at h0 h1;cases z:ops[i]? with
        |none=>simp[z]at h1
        |some o=>
         simp only[z]at h0 h1;by_cases Z:stable (Q5 P mu o)=true <;> simp[Z]at h0 h1
       .intro i h0 o z;simp only[Y5]at h0;split at h0
        .cases h0
        .simp only[z]at h0;by_cases Z:stable (Q5 P mu o)=true
         .exact⟨Z,λ h=>by cases h⟩
         .simp[Z]at h0
       .intro i _ o z;by_cases w:i∈List.filter (X7 P mu dets ops) (range (W4 ops ops.size))
        .refine .inl ?_;have:=all_eq_true.1 aa i w;simpa[z]using this
        .exact .inr w
      .exact h.elim
     .exact h.elim
def HZ(hm:P.follows .mixedOrders=true):∀(code:Code){n:Zl T}{x:Nat->Zl T}{r:Zl T}{f:Fm}{ds:List Deferred}{U:Qa T}{a:Act},FR N a f ds->JX S fn ro (clean P mu N dets code) n x r f ds U ->
  Zs S fn ro code (Gn N n x r) a U:=by
 intro code
 induction code with
 |skip=>exact λ b h=>vO ⟨_,_,b,h⟩
 |label l=>exact λ b h=>pF ⟨_,_,b,h⟩
 |region id ops d=>
  intro n x r f ds U a b h;simp only[clean]at h
  have cd:JX S fn ro (.cd N (.region id ops d)) n x r f ds U->Zs S fn ro (.region id ops d) (Gn N n x r) a U:=λ h=>by
   refine Zs.mono (h a b) λ e a' U'⟨Q,F,z,B⟩=>⟨F,a'.defers,⟨rfl,by rw[Q];exact b.size,z⟩,?_⟩;cases e <;> exact B
  split at h
  .exact cd h
  .split at h
   .exact cd h
   .exact zL hm b h
 |seq V W H K=>
  intro n x r f ds U a b h;refine kT (Zs.mono (H b h) λ e a' U' B=>?_);obtain⟨F,E,z,B⟩:=B;cases e with
  |normal=>exact K z B
  |exit i=>exact⟨F,E,z,B⟩
  |ret=>exact⟨F,E,z,B⟩
 |cond c V W H K=>
  intro n x r f ds U a b h
  replace h:Uh c (JX S fn ro (clean P mu N dets V) n x r) (JX S fn ro (clean P mu N dets W) n x r) f ds U:=h
  unfold Uh at h;split at h
  .rename_i t Q;refine vN t (by rw[b.eval];exact Q) ?_;cases t
   .exact K b h
   .exact H b h
  .exact h.elim
 |block id c X=>
  intro n x r f ds U a b h;refine pE (Zs.mono (X b h) λ e a' U' B=>?_);obtain⟨F,E,z,B⟩:=B;cases e with
  |normal=>exact⟨F,E,z,B⟩
  |exit i=>
   simp only at B ⊢;by_cases e:i=id
   .subst e;have:Nat.beq i i=true:=S1
    rw[this]at B;rw[if_pos rfl];exact⟨F,E,z,B⟩
   .have:Nat.beq i id=false:=by cases hb:Nat.beq i id with|false=>rfl|true=>exact absurd (Nat.eq_of_beq_eq_true hb) e
    rw[this]at B;rw[if_neg e];exact⟨F,E,z,B⟩
  |ret=>exact⟨F,E,z,B⟩
 |loop c X=>
  intro n x r f ds U a b h;obtain⟨α,L,I,μ,ac,he,Y,hr⟩:=h;refine pG (G:=α) (λ y a U=>∃f,FR N a (ovr (L y) f) ds/\I y U) μ (g:=ac) ⟨f,by rw[he.ovr];exact b,Y⟩ λ y a U⟨f,b,Y⟩=>?_;refine Zs.mono (X b (hr y f U Y)) λ e a' U' B=>?_;obtain⟨F,E,z,B⟩:=B;cases e with
  |normal=>
   obtain⟨rfl,y',aa,Z,ab⟩:=B;exact⟨y',⟨F,by rw[aa.ovr];exact z,Z⟩,ab⟩
  |exit i=>exact⟨F,E,z,B⟩
  |ret=>exact⟨F,E,z,B⟩
 |rangeFunc c params assign body _ _=>
  intro n x r f ds U a b h;refine Zs.mono (h _ _ rfl rfl a b) λ e a' U'⟨Q,B⟩=>⟨f,a'.defers,⟨rfl,by rw[Q];exact b.size,λ t=>by rw[Q];exact b.get t⟩,?_⟩;cases e <;> exact B
 |exit id=>exact λ b h=>IU ⟨_,_,b,h⟩
 |scope c X=>exact λ b h=>pH (X b h)
 |goto l=>exact λ _ h=>h.elim
 |ret=>exact λ b h=>Lq ⟨_,_,b,h⟩
 |refuse w=>exact λ _ h=>h.elim
def fm(args:List Value):Fm:=λ t=>args.getD t undef
def Qo(b o n:Nat):(Addr.mk b o none).add n=⟨b,o+n,none⟩:=by
 simp only[Addr.add];split
 .rename_i h;subst h;rfl
 .rfl
def vF(a:Addr)(h:a.spot=none)(m n:Nat):(a.add m).add n=a.add (m+n):=by
 obtain⟨b,o,s⟩:=a;cases h;rw[Qo,Qo,Qo,Nat.add_assoc]
def Zj.sees{U:Qa T}{b o:Nat}{c:Array Value}{v:Value}(h:Zj U b c)(f:c[o]?=some v):U.sees ⟨b,o,none⟩ v:=by
 obtain⟨t,fr,h⟩:=h;exact⟨rfl,.inl ⟨c,t,fr,.inl h,f⟩⟩
def Zj.le{U U':Qa T}{b:Nat}{c:Array Value}(h:Zj U b c)(f:U.le U'):Zj U' b c:=let ⟨t,fr,h⟩:=h;⟨t,fr,f.imm _ _ h⟩
def Zl8{a:Addr}(h:U.sees a v):Jj U a [v]:=by
 intro i u b;cases i with
 |zero=>simp at b;subst b;simpa[Addr.add]using h
 |succ i=>simp at b
def Zj.reads(h:Zj U b c)(w:∀i v,vs[i]?=some v->c[N+i]?=some v):Jj U ⟨b,N,none⟩ vs:=by
 intro i v f;rw[Qo];exact h.sees (w i v f)
def Zj.rd(h:Zj U b vs.toArray):Jj U ⟨b,0,none⟩ vs:=h.reads λ k v f=>by simpa using f
def Dd(h:U.le U'):Qv U' U:=by
 refine⟨h.tok.symm,λ w ok=>⟨⟨λ b o e=>ok.imm b o (h.imm b o e),λ r B=>ok.held r (h.own▸B),h.own▸ok.apart,λ r B=>?_⟩,λ l f=>?_,λ l f=>?_⟩⟩
 .have:=ok.sep r (h.own▸B);cases e:U.I r.blk with
  |none=>rfl
  |some o=>rw[h.imm _ _ e]at this;cases this
 .rw[Q4]at f ⊢;rw[h.own];exact f
 .rw[Qx]at f ⊢;rw[h.own];refine f.imp id λ f=>?_;cases l with
  |cell a=>obtain⟨c,t,fr,E,z⟩:=f;exact⟨c,t,fr,h.imm _ _ E,z⟩
  |obj b=>obtain⟨o,F⟩:=f;exact⟨o,h.imm _ _ F⟩
  |output=>exact f
  |goroutines=>exact f
  |mark _=>exact f
def Qb.pure(h:Qb S fn args (λ v U'=>θ v/\U.le U') U):Qb S fn args (λ v U'=>θ v/\U'=U) U:=
 h.post λ _ _⟨q,b⟩=>⟨U,Dd b,q,rfl⟩
def Xq(id:Nat):Code->Option Code
 |.region i ops d=>if i=id then some (.region i ops d)else none
 |.seq a b=>(Xq id a).or (Xq id b)
 |.cond _ a b=>(Xq id a).or (Xq id b)
 |.block _ b=>Xq id b
 |.loop b=>Xq id b
 |.scope b=>Xq id b
 |.rangeFunc _ _ a b=>(Xq id a).or (Xq id b)
 |_=>none
def GA(fd:Func)(id:Nat):Code:=(fd.body.bind (Xq id)).getD .skip
def GO(fd:Func)(id:Nat):Array Oper:=match GA fd id with
 |.region _ ops _=>ops
 |_=>#[]
inductive RV where
 |t (n:Nat)
 |c (a:Nat)
 |cn (a n:Nat)
variable{rl:List RV}
def XA(P:Program):ResultVar->Option RV
 |.tmp t=>some (.t t)
 |.cell a t=>match P.underlying t with
  |some d=>if TypeDesc.agg d then(Jr P t).map (.cn a)else some (.c a)
  |none=>none
def Yl(acc:List Value):Value:=match acc with|[v]=>v|l=>.tuple l.reverse.toArray
def Yk(acc:List Value)(K:Value->Prop):Prop:=match acc with|[v]=>K v|l=>K (.tuple l.reverse.toArray)
def vx(acc:List Value)(K:Value->Prop):Yk acc K=K (Yl acc):=by
 unfold Yk Yl;split <;> simp_all
def PO(f:Fm)(Q:Value->Qa T->Prop)(x:RV)(h:List Value->Qa T->Prop)(acc:List Value)(U:Qa T):Prop:=
 match x with
 |.t t=>WL (f t) λ v=>h (v::acc) U
 |.c a=>match f a with|.pointer (some b)=>∃v,U.sees b v/\WL v λ v=>h (v::acc) U|_=>False
 |.cn a n=>match f a with|.pointer (some b)=>∃vs:List Value,(vs.length=n/\Jj U b vs)/\h (.agg vs.toArray::acc) U|_=>False
def Ht(f:Fm)(Q:Value->Qa T->Prop)(l:List RV):List Value->Qa T->Prop:=
 List.rec (motive:=λ _=>List Value->Qa T->Prop) (λ acc U=>Yk acc λ v=>Q v U) (λ x _ b=>PO f Q x b) l
def O7(f:Fm)(Q:Value->Qa T->Prop)(x:RV)(r:List RV):Ht f Q (x::r)=PO f Q x (Ht f Q r):=rfl
def Ln(acc:List Value):Value:=if h:acc.reverse.toArray.size=1 then acc.reverse.toArray[0]else .tuple acc.reverse.toArray
def xO(acc:List Value):Yl acc=Ln acc:=by
 unfold Ln Yl
 match acc with
 |[]=>rfl
 |[v]=>rfl
 |a::b::r=>rw[dif_neg S1]
def jd{fd:Func}{Q:Value->Qa T->Prop}{f:Fm}{tmps:Array Value}(F:∀t,tmps.getD t undef=f t) :
  ∀(l:List ResultVar)(rl:List RV),l.mapM (XA P)=some rl->∀(acc:List Value)(U:Qa T),Ht f Q rl acc U->Qq P (WZ (λ x=>match x with
   |ResultVar.tmp t=>pure (tmps.getD t undef)
   |ResultVar.cell a t=>do loadVar t (<- asAddr (tmps.getD a undef))) l acc.reverse.toArray) (λ vs U=>Qq P (pure (if h:vs.size=1 then vs[0]else .tuple vs):Sem Value) Q U) U:=by
 intro l
 induction l with
 |nil=>
  intro rl h acc U b;simp at h;subst h
  replace b:Yk acc (λ v=>Q v U):=b
  rw[vx]at b;rw[xO]at b;exact b
 |cons x l E=>
  intro rl h acc U b;simp only[mapM_cons,Option.pure_def,Option.bind_eq_bind,Option.bind_eq_some_iff]at h;obtain⟨V,w,S,z,e⟩:=h;cases e;have push:∀v:Value,acc.reverse.toArray.push v=(v::acc).reverse.toArray:=λ v=>by apply Array.ext';simp
  cases x with
  |tmp t=>
   simp only[XA,Option.some.injEq]at w;subst w;simp only[O7,PO,Qy]at b;simp only[WZ];rw[Qd,F,Qk,push];exact E _ z _ _ b
  |cell a t=>
   simp only[WZ];rw[Qd,Qd,F];simp only[XA]at w;split at w
   .rename_i d hd;split at w
    .rename_i hag;simp only[Option.map_eq_some_iff]at w;obtain⟨n,I,rfl⟩:=w;obtain⟨N,G,B⟩:=HR I;simp only[O7,PO]at b;split at b
     .rename_i ad e;obtain⟨vs,⟨H,K⟩,b⟩:=b;rw[e];simp only[asAddr,Qk,loadVar,Qd,Hm hd,hag,if_true,Je G,B,<- H];refine K.cells ?_;simp only[Qk,push];exact E _ z _ _ b
     .exact b.elim
    .rename_i hag;cases w;simp only[O7,PO]at b;split at b
     .rename_i ad e;obtain⟨v,L,b⟩:=b;rw[Qy]at b;rw[e];simp only[asAddr,Qk,loadVar,Qd,Hm hd,hag,Bool.false_eq_true,if_false];refine SD L ?_;rw[push];exact E _ z _ _ b
     .exact b.elim
   .cases w
def Uf(rl:List RV)(Q:Value->Qa T->Prop)(f:Fm)(l:List Deferred):Qa T->Prop:=
 List.rec (motive:=λ _=>Qa T->Prop) (λ U=>Ht f Q rl [] U) (λ d _ h U=>match d.target with
  |.collected b=>∃M',J1 b (.deferred none) (.deferred (some [])) U.M M'/\h { U with M:=M' }
  |_=>False) l
def J1.mem(h:J1 b υ φ M M'):Qw.obj b φ∈M:=by
 induction h with
 |here=>exact mem_cons_self ..
 |there _ f=>exact mem_cons_of_mem _ f
def Vt{fd:Func}{rl:List RV}(B:fd.results.toList.mapM (XA P)=some rl){Q:Value->Qa T->Prop}{f:Fm}:∀(ds:List Deferred)(U:Qa T),Uf rl Q f ds U ->
  ∀tmps:Array Value,(∀t,tmps.getD t undef=f t)->X0 P fd Q tmps ds U
 |[],U,h,tmps,z=>by
  have w:fd.results=fd.results.toList.toArray:=rfl;simp only[X0,results];rw[w,Qd,So];exact jd (fd:=fd) z _ _ B [] U h
 |⟨tg,args⟩::ds,U,h,tmps,z=>by
  cases tg with
  |collected b=>
   obtain⟨M',E,h⟩:=h;simp only[X0,Instr.takeDeferred,Qd,getObj];refine⟨_,.inr E.mem,rfl,rfl,?_⟩;simp only[Qq,Qd,setObj];exact⟨_,M',E,rfl,rfl,rfl,rfl,Vt B ds _ h tmps z⟩
  |_=>exact h.elim
structure Zk(P:Program)(g:FuncId)(N:Nat)(cc:C)(rl:List RV):Prop where
 ok:∃fd mu dets,P.funcs[g]?=some fd/\fd.body=some (fd.body.getD .skip)/\clean P mu fd.ntmps dets (fd.body.getD .skip)=cc/\fd.ntmps=N/\fd.results.toList.mapM (XA P)=some rl/\(fd.name != "runtime.NumGoroutine")=true
def Zk.mk'(mu dets:List Nat)(z:P.funcs[g]?=some fd)(b:fd.body.isSome=true)(w:clean P mu fd.ntmps dets (fd.body.getD .skip)=cc)(f:fd.ntmps=N)
  (E:fd.results.toList.mapM (XA P)=some rl) (B:(fd.name != "runtime.NumGoroutine")=true):Zk P g N cc rl:=
 ⟨fd,mu,dets,z,by cases h:fd.body with|none=>rw[h]at b;cases b|some c=>rfl,w,f,E,B⟩
def Zk.o(mu dets:List Nat)(E:P.funcs[g]?=some fd)(h:(fd.body.isSome,clean P mu fd.ntmps dets (fd.body.getD .skip),fd.ntmps,fd.results.toList.mapM (XA P),(fd.name != "runtime.NumGoroutine"))=(true,cc,N,some rl,true)):Zk P g N cc rl:=by
 obtain⟨b,f,w,z,B⟩:=(by simpa only[Prod.mk.injEq]using h:_/\_/\_/\_/\_);exact .mk' mu dets E b f w z B
def Zk.any{g:FuncId}{N:Nat}{cc:C}{rl:List RV}(k:Zk P g N cc rl):(P.funcs[g]?.any λ fd=>fd.body.isSome&&fd.name != "runtime.NumGoroutine")=true:=by
 obtain⟨fd,mu,dets,f,b,-,-,-,h⟩:=k.ok;rw[f,Option.any_some,h,b];rfl
def Qb.of(k:Zk P g N cc rl)(I:P.follows .mixedOrders=true){args:List Value}(L:args.length<=N){Q:Value->Qa T->Prop}
  (h:JX S g none cc (λ f ds U=>Uf rl Q f ds U) (λ _ _ _ _=>False) (λ f ds U=>Uf rl Q f ds U) (fm args) [] U):Qb S g args.toArray Q U:=by
 obtain⟨fd,mu,dets,H,F,G,rfl,B,-⟩:=k.ok;refine Qb.of_body H F ?_
 have z:FR fd.ntmps { tmps:=args.toArray++Array.replicate (fd.ntmps-args.toArray.size) undef,defers:=[] } (fm args) []:=by
  refine⟨rfl,S3,λ t=>?_⟩;simp only[fm,Array.getD_eq_getD_getElem?,getD_eq_getElem?_getD,Array.getElem?_append,size_toArray,getElem?_toArray];split
  .rfl
  .rename_i hlt;rw[getElem?_eq_none O1,Array.getElem?_replicate];split <;> rfl
 subst G;refine Zs.mono (HZ I _ z h) λ e a U w=>?_;obtain⟨K,E,b,w⟩:=w;cases e with
 |normal=>have:=Vt B _ _ w a.tmps b.get;simpa only[SQ,b.ds]using this
 |exit i=>exact w.elim
 |ret=>have:=Vt B _ _ w a.tmps b.get;simpa only[SQ,b.ds]using this
abbrev C.sr(l:List St)(c:C):C:=.seq (.reg l) c
abbrev St.xz(d a b t:Nat):St:=.d d (.rw (.call { callee:=.builtin .append,args:=#[.tmp a,.tmp b],argTypes:=#[t,t] }) t)
abbrev St.xo(d k t:Nat):St:=.d d (.off k (.tmp t))
abbrev St.xl(d t:Nat):St:=.d d (.ld (.tmp t))
abbrev St.xi(d n a b:Nat):St:=.d d (.idx n (.tmp a) (.tmp b))
abbrev St.xn(d t:Nat):St:=.d d (.len (.tmp t))
abbrev St.xc(d:Nat)(o:BinOp)(a b:Nat):St:=.d d (.cmp o (.tmp a) (.tmp b))
abbrev St.xk(d:Nat)(o:BinOp)(a:Nat)(n:Int):St:=.d d (.cmp o (.tmp a) (.ci n))
abbrev St.xa(d t:Nat):St:=.d d (.add (.tmp t) (.ci 1))
abbrev St.xe(d t i:Nat):St:=.d d (.ext (.tmp t) i)
abbrev St.xd(d n t:Nat):St:=.d d (.ldn n (.tmp t))
abbrev St.xt(d t:Nat):St:=.d d (.not (.tmp t))
abbrev St.xv(d:Nat)(n:Int):St:=.d d (.mv (.ci n))
abbrev St.xb(d:Nat)(b:Bool):St:=.d d (.mv (.cb b))
abbrev St.xs(d:Nat):St:=.d d (.mv .cn)
abbrev St.xp(d a b:Nat):St:=.d d (.pick (.tmp a) (.tmp b) (.cb false))
abbrev St.xq(d a b:Nat):St:=.d d (.pick (.tmp a) (.cb true) (.tmp b))
abbrev St.yo(d g:Nat)(p:Bool)(k t:Nat):St:=.u d g p (.off k (.tmp t))
abbrev St.yl(d g:Nat)(p:Bool)(t:Nat):St:=.u d g p (.ld (.tmp t))
abbrev St.yi(d g:Nat)(p:Bool)(n a b:Nat):St:=.u d g p (.idx n (.tmp a) (.tmp b))
abbrev St.yn(d g:Nat)(p:Bool)(t:Nat):St:=.u d g p (.len (.tmp t))
abbrev St.ym(d g:Nat)(p:Bool)(t:Nat):St:=.u d g p (.mv (.tmp t))
abbrev St.yk(d g:Nat)(p:Bool)(o:BinOp)(a:Nat)(n:Int):St:=.u d g p (.cmp o (.tmp a) (.ci n))
def Z3(U:Qa T)(a:Option Addr)(len:Nat)(l:List Int):Prop:=l.length=len/\∀i x,l[i]?=some x->∃b,a=some b/\b.spot=none/\U.sees (b.add (i*1)) (.int .i64 x)
def Q8(U:Qa T)(a:Option Addr)(len n:Nat)(l:List α)(R:α->List Value->Prop):Prop:=
 l.length=len/\∀i x,l[i]?=some x->∃b vs,a=some b/\b.spot=none/\R x vs/\vs.length=n/\Jj U (b.add (i*n)) vs
def Z3.le{U U':Qa T}{a:Option Addr}{len:Nat}{l:List Int}(h:Z3 U a len l)(b:U.le U'):Z3 U' a len l:=
 ⟨h.1,λ i x f=>let ⟨ad,e,hs,hv⟩:=h.2 i x f;⟨ad,e,hs,hv.le b⟩⟩
def Q8.le{U U':Qa T}{a:Option Addr}{len n:Nat}{α:Type}{l:List α}{R R':α->List Value->Prop}(h:Q8 U a len n l R)(f:U.le U')(b:∀x vs,R x vs->R' x vs):Q8 U' a len n l R':=
 ⟨h.1,λ i x w=>let ⟨ad,vs,e,hs,hr,hn,hv⟩:=h.2 i x w;⟨ad,vs,e,hs,b _ _ hr,hn,hv.le f⟩⟩
def Z3.at{l:List Int}(h:Z3 U a len l)(f:i<len):∃b x,l[i]?=some x/\a=some b/\b.spot=none/\U.sees (b.add (i*1)) (.int .i64 x):=by
 have w:i<l.length:=by rw[h.1];exact f
 obtain⟨b,e,z,B⟩:=h.2 i l[i] S1;exact⟨b,l[i],S1,e,z,B⟩
def Q8.at(h:Q8 U a len n δ ρ)(f:i<len) :
  ∃b x vs,δ[i]?=some x/\a=some b/\b.spot=none/\ρ x vs/\vs.length=n/\Jj U (b.add (i*n)) vs:=by
 have w:i<δ.length:=by rw[h.1];exact f
 obtain⟨b,vs,e,E,B,z,F⟩:=h.2 i δ[i] S1;exact⟨b,δ[i],vs,S1,e,E,B,z,F⟩
def Jj.cell{a:Addr}(h:Jj U a vs)(b:vs[i]?=some v):U.sees (a.add i) v:=h i v b
def Zz(h:M'.Sublist U.M):Qv U { U with M:=M' }:=by
 refine⟨rfl,λ w ok=>⟨⟨ok.imm,λ r f=>ok.held r (h.subset f),ok.apart.sublist h,λ r f=>ok.sep r (h.subset f)⟩,λ l b=>?_,λ l b=>?_⟩⟩
 .rw[Q4]at b ⊢;obtain⟨r,f,b⟩:=b;exact⟨r,h.subset f,b⟩
 .rw[Qx]at b ⊢;exact b.imp (λ⟨r,f,b⟩=>⟨r,h.subset f,b⟩) id
def Ig(F:JP U')(w:U'.M=.obj b υ::M₀)(h:∀x f,U.I x=some f->U'.I x=some f)(E:U.M=M₀)(G:U'.tok=U.tok) :
  ∃U'',Qv U' U''/\U.le U''/\U''.I b=some υ:=by
 refine⟨{ U' with I:=Z_ U'.I b υ,M:=M₀ },Wa (by rw[w]),⟨λ x f B=>?_,E.symm,G⟩,by simp[Z_]⟩;have z:U'.I b=none:=F (.obj b υ) (by rw[w];simp);show Z_ U'.I b υ x=_;unfold Z_;rw[if_neg]
 .exact h x f B
 .rintro rfl;rw[h _ _ B]at z;cases z
structure Qa.lg(U U':Qa T):Prop where
 imm:∀b o,U.I b=some o->U'.I b=some o
 own:∃A,U'.M=A++U.M
 tok:U'.tok=U.tok
def Qa.le.lg{U U':Qa T}(h:U.le U'):U.lg U':=⟨h.imm,⟨[],h.own⟩,h.tok⟩
def Qa.lg.trans{a b c:Qa T}(h:a.lg b)(k:b.lg c):a.lg c:=
 ⟨λ x o e=>k.imm x o (h.imm x o e),let ⟨A,e⟩:=h.own;let ⟨B,e'⟩:=k.own;⟨B++A,by rw[e',e,append_assoc]⟩,k.tok.trans h.tok⟩
def Z2(b:Nat)(o:Obj):U.lg (U.put b o):=⟨λ _ _ h=>h,⟨[.obj b o],rfl⟩,rfl⟩
def Qa.lg.shift(h:U.lg U'):∃U'',Qv U' U''/\U.le U''/\U''.I=U'.I:=by
 obtain⟨A,e⟩:=h.own;exact⟨_,Zz (M':=U.M) (by rw[e];exact sublist_append_right ..),⟨h.imm,rfl,h.tok⟩,rfl⟩
def Qb.go(h:Qb S fn args (λ v U'=>v=z/\U'=U) U)(k:K z U):Qb S fn args K U:=h.mono λ v U'⟨a,b⟩=>by rw[a,b];exact k
def Qb.pure'{Q:Value->Prop}(h:Qb S fn args (λ v U'=>Q v/\U.lg U') U):Qb S fn args (λ v U'=>Q v/\U'=U) U:=
 h.post λ _ _⟨q,b⟩=>let ⟨_,h1,h2,_⟩:=b.shift;⟨U,h1.trans (Dd h2),q,rfl⟩
def Qa.sees.lg{U U':Qa T}{a:Addr}{v:Value}(h:U.sees a v)(b:U.lg U'):U'.sees a v:=by
 obtain⟨A,e⟩:=b.own;obtain⟨f,⟨c,t,fr,w,z⟩|⟨t,n,B⟩⟩:=h
 .exact⟨f,.inl ⟨c,t,fr,w.imp (b.imm _ _) (λ h=>by rw[e];exact mem_append_right _ h),z⟩⟩
 .exact⟨f,.inr ⟨t,n,by rw[e];exact mem_append_right _ B⟩⟩
def Jj.lg{U U':Qa T}{a:Addr}{vs:List Value}(h:Jj U a vs)(b:U.lg U'):Jj U' a vs:=λ i v f=>(h i v f).lg b
def Zj.lg{U U':Qa T}{b:Nat}{c:Array Value}(h:Zj U b c)(f:U.lg U'):Zj U' b c:=let ⟨t,fr,h⟩:=h;⟨t,fr,f.imm _ _ h⟩
def Z3.lg{U U':Qa T}{a:Option Addr}{len:Nat}{l:List Int}(h:Z3 U a len l)(b:U.lg U'):Z3 U' a len l:=
 ⟨h.1,λ i x f=>let ⟨ad,e,hs,hv⟩:=h.2 i x f;⟨ad,e,hs,hv.lg b⟩⟩
def Q8.lg{U U':Qa T}{a:Option Addr}{len n:Nat}{α:Type}{l:List α}{R R':α->List Value->Prop}(h:Q8 U a len n l R)(f:U.lg U')(b:∀x vs,R x vs->R' x vs):Q8 U' a len n l R':=
 ⟨h.1,λ i x w=>let ⟨ad,vs,e,hs,hr,hn,hv⟩:=h.2 i x w;⟨ad,vs,e,hs,b _ _ hr,hn,hv.lg f⟩⟩
def rq(h:Qq P s (λ v U'=>∃b,Qv U' b/\K v b) U):Qq P (do pure (.value (<- s)):Sem Next) (ZF S λ v U'=>∃b,Qv U' b/\K v b) U:=by
 rw[Qd];exact h
def ru{s:Sem Unit}(h:Qq P s (λ _ U'=>∃b,Qv U' b/\K undef b) U):Qq P (do s;pure .skip:Sem Next) (ZF S λ v U'=>∃b,Qv U' b/\K v b) U:=by
 rw[Qd];exact h
def vp{m:Nat}(b:P.underlying B=some (.slice e))(h:γ a.isNone U):Qq P (Op.equalIn (m+1) B (.slice a n N) (.slice none i c0)) γ U:=by
 rw[Op.equalIn];simp only[Qd,Ze b];cases a <;> exact h
def Vy{E:TypeId}(z:P.underlying G=some (.slice e))(B:Zg f x=.slice a n N)(h:K (.bool a.isNone) U) :
  OX S (.rw (.binOp .eql G x (.const (.slice none b c0)) t') E) f K U:=by
 intro a' w;simp only[execOp,w,B];refine rq ?_;rw[Qd];show Qq P (binOp .eql G (.slice a n N) (.slice none b c0)) _ U;show Qq P (do pure (Value.bool (<- Op.equal G (.slice a n N) (.slice none b c0))):Sem Value) _ U;rw[Qd];exact vp (m:=9999) z ⟨U,.refl _,h⟩
def WR:TypeDesc->Bool
 |.int _|.bool|.string=>true
 |_=>false
def HM:Value->Value->Bool
 |.int _ a,.int _ b=>a==b
 |.bool a,.bool b=>a==b
 |.string a,.string b=>a==b
 |_,_=>false
def X2:TypeDesc->Value->Bool
 |.int k,.int k' _=>decide (k=k')
 |.bool,.bool _=>true
 |.string,.string _=>true
 |_,_=>false
def Iq(w:P.underlying e=some V)(h:WR V=true)(b:X2 V v=true)(f:X2 V z=true)(Q:Bool->Qa T->Prop)(U:Qa T) :
  Qq P (Op.equalIn (N+1) e v z) Q U=Q (HM v z) U:=by
 rw[Op.equalIn];simp only[Qd,Ze w];cases V <;> simp[WR]at h <;> cases v <;> simp[X2]at b <;> cases z <;> simp[X2]at f
 .rfl
 .subst b;subst f;simp only[if_true];rfl
 .rfl
def Hn(P:Program):List Field->Nat->Bool
 |[],_=>true
 |fd::r,j=>fd.name != "_"&&decide (fd.offset=j)&&(match P.underlying fd.type with|some d=>WR d|none=>false)&&Hn P r (j+1)
def JM(P:Program):List Field->List Value->Bool
 |[],[]=>true
 |fd::r,v::vs=>(match P.underlying fd.type with|some d=>X2 d v|none=>false)&&JM P r vs
 |_,_=>false
def ZE:List Value->List Value->Bool
 |[],[]=>true
 |x::xs,y::ys=>HM x y&&ZE xs ys
 |_,_=>false
def Gc(f:P.underlying e=some V)(b:WR V=true)(h:c[j]?=some v)(Q:Value->Qa T->Prop)(U:Qa T) :
  Qq P (part e c j) Q U=Q v U:=by
 have:TypeDesc.agg V=false:=by cases V <;> first|rfl|simp[WR]at b
 simp only[part,Qd,Hm f,this,Bool.false_eq_true,if_false,h];rfl
def PZ{x:α}{b:β} :
  Qq P (forIn (x::δ) b μ) χ U=Qq P (μ x b) (λ r U=>match r with|.done b=>χ b U|.yield b=>Qq P (forIn δ b μ) χ U) U:=by
 rw[forIn_cons,Qd];congr 1;funext r U;cases r <;> rfl
def UY{m:Nat}{xs ys:Array Value}{Q:Option Bool×PUnit->Qa T->Prop}:∀(F:List Field)(j:Nat)(vs ws:List Value),Hn P F j=true->JM P F vs=true->JM P F ws=true ->
  (∀i v,vs[i]?=some v->xs[j+i]?=some v)->(∀i v,ws[i]?=some v->ys[j+i]?=some v)->Q (if ZE vs ws then none else some false,()) U ->
  Qq P (forIn F ((none,()):Option Bool×PUnit) λ fd _=>
   if fd.name ≠ "_" then do
    let a <- part fd.type xs fd.offset
    let b <- part fd.type ys fd.offset
    let c <- Op.equalIn (m+1) fd.type a b
    if(!c)=true then pure (ForInStep.done (some false,()))else pure (ForInStep.yield (none,()))
   else pure (ForInStep.yield (none,()))) Q U
 |[],j,vs,ws,_,f,z,_,_,h=>by
  cases vs <;> cases ws <;> simp[JM]at f z;exact h
 |fd::r,j,vs,ws,L,f,z,N,S,h=>by
  cases vs with
  |nil=>simp[JM]at f
  |cons v vs=>
  cases ws with
  |nil=>simp[JM]at z
  |cons w ws=>
  simp only[Hn,Bool.and_eq_true,decide_eq_true_eq]at L;obtain⟨⟨⟨V,W⟩,B⟩,X⟩:=L;simp only[JM,Bool.and_eq_true]at f z;cases E:P.underlying fd.type with
  |none=>rw[E]at B;cases B
  |some d=>
   rw[E]at B f z;rw[PZ,if_pos (by simpa using V)];simp only[Qd,W];have H:xs[j]?=some v:=by simpa using N 0 v rfl
   have I:ys[j]?=some w:=by simpa using S 0 w rfl
   rw[Gc E B H,Gc E B I,Iq E B f.1 z.1];cases K:HM v w with
   |false=>simpa[K,ZE,Qk]using h
   |true=>
    simp only[Bool.not_true,Bool.false_eq_true,if_false,Qk];refine UY r (j+1) vs ws X f.2 z.2 (λ i v G=>?_) (λ i v G=>?_) (by simpa[K,ZE]using h)
    .have:=N (i+1) v G;rwa [show j+(i+1)=j+1+i by omega]at this
    .have:=S (i+1) v G;rwa [show j+(i+1)=j+1+i by omega]at this
def Ou{b:Array Field}(G:P.underlying e=some (.struct b))(w:P.stoodInHeld e=false)(F:Hn P b.toList 0=true)(H:JM P b.toList vs=true)(I:JM P b.toList ws=true)
   (h:γ (ZE vs ws) U):Qq P (Op.equal e (.agg vs.toArray) (.agg ws.toArray)) γ U:=by
 have z:Op.equal e (.agg vs.toArray) (.agg ws.toArray)=Op.equalIn (9998+1+1) e (.agg vs.toArray) (.agg ws.toArray):=rfl;rw[z,Op.equalIn];simp only[Qd,Ze G,program,Qq,w,Bool.false_eq_true,if_false];obtain⟨B⟩:=b;rw[forIn_toArray];refine UY B 0 vs ws F H I (λ i v f=>by simpa using f) (λ i v f=>by simpa using f) ?_;cases E:ZE vs ws <;> simpa[E,Qk]using h
def Ov(b:P.eqGuardType P.depth e=false)(h:D () U):Qq P (eqGuard op e x y (.agg c) (.agg args)) D U:=by
 unfold eqGuard
 have key (u:Unsupported):Qq P (do
     if !(<- program).eqGuardType (<- program).depth e then return
     if <- Op.eqGuardIn Op.maxDepth e (.agg c) (.agg args)then unsupported u:Sem Unit) D U:=by
  simp only[Qd,program,Qq,b,Bool.not_false,if_true,Qk];exact h
 cases op <;> first|exact key _|exact h
structure G1(P:Program)(t:TypeId)(fs:Array Field):Prop where
 u:P.underlying t=some (.struct fs)
 s:P.stoodInHeld t=false
 f:Hn P fs.toList 0=true
 g:P.eqGuardType P.depth t=false
def vE{b:Array Field}(k:G1 P e b)(E:Zg f x=.agg vs.toArray)(F:Zg f y=.agg ws.toArray)(z:JM P b.toList vs=true)(B:JM P b.toList ws=true)(h:K (.bool (ZE vs ws)) U) :
  OX S (.rw (.binOp .eql e x y t') G) f K U:=by
 intro a' w;simp only[execOp,w,E,F];refine rq ?_;rw[Qd];refine Ov k.g ?_;simp only[binOp,Qd];exact Ou k.u k.s k.f z B ⟨U,.refl _,h⟩
def kg{b:Array Field}(k:G1 P e b)(E:Zg f x=.agg vs.toArray)(F:Zg f y=.agg ws.toArray)(z:JM P b.toList vs=true)(B:JM P b.toList ws=true)(h:K (.bool (!ZE vs ws)) U) :
  OX S (.rw (.binOp .neq e x y t') G) f K U:=by
 intro a' w;simp only[execOp,w,E,F];refine rq ?_;rw[Qd];refine Ov k.g ?_;simp only[binOp,Qd];exact Ou k.u k.s k.f z B ⟨U,.refl _,h⟩
def Zoh{k:IntKind}{a b:Int}(E:Zg f x=.int k a)(F:Zg f y=.int k b)(h:K (.int k (min a b)) U) :
  OX S (.rw (.call { callee:=.builtin .min,args:=#[x,y],argTypes:=ω }) G) f K U:=by
 intro a' z;have B:(#[x,y]:Array Operand).map a'.eval=#[.int k a,.int k b]:=by simp[z,E,F]
 simp only[execOp,resolve,B,Qd,Qk,invoke,builtin,Builtin.min_,List.foldlM,Builtin.min2];refine⟨U,.refl _,?_⟩;have:(if b<a then b else a)=min a b:=by rw[Int.min_def];split <;> split <;> omega
 rw[this];exact h
def Qs{κ:Type}(enc:κ->Value):List (κ×Value)->Nat->List MapEntry
 |[],_=>[]
 |p::l,i=>⟨enc p.1,p.2,i⟩::Qs enc l (i+1)
def Qt(enc:κ->Value)(l:List (κ×Value)):Obj:=.map (Qs enc l 0).toArray l.length
def QK{κ:Type}[DecidableEq κ](k:κ):List (κ×Value)->Nat->Option (Nat×Value)
 |[],_=>none
 |p::l,i=>if k=p.1 then some (i,p.2)else QK k l (i+1)
def lk{κ:Type}[DecidableEq κ](k:κ)(l:List (κ×Value)):Option Value:=(QK k l 0).map (·.2)
def Q_{κ:Type}[DecidableEq κ](k:κ)(v:Value):List (κ×Value)->List (κ×Value)
 |[]=>[(k,v)]
 |p::l=>if k=p.1 then(p.1,v)::l else p::Q_ k v l
structure WG(T:Type)(P:Program)(kt:TypeId){κ:Type}[DecidableEq κ](enc:κ->Value):Prop where
 chk:∀(e:Bool)(k:κ){Q:Unit->Qa T->Prop}{U:Qa T},Q () U->Qq P (Instr.checkKey e 10000 kt (enc k)) Q U
 find:∀(k:κ)(l:List (κ×Value)){Q:Option (Nat×Value)->Qa T->Prop}{U:Qa T},Q (QK k l 0) U->Qq P (Instr.findKey kt (enc k) (Qs enc l 0)) Q U
 bits:∀k,Instr.sameBits 10000 (enc k) (enc k)=true
def F3{κ:Type}[DecidableEq κ]{enc:κ->Value}{d:TypeDesc}(h:∀k k',Instr.sameNow d (enc k) (enc k')=some (decide (k=k')))(k:κ):∀(l:List (κ×Value))(i j:Nat),Instr.findNow d (enc k) (Qs enc l j) i=some (QK k l i)
 |[],i,j=>rfl
 |p::l,i,j=>by
  simp only[Qs,Instr.findNow,h,QK];by_cases e:k=p.1
  .simp[e]
  .simp only[e,decide_false,if_false];exact F3 h k l (i+1) (j+1)
def DU(h:∀k k',Instr.sameNow V (enc k) (enc k')=none)(k:κ)(p:κ×Value)(l:List (κ×Value))(i j:Nat):Instr.findNow V (enc k) (Qs enc (p::l) j) i=none:=by
 simp only[Qs,Instr.findNow,h]
def YP{κ:Type}[DecidableEq κ]{enc:κ->Value}{f:TypeId}(h:∀k k'{Q:Bool->Qa T->Prop}{U:Qa T},Q (decide (k=k')) U->Qq P (Op.equal f (enc k) (enc k')) Q U)(k:κ) :
  ∀(l:List (κ×Value))(i j:Nat){Q:Option (Nat×Value)->Qa T->Prop}{U:Qa T},Q (QK k l i) U->Qq P (Instr.findAsking f (enc k) (Qs enc l j) i) Q U
 |[],i,j,Q,U,b=>b
 |p::l,i,j,Q,U,b=>by
  simp only[Qs,Instr.findAsking,Qd];refine h k p.1 ?_;by_cases e:k=p.1
  .simpa[e,QK,Qk]using b
  .simp only[e,decide_false,Bool.false_eq_true,if_false];exact YP h k l (i+1) (j+1) (by simpa[QK,e]using b)
def WG.simple{d:TypeDesc}{κ:Type}[DecidableEq κ]{enc:κ->Value}(f:P.underlying t'=some d)(z:WR d=true)(B:∀k k',Instr.sameNow d (enc k) (enc k')=some (decide (k=k')))(w:∀k,Instr.sameBits 10000 (enc k) (enc k)=true):WG T P t' enc:=by
 refine⟨λ e k Q U h=>?_,λ k l Q U h=>?_,w⟩
 .have:∀m,Qq P (Instr.checkKey e (m+1) t' (enc k)) Q U:=λ m=>by
   rw[Instr.checkKey];simp only[Qd,Ze f];cases d <;> simp[WR]at z <;> exact h
  exact this 9999
 .unfold Instr.findKey;simp only[Qd,Ze f,F3 B k l 0 0];exact h
def If{m:Nat}{e:Bool}{xs:Array Value}{Q:PUnit->Qa T->Prop}:∀(B:List Field)(j:Nat)(vs:List Value),Hn P B j=true->JM P B vs=true->(∀i v,vs[i]?=some v->xs[j+i]?=some v)->Q () U ->
  Qq P (forIn B PUnit.unit λ fd _=>
   if fd.name ≠ "_" then do
    let a <- part fd.type xs fd.offset
    Instr.checkKey e (m+1) fd.type a
    pure (ForInStep.yield PUnit.unit)
   else pure (ForInStep.yield PUnit.unit)) Q U
 |[],_,_,_,_,_,h=>h
 |fd::r,j,vs,F,z,G,h=>by
  cases vs with
  |nil=>simp[JM]at z
  |cons v vs=>
  simp only[Hn,Bool.and_eq_true,decide_eq_true_eq]at F;obtain⟨⟨⟨H,I⟩,b⟩,K⟩:=F;simp only[JM,Bool.and_eq_true]at z;cases w:P.underlying fd.type with
  |none=>rw[w]at b;cases b
  |some d=>
   rw[w]at b z;rw[PZ,if_pos (by simpa using H)];have E:xs[j]?=some v:=by simpa using G 0 v rfl
   simp only[Qd,I];rw[Gc w b E]
   have f:∀Q:Unit->Qa T->Prop,Qq P (Instr.checkKey e (m+1) fd.type v) Q U=Q () U:=λ Q=>by
    rw[Instr.checkKey];simp only[Qd,Ze w];cases d <;> simp[WR]at b <;> rfl
   rw[f];simp only[Qk];refine If r (j+1) vs K z.2 (λ i v L=>?_) h;have:=G (i+1) v L;rwa [show j+(i+1)=j+1+i by omega]at this
def WG.struct{z:Array Field}{κ:Type}[DecidableEq κ]{enc:κ->List Value}(w:G1 P B z)(b:∀k,JM P z.toList (enc k)=true)(G:∀k k',ZE (enc k) (enc k')=decide (k=k'))(F:∀k,Instr.sameBits 10000 (.agg (enc k).toArray) (.agg (enc k).toArray)=true) :
  WG T P B (λ k=>.agg (enc k).toArray):=by
 refine⟨λ e k Q U h=>?_,λ k l Q U h=>?_,F⟩
 .have:∀m,Qq P (Instr.checkKey e (m+1+1) B (.agg (enc k).toArray)) Q U:=λ m=>by
   rw[Instr.checkKey];simp only[Qd,Ze w.u];obtain⟨E⟩:=z;rw[forIn_toArray];exact If E 0 (enc k) w.f (b k) (λ i v H=>by simpa using H) h
  exact this 9998
 .unfold Instr.findKey;simp only[Qd,Ze w.u];cases l with
  |nil=>exact h
  |cons p l=>
   rw[DU (enc:=λ k=>Value.agg (enc k).toArray) (λ _ _=>rfl)];exact YP (λ k k' Q U I=>Ou w.u w.s w.f (b k) (b k') (by rw[G];exact I)) k (p::l) 0 0 h
def GT(enc:κ->Value)(h:∀b,U.free b->K (.map (some b)) (U.put b (Qt enc []))) :
  OX S (.rw (.makeMap e none) t') f K U:=by
 intro a' B;simp only[execOp];refine rq ?_;simp only[Instr.makeMap,Qd,newObj,Qq,Qk,Option.map_none];exact λ b w=>⟨_,.refl _,h b w⟩
def Is{κ:Type}[DecidableEq κ]{enc:κ->Value}{E:TypeId}{l:List (κ×Value)}{k:κ}(w:WG T P B enc)(H:P.underlying t'=some (.map B E))(I:X5 P E=some z)
  (G:U.has b (Qt enc l)) {Q:Value->Qa T->Prop} (h:Q (if ok then .tuple #[(lk k l).getD z,.bool (lk k l).isSome]else(lk k l).getD z) U):Qq P (Instr.lookup t' (.map (some b)) (enc k) ok) Q U:=by
 obtain⟨K,F,f⟩:=GU I;unfold Instr.lookup;simp only[Qd,Ze H,getObj];refine⟨_,G,rfl,rfl,?_⟩;simp only[Qq,Qt,Qk,Qd];refine w.chk _ _ ?_;refine w.find k l ?_;unfold lk at h;cases e:QK k l 0 with
 |none=>simp only[e,Option.map_none,Option.getD_none,Option.isSome_none]at h;simp only[Qd,Xk F f,Qk];exact h
 |some p=>simp only[e,Option.map_some,Option.getD_some,Option.isSome_some]at h;simp only[Qk];exact h
def YS{κ:Type}[DecidableEq κ]{enc:κ->Value}{l:List (κ×Value)}{k:κ}(F:WG T P w enc)(H:P.underlying e=some (.map w B))(N:X5 P B=some z)
  (I:Zg f x=.map (some b)) (L:Zg f y=enc k) (G:U.has b (Qt enc l)) (h:K ((lk k l).getD z) U) :
  OX S (.rw (.lookup e x y false) t') f K U:=by
 intro a' E;simp only[execOp,E,I,L];exact rq (Is F H N G ⟨U,.refl _,h⟩)
def YJ{κ:Type}[DecidableEq κ]{enc:κ->Value}{l:List (κ×Value)}{k:κ}(F:WG T P w enc)(H:P.underlying e=some (.map w B))(N:X5 P B=some z)
  (I:Zg f x=.map (some b)) (L:Zg f y=enc k) (G:U.has b (Qt enc l)) (h:K (.tuple #[(lk k l).getD z,.bool (lk k l).isSome]) U) :
  OX S (.rw (.lookup e x y true) t') f K U:=by
 intro a' E;simp only[execOp,E,I,L];exact rq (Is F H N G ⟨U,.refl _,h⟩)
def DS{κ:Type}(enc:κ->Value):∀(l:List (κ×Value))(i:Nat),(Qs enc l i).length=l.length
 |[],_=>rfl
 |_::l,i=>by simp[Qs,DS enc l]
def Yu{κ:Type}(enc:κ->Value):∀(l l':List (κ×Value))(i:Nat),Qs enc (l++l') i=Qs enc l i++Qs enc l' (i+l.length)
 |[],l',i=>by simp[Qs]
 |p::l,l',i=>by simp[Qs,Yu enc l l' (i+1)];congr 1;omega
def S5{κ:Type}[DecidableEq κ]{k:κ}{v:Value}:∀{l:List (κ×Value)}{i:Nat},QK k l i=none->Q_ k v l=l++[(k,v)]
 |[],_,_=>rfl
 |p::l,i,h=>by
  simp only[QK]at h;split at h
  .cases h
  .rename_i e;simp only[Q_,if_neg e,cons_append,S5 h]
def La{κ:Type}[DecidableEq κ]{enc:κ->Value}{k:κ}{v:Value}:∀{l:List (κ×Value)}{i j n:Nat}{x:Value},QK k l i=some (n,x)->i<=n/\(∃e,(Qs enc l j)[n-i]?=some e/\e.key=enc k) /\
   (Qs enc l j).modify (n-i) (λ e=>{ e with key:=enc k,val:=v })=Qs enc (Q_ k v l) j/\(Q_ k v l).length=l.length
 |[],_,_,_,_,h=>by cases h
 |p::l,i,j,n,x,h=>by
  simp only[QK]at h;split at h
  .rename_i e;cases h;refine⟨Nat.le_refl _,?_,?_,?_⟩
   .simp[Qs,e]
   .simp[Qs,Q_,e]
   .simp[Q_,e]
  .rename_i e;obtain⟨E,⟨x,w,b⟩,z,B⟩:=La (enc:=enc) (v:=v) (j:=j+1) h;have f:n-i=(n-(i+1))+1:=O1
   refine⟨O1,?_,?_,by simp[Q_,e,B]⟩
   .rw[f];exact⟨x,by simpa[Qs]using w,b⟩
   .rw[f];simp only[Qs,Q_,if_neg e,modify_succ_cons,z]
def Yv{κ:Type}[DecidableEq κ]{enc:κ->Value}{H vt ty:TypeId}{l:List (κ×Value)}{k:κ}{u:Operand}(E:WG T P H enc)(X:P.underlying t'=some (.map H vt))
  (Z:Zg f x=.map (some b)) (hy:Zg f y=enc k) (Y:Zg f u=v) (F:J1 b (Qt enc (Q_ k v l)) (Qt enc l) U.M M') (h:K undef { U with M:=M' }) :
  OX S (.rw (.mapUpdate t' x y u) ty) f K U:=by
 intro a' V;simp only[execOp,V,Z,hy,Y];refine ru ?_;unfold Instr.mapUpdate;simp only[Qd,Ze X,getObj];refine⟨_,.inr F.mem,rfl,rfl,?_⟩;simp only[Qq,Qt,Qk,Qd];refine E.chk _ _ ?_;refine E.find k l ?_;cases e:QK k l 0 with
 |none=>
  have G:=S5 (v:=v) e;simp only[setObj,Qq];refine⟨Qt enc l,M',?_,rfl,rfl,rfl,⟨_,.refl _,h⟩⟩
  have:Obj.map ((Qs enc l 0).toArray.push { key:=enc k,val:=v,born:=l.length }) (l.length+1)=Qt enc (Q_ k v l):=by
   rw[G];simp only[Qt,length_append,length_cons,length_nil,Yu,Qs,Nat.zero_add];congr 1;apply Array.ext';simp
  rw[this];exact F
 |some p=>
  obtain⟨n,w⟩:=p;obtain⟨h1,⟨I,L,B⟩,N,Q⟩:=La (enc:=enc) (v:=v) (j:=0) e
  have W:(((Qs enc l 0).toArray[n]?).map (·.key)).getD (enc k)=enc k:=by
   have:(Qs enc l 0).toArray[n]?=some I:=by simpa using L
   rw[this];exact B
  simp only[Qd,Instr.keyThatStays,W,E.bits,if_true,Qk,setObj,Qq];refine⟨Qt enc l,M',?_,rfl,rfl,rfl,⟨_,.refl _,h⟩⟩
  have:Obj.map ((Qs enc l 0).toArray.modify n λ e=>{ e with key:=enc k,val:=v }) l.length=Qt enc (Q_ k v l):=by
   simp only[Qt,Q];congr 1;apply Array.ext';have z:=N;rw[Nat.sub_zero]at z;simpa using z
  rw[this];exact F
def G8{b off:Nat}{e:TypeId}{M₀:List Qw}{Q:Qa T->Prop}:∀(vs:List Value)(i:Nat)(c:Array Value)(U:Qa T),U.M=.obj b (.cells c e (0,0))::M₀->(∀v∈vs,v.single=true)->off+i+vs.length<=c.size ->
  Q { U with M:=.obj b (.cells (JS c off vs i) e (0,0))::M₀ }->QZ ⟨b,off,none⟩ vs i Q U
 |[],i,c,U,f,_,_,h=>by
  have:U={ U with M:=.obj b (.cells c e (0,0))::M₀ }:=by rw[<- f]
  show Q U;rw[this];exact h
 |v::vs,i,c,U,f,w,z,h=>by
  simp only[length_cons]at z;refine⟨w v (mem_cons_self ..),.obj b (.cells (c.setIfInBounds (off+i) v) e (0,0))::M₀,?_,?_⟩
  .rw[f,Qo];exact .obj (a:=⟨b,off+i,none⟩) rfl (by show off+i<c.size;omega)
  .exact G8 vs (i+1) _ _ rfl (λ v B=>w v (mem_cons_of_mem _ B)) S3 h
def VQ(h:c.size=vs.length):JS c 0 vs 0=vs.toArray:=by
 apply Array.ext
 .rw[Vu];simpa using h
 .intro i h1 h2;have b:i<vs.length:=by simpa using h2
  have:=P8 vs c 0 0 i O1;rw[if_pos O1]at this;simp only[Nat.zero_add,Nat.sub_zero]at this;rw[Array.getElem?_eq_getElem h1,getElem?_eq_getElem b]at this;simpa using Option.some.inj this
def Zv(z:U.free b)(w:c.size=vs.length)(B:∀v∈vs,v.single=true)(h:∀f,U.le f->Zj f b vs.toArray->E f) :
  QZ ⟨b,0,none⟩ vs 0 (λ U'=>∃f,Qv U' f/\E f) (U.put b (.cells c e)):=by
 refine G8 vs 0 c _ rfl B O1 ?_;rw[VQ w];exact⟨_,Wa (b:=b) (M':=U.M) (Perm.refl _),h _ (Gj z) Zj.new⟩
def Acc(e:TypeId)(n:Nat)(v:Value)(cs:List Value)(M M₀:List Qw):Prop:=
 (v=.nl/\cs=[]/\M=M₀) \/
 (∃(b:Nat)(c:Array Value)(len cap:Nat),v=.slice (some ⟨b,0,none⟩) len cap/\cs.length=len*n/\len<=cap/\c.size=cap*n/\M=.obj b (.cells c e (0,0))::M₀/\∀(i:Nat)(x:Value),cs[i]?=some x->c[i]?=some x)
def Y4:Value->Bool
 |.slice none _ _=>true
 |_=>false
def Acc.nil:Acc e n .nl [] M₀ M₀:=.inl ⟨rfl,rfl,rfl⟩
def Acc.empty:Acc e n (.slice (some ⟨b,0,none⟩) 0 0) [] (.obj b (.cells #[] e (0,0))::M₀) M₀:=
 .inr ⟨b,#[],0,0,rfl,S1,Nat.le_refl _,S1,rfl,λ i x h=>by simp at h⟩
def FL(b:Nat):∀(r c:Nat),Builtin.growBy b r c<=max c (b+(b+768) / 4)
 |0,c=>by simp[Builtin.growBy];omega
 |r+1,c=>by
  simp only[Builtin.growBy];split
  .omega
  .have:=FL b r (c+(c+768) / 4);omega
def QD{need old:Nat}(h:old<need):Builtin.nextslicecap need old<=2*need+192:=by
 unfold Builtin.nextslicecap;split
 .omega
 .split
  .omega
  .have:=FL need 4 old;omega
def Src(U:Qa T)(a:Option Addr)(cs:List Value):Prop:=(a=none/\cs=[])\/∃b,a=some b/\Jj U b cs
def XK(h:Src U a cs)(f:cs.length=N*n)(b:ν cs.toArray U):Qq P (Builtin.firstCells n N (.slice a N i)) ν U:=by
 rcases h with⟨rfl,rfl⟩|⟨z,rfl,w⟩
 .exact b
 .simp only[Builtin.firstCells];rw[<- f];exact w.cells b
def PG(h:D () U):Qq P (askRoom b) D U:=by
 unfold askRoom;split
 .exact⟨rfl,h⟩
 .exact h
def jc(f:U.M=.obj b (.cells c e (0,0))::M₀)(h:∀(i:Nat)(x:Value),cs[i]?=some x->c[i]?=some x):Jj U ⟨b,0,none⟩ cs:=by
 intro i v w;rw[Qo];exact⟨rfl,.inl ⟨c,e,(0,0),.inr (by rw[f];simp),by simpa using h i v w⟩⟩
def Acc.src(h:Acc N n v cs U.M M₀):∃a l c,v=.slice a l c/\cs.length=l*n/\Src U a cs:=by
 rcases h with⟨rfl,rfl,f⟩|⟨b,c,len,cap,rfl,w,B,E,f,z⟩
 .exact⟨_,_,_,rfl,S1,.inl ⟨rfl,rfl⟩⟩
 .exact⟨_,_,_,rfl,w,.inr ⟨_,rfl,jc f z⟩⟩
def ja{e e2:Nat}{yl:Nat}
  (hu:P.underlying j=some (.slice e)) (ai:P.underlying c0=some (.slice e2)) (E:P.info? e=some σ) (ah:σ.size=n) (hz:σ.zero=some z) (aj:z.cells.size=n) (V:σ.bytes≠0/\σ.bytes<=1024)
  (hx:Zg f x=v) (hy:Zg f y=.slice ya yl yc) (Z:Acc e n v cs U.M M₀) (Q:Src U ya vs) (N:vs.length=yl*n) (hn:0<n) (T:∀w∈vs,w.single=true) (ak:cs.length+vs.length<=1048576)
  (h:∀v' M',Acc e n v' (cs++vs) M' M₀->Y4 v'=(Y4 v&&vs.isEmpty)->K v' { U with M:=M' }) :
  OX S (.rw (.call { callee:=.builtin .append,args:=#[x,y],argTypes:=#[j,c0] }) ty) f K U:=by
 intro a' ad;obtain⟨sa,sl,sc,I,H,ag⟩:=Z.src;have hm:(#[x,y]:Array Operand).map a'.eval=#[.slice sa sl sc,.slice ya yl yc]:=by simp[ad,hx,hy,I]
 simp only[execOp,resolve,hm,Qd,Qk,invoke,builtin];show Qq P (Builtin.append_ #[j,c0] ty #[.slice sa sl sc,.slice ya yl yc]) _ U;unfold Builtin.append_;simp only[getElem?_toArray,getElem?_cons_zero,getElem?_cons_succ,Qd,Ze hu,Ze ai,Je E,ah,Qk,Bool.false_eq_true,if_false,Builtin.lenOf,We E,false_or,Bool.not_false,if_true];have am:sl<=cs.length:=by rw[H];exact Nat.le_mul_of_pos_right _ hn
 have an:yl<=vs.length:=by rw[N];exact Nat.le_mul_of_pos_right _ hn
 have L:(cs++vs).length=(sl+yl)*n:=by rw[length_append,H,N,Nat.add_mul]
 split
 .rename_i hle;rw[Qd];refine XK Q N ?_;rcases Z with⟨rfl,rfl,G⟩|⟨b,c,len,cap,rfl,h1,h2,Y,G,h4⟩
  .cases I;have:yl=0:=O1
   subst this;have X:vs=[]:=by simpa using N
   subst X;refine⟨U,.refl _,?_⟩;have:=h .nl U.M (.inl ⟨rfl,rfl,G⟩) rfl;exact this
  .cases I;simp only[Qd];refine GQ _ _ _ ?_;rw[Qo]
   have F:0+sl*n+0+vs.length<=c.size:=by
    have:(sl+yl)*n<=sc*n:=Nat.mul_le_mul_right n hle;rw[Nat.add_mul]at this;rw[Y,N];omega
   refine G8 _ _ c U G T F ?_;refine⟨_,.refl _,h _ _ (.inr ⟨b,_,sl+yl,sc,rfl,L,hle,by rw[Vu];exact Y,rfl,λ i x E=>?_⟩) rfl⟩;rw[P8 _ _ _ _ _ F];simp only[getElem?_append]at E;split at E
   .rename_i ae;rw[if_neg O1];exact h4 i x E
   .rename_i hge;have ae:=(List.getElem?_eq_some_iff.1 E).1;rw[if_pos O1];rw[show i-(0+sl*n+0)=i-cs.length by omega];exact E
 .rename_i hgt;have ab:¬(((sl+yl:Nat):Int) > IntKind.i64.max/\σ.bytes=0):=λ h=>V.1 h.2
  have ac:¬(Builtin.nextslicecap (sl+yl) sc*σ.bytes > 2^48):=by
   have:=QD (need:=sl+yl) (old:=sc) O1;have h2:Builtin.nextslicecap (sl+yl) sc*σ.bytes<=(2*(sl+yl)+192)*1024:=Nat.mul_le_mul this V.2;have aa:(2:Nat)^48=281474976710656:=D1
   rw[aa];omega
  simp only[We E,Qd];rw[if_neg ab];simp only[We E,Qd];rw[if_neg ac];simp only[choose,Qd];show ∀tt,Qq P _ _ U;intro tt;show Qq P (typeInfo e) _ U;rw[We E];refine PG ?_;refine XK ag H ?_;refine XK Q N ?_;simp only[Xk E hz];refine Jg λ b' al=>?_;have W:sl+yl<=Question.cut (.appendCap (sl+yl) sc e) tt:=by simp only[Question.cut];omega
  refine⟨_,Zz (M':=.obj b' (.cells (cs.toArray++vs.toArray++Builtin.zeroCells z.cells (Question.cut (.appendCap (sl+yl) sc e) tt-(sl+yl))) e)::M₀) ?_,?_⟩
  .show Sublist _ (.obj b' _::U.M);refine Sublist.cons_cons _ ?_;rcases Z with⟨rfl,rfl,G⟩|⟨b,c,len,cap,rfl,h1,h2,Y,G,h4⟩
   .rw[G];exact Sublist.refl _
   .rw[G];exact sublist_cons_self _ _
  .refine h _ _ (.inr ⟨b',_,sl+yl,Question.cut (.appendCap (sl+yl) sc e) tt,rfl,L,W,?_,rfl,λ i x E=>?_⟩) ?_
   .simp only[Array.size_append,size_toArray,H,N,Builtin.zeroCells,Array.size_map,Array.size_range,aj];rw[<- Nat.add_mul,<- Nat.add_mul];congr 1;omega
   .have:(cs.toArray++vs.toArray)=(cs++vs).toArray:=S1
    rw[this,Array.getElem?_append_left (by simpa using(List.getElem?_eq_some_iff.1 E).1)];simpa using E
   .rcases Z with⟨rfl,rfl,G⟩|⟨b,c,len,cap,rfl,h1,h2,Y,G,h4⟩
    .cases I;have:vs≠[]:=by rintro rfl;simp at N;omega
     cases vs with
     |nil=>exact absurd rfl this
     |cons=>rfl
    .rfl
def LO(P:Program)(t e n:Nat):Bool:=
 (match P.underlying t with|some (.slice e')=>decide (e'=e)|_=>false)&&(match P.info? e with
  |some b=>decide (b.size=n)&&(match b.zero with|some z=>decide (z.cells.size=n)|none=>false)&&decide (b.bytes≠0)&&decide (b.bytes<=1024)
  |none=>false)&&decide (0<n)
structure X3(P:Program)(t e n:Nat):Prop where
 u:P.underlying t=some (.slice e)
 i:∃inf z,P.info? e=some inf/\inf.size=n/\inf.zero=some z/\z.cells.size=n/\inf.bytes≠0/\inf.bytes<=1024
 n:0<n
def X3.of(h:LO P N i n=true):X3 P N i n:=by
 unfold LO at h;simp only[Bool.and_eq_true,decide_eq_true_eq]at h;obtain⟨⟨f,w⟩,B⟩:=h;refine⟨?_,?_,B⟩
 .split at f
  .rename_i e' hu;simp only[decide_eq_true_eq]at f;subst f;exact hu
  .cases f
 .split at w
  .rename_i inf hi;simp only[Bool.and_eq_true,decide_eq_true_eq]at w;obtain⟨⟨⟨a,b⟩,c⟩,d⟩:=w;split at b
   .rename_i z hz;simp only[decide_eq_true_eq]at b;exact⟨inf,z,hi,a,hz,b,c,d⟩
   .cases b
  .cases w
def Wn{new:List Value}(k:X3 P i j n)
  (X:Zg f x=v) (Y:Zg f y=.slice a len yc) (V:Acc j n v cs U.M M₀) (E:Src U a new) (W:new.length=len*n) (b:∀w∈new,w.single=true) (B:cs.length+new.length<=1048576)
  (h:∀F M',Acc j n F (cs++new) M' M₀->Y4 F=(Y4 v&&new.isEmpty)->K F { U with M:=M' }) :
  OX S (.rw (.call { callee:=.builtin .append,args:=#[x,y],argTypes:=#[i,i] }) ty) f K U:=by
 obtain⟨Z,z,H,I,L,N,Q,T⟩:=k.i;exact ja k.u k.u H I L N ⟨Q,T⟩ X Y V E W k.n b B h
def Ym(P:Program)(t:TypeId):Array Field:=match P.underlying t with|some (.struct b)=>b|_=>#[]
def IH(P:Program)(t:TypeId):Bool:=
 (match P.underlying t with|some (.struct _)=>true|_=>false)&&!P.stoodInHeld t&&Hn P (Ym P t).toList 0&&!P.eqGuardType P.depth t
def G1.of(h:IH P e=true):G1 P e (Ym P e):=by
 unfold IH at h;simp only[Bool.and_eq_true,Bool.not_eq_true']at h;obtain⟨⟨⟨b,f⟩,w⟩,z⟩:=h;refine⟨?_,f,w,z⟩;unfold Ym;split at b
 .rename_i fs hu;rw[hu]
 .cases b
def DV(Z:P.underlying j=some (.slice yc))(G:P.info? yc=some σ)(hz:σ.zero=some z)(N:z.cells=#[z])(L:σ.size=1)(F:σ.bytes<=64)
  (hx:Zg f x=.int .i64 n) (hy:Zg f y=.int .i64 n) (Y:n<=1048576) (h:∀b,U.free b->K (.slice (some ⟨b,0,none⟩) n n) (U.put b (.cells (replicate n z).toArray yc))) :
  OX S (.rw (.makeSlice j x y) ty) f K U:=by
 intro a' T;simp only[execOp,T,hx,hy];refine rq ?_;unfold Instr.makeSlice;have hw:IntKind.wrap .i64 (n:Int)=n:=Ga I1;simp only[Qd,Ze Z,asInt,asIntOf,Qk,We G,hw]
 have X:(σ.bytes:Int)*(n:Int)<=67108864:=by
  have:=Nat.mul_le_mul F Y;have yc:((σ.bytes*n:Nat):Int)=(σ.bytes:Int)*n:=S1
  omega
 have E:(2:Int)^48=281474976710656:=D1
 have I:(((decide ((n:Int)<0)|| decide ((σ.bytes:Int)*(n:Int) > 2^48))|| decide ((n:Int)<0))|| decide ((n:Int) > n))=false:=by
  rw[E];simp only[Bool.or_eq_false_iff,decide_eq_false_iff_not];omega
 simp only[I,Bool.false_eq_true,if_false];rw[Qd];refine PG ?_;simp only[Qd,Je G,L,Nat.mul_one,Int.toNat_natCast]
 have fin:∀c:Array Value,(n≠0->c=z.cells)->Qq P (newRow yc ((Array.range n).map (c[· % c.size]!))) (λ a U'=>∃Q,Qv U' Q/\K (.slice (some a) n n) Q) U:=by
  intro c W;refine Jg λ b V=>⟨_,.refl _,?_⟩
  have:(Array.range n).map (c[· % c.size]!)=(replicate n z).toArray:=by
   apply Array.ext
   .simp
   .intro i h1 h2;have H:n≠0:=by simp at h1;omega
    have B:=W H;rw[N]at B;subst B;simp[Nat.mod_one]
  rw[this];exact h b V
 split
 .rename_i h0;exact fin #[] λ h=>absurd h0 h
 .simp only[Qd,Xk G hz];exact fin _ λ _=>rfl
def wQ{s:ByteArray}(H:P.underlying n=some .string)(z:P.underlying ty=some (.slice j))(B:P.underlying j=some (.int .u8))(L:Zg f x=.string s)
  (h:∀b cap(c:Array Value)fr,U.free b->(∀(i:Nat)u,s.data[i]?=some u->c[i]?=some (.int .u8 u.toNat))->K (.slice (some ⟨b,0,none⟩) s.size cap) { U with I:=Z_ U.I b (.cells c j fr) }) :
  OX S (.rw (.convert n ty x) yc) f K U:=by
 intro a' F;simp only[execOp,F,L];refine rq ?_;unfold convert;simp only[Qd,Ze H,Ze z,Ze B,Conv.stringToBytes,choose];show ∀N,Qq P _ _ U;intro N;simp only[Qk,Qq];refine Jg λ b G=>?_;unfold markStringish;simp only[Qd,shape];refine⟨_,.inr (mem_cons_self ..),?_⟩;simp only[Obj.shapeOf,Qq,freeze];refine⟨D1,_,_,_,rfl,?_⟩;refine⟨_,Wa (b:=b) (M':=U.M) (Perm.refl _),?_⟩;refine h b _ _ _ G λ i u E=>?_;have w:=(Array.getElem?_eq_some_iff.1 E).1;rw[Array.getElem?_append_left (by simpa using w)];simp[E]
def yh(t:Tmp)(b:Fm->List Value->Fm)(f:Fm):List Value->Fm
 |[]=>f
 |v::vs=>b (JE f t v) vs
def GC(f:Fm):List Tmp->List Value->Fm
 |[],_=>f
 |t::ts,vs=>yh t (λ f vs=>GC f ts vs) f vs
def IY{N:Nat}:∀(ts:List Tmp)(vs:List Value)(tmps:Array Value)(f:Fm),(∀t∈ts,t<N)->FR N ⟨tmps,[]⟩ f []->FR N ⟨(ts.zip vs).foldl (λ tmps p=>tmps.setIfInBounds p.1 p.2) tmps,[]⟩ (GC f ts vs) []
 |[],_,_,_,_,h=>h
 |t::ts,[],_,_,_,h=>h
 |t::ts,v::vs,tmps,f,b,h=>by
  simp only[zip_cons_cons,foldl_cons];show FR N _ (GC (JE f t v) ts vs) [];exact IY ts vs _ _ (λ t z=>b t (mem_cons_of_mem _ z)) (h.put (some t) v λ d w=>by cases w;exact b t (mem_cons_self ..))
def SZ(l:Nat)(lo:LoopState->Option Code->Obj)(K:Value->Qa T->Prop)(j:Option Code)(U:Qa T):Prop:=
 ∃M',J1 l (lo (if j.isNone then .ready else .done) j) (lo .busy none) U.M M'/\K (.bool j.isNone) { U with M:=M' }
def kP(l:Nat)(lo:LoopState->Option Code->Obj)(n:Qa T->Prop)(x:Nat->Qa T->Prop)(r:Qa T->Prop)(U:Qa T):Prop:=
 ∃st j M',st≠.busy/\J1 l (lo .exhausted j) (lo st j) U.M M'/\(match j with|none=>n { U with M:=M' }|some (.exit i)=>x i { U with M:=M' }|some .ret=>r { U with M:=M' }|_=>False)
def Le(S:Sys P T)(fn:FuncId)(params:Array Tmp)(as B:C)(l:Nat)(lo:LoopState->Option Code->Obj)(f:Fm):Prop:=
 ∀(vs:List Value)(K:Value->Qa T->Prop)(U:Qa T),vs.length=params.size->Qw.obj l (lo .ready none)∈U.M ->
  JX S fn (some l) as (λ w h z=>h=[]/\∃M₁,J1 l (lo .busy none) (lo .ready none) z.M M₁ /\
   JX S fn (some l) B (λ _ _ b=>SZ l lo K none b) (λ i _ _ b=>SZ l lo K (some (.exit i)) b) (λ _ _ b=>SZ l lo K (some .ret) b) w [] { z with M:=M₁ })
   (λ _ _ _ _=>False) (λ _ _ _=>False) (GC f params.toList vs) [] U->Zp S l vs K U
def Vw(b:Qw.obj N (.loop r)∈U.M)(h:τ r U):Qq P (Instr.getLoop N) τ U:=by
 unfold Instr.getLoop;rw[Qd];exact⟨.loop r,.inr b,rfl,rfl,h⟩
def qU(b:r.state=.ready)(f:J1 N (.loop { r with state:=.busy }) (.loop r) U.M M')(h:D () { U with M:=M' }):Qq P (Instr.beginRound N) D U:=by
 unfold Instr.beginRound;rw[Qd];refine Vw f.mem ?_;simp only[Qd,setObj,Qq];refine⟨_,M',f,rfl,rfl,rfl,?_⟩;rw[b];exact h
def YL{j:Option Code}(b:J1 N (.loop { r with state:=if j.isNone then .ready else .done,pending:=j }) (.loop r) U.M M')(h:K (.bool j.isNone) { U with M:=M' }):Qq P (Instr.endRound N j) K U:=by
 unfold Instr.endRound;rw[Qd];refine Vw b.mem ?_;simp only[Qd,setObj,Qq];exact⟨_,M',b,rfl,rfl,rfl,h⟩
def jg(b:r.state≠.busy)(f:J1 N (.loop { r with state:=.exhausted }) (.loop r) U.M M')(h:ξ r.pending { U with M:=M' }):Qq P (Instr.endLoop N) ξ U:=by
 unfold Instr.endLoop;rw[Qd];refine Vw f.mem ?_;have:(r.state==.busy)=false:=by simpa using b
 rw[this];simp only[Bool.false_eq_true,if_false,Qd,setObj,Qq];exact⟨_,M',f,rfl,rfl,rfl,h⟩
def kG(hm:P.follows .mixedOrders=true){fn:Nat}{n:Zl T}{r:Zl T}
  (hc:Zg f y=.func (.func g) first args) (w:params.toList.all (λ t=>decide (t<N))=true) (hg:(P.funcs[g]?.any λ fd=>fd.body.isSome&&fd.name != "runtime.NumGoroutine")=true)
  (h:∀(l d:Nat)(lo:LoopState->Option Code->Obj),U.free d->U.free l->l≠d->Le S fn params as Z l lo f ->
   Qb S g (first.toList++[Value.func (.yield l) #[] #[]]++args.toList).toArray (λ _ X=>JP X ->
    kP l lo (λ U=>n f (⟨.collected d,#[]⟩::ds) U) (λ i U=>π i f (⟨.collected d,#[]⟩::ds) U) (λ U=>r f (⟨.collected d,#[]⟩::ds) U) X)
    { U with M:=.obj l (lo .ready none)::.obj d (.deferred (some []))::U.M }) :
  JX S fn none (.rng N mu dets y params as Z) n π r f ds U:=by
 intro ca cb aa ab a Y;have hN:∀t∈params.toList,t<N:=λ t ht=>by simpa using all_eq_true.1 w t ht
 refine zy ?_;simp only[Instr.enterLoop,Qd,newObj,Qq,Qk];intro d hd l hl;have ae:U.free l:=⟨hl.1,λ r hr=>hl.2 r (mem_cons_of_mem _ hr)⟩;have ag:l≠d:=λ e=>hl.2 (.obj d (.deferred (some []))) (mem_cons_self ..) e.symm
 let lo:LoopState->Option Code->Obj:=λ st j=>.loop { state:=st,pending:=j,fn,tmps:=a.tmps,params,assign:=ca,body:=cb,defers:=d }
 have L:FR N ⟨a.tmps,[]⟩ f []:=⟨rfl,Y.size,Y.get⟩
 have hR:Le S fn params as Z l lo f:=by
  intro vs K U' ak W hw;unfold Zp Instr.yield;rw[Qd];refine Vw (r:={ state:=.ready,pending:=none,fn,tmps:=a.tmps,params,assign:=ca,body:=cb,defers:=d }) W ?_;have ai:¬(vs.toArray.size≠params.size):=by simp[ak]
  simp only[ai,if_false,Qk];show J_ S l fn _ ca cb K U';refine J_.of_body ?_
  have ad:FR N ⟨(params.zip vs.toArray).foldl (λ tmps(t,a)=>tmps.setIfInBounds t a) a.tmps,[]⟩ (GC f params.toList vs) []:=by
   have:=IY params.toList vs a.tmps f hN L;rw[<- Array.foldl_toList];simpa using this
  rw[<- aa]at hw;refine Zs.mono (HZ hm ca ad hw) λ e a' U1 w=>?_;obtain⟨ap,an,I,w⟩:=w;cases e with
  |exit i=>exact w.elim
  |ret=>exact w.elim
  |normal=>
   obtain⟨rfl,M₁,z,w⟩:=w;refine⟨rfl,qU (r:={ state:=.ready,pending:=none,fn,tmps:=a.tmps,params,assign:=ca,body:=cb,defers:=d }) rfl z ?_⟩;rw[<- ab]at w;refine Zs.mono (HZ hm cb I w) λ e am U2 w=>?_;obtain⟨aq,ao,al,w⟩:=w;cases e with
   |normal=>obtain⟨M',z,V⟩:=w;exact YL (r:={ state:=.busy,pending:=none,fn,tmps:=a.tmps,params,assign:=ca,body:=cb,defers:=d }) z V
   |exit i=>obtain⟨M',z,V⟩:=w;exact YL (r:={ state:=.busy,pending:=none,fn,tmps:=a.tmps,params,assign:=ca,body:=cb,defers:=d }) z V
   |ret=>obtain⟨M',z,V⟩:=w;exact YL (r:={ state:=.busy,pending:=none,fn,tmps:=a.tmps,params,assign:=ca,body:=cb,defers:=d }) z V
 have B:=h l d lo hd ae ag hR;have ac:a.eval y=.func (.func g) first args:=by rw[Y.eval];exact hc
 have ah:(#[.const (.func (.yield l) #[] #[])]:Array Operand).map a.eval=#[Value.func (.yield l) #[] #[]]:=by simp[Act.eval]
 simp only[resolve,Vz,ac,ah,Qd,Deferred.ofValue,Qk,invoke,callFunc,program,Qq];cases Q:P.funcs[g]? with
 |none=>simp[Q]at hg
 |some fd=>
  simp only[Q,Option.any_some,Bool.and_eq_true,bne_iff_ne,ne_eq]at hg;obtain⟨h1,h2⟩:=hg;have G:fd.body.isNone=false:=by cases au:fd.body <;> simp_all
  have F:(fd.name== "runtime.NumGoroutine")=false:=by simpa using h2
  simp only[F,G,Bool.false_eq_true,if_false,Qk];have e:(first++#[Value.func (.yield l) #[] #[]])++args=(first.toList++[Value.func (.yield l) #[] #[]]++args.toList).toArray:=by apply Array.ext';simp
  rw[e];refine Qb.sep B λ v X hs H=>⟨X,.refl _,?_⟩;obtain⟨st,j,M',aj,z,H⟩:=H hs;refine jg (r:={ state:=st,pending:=j,fn,tmps:=a.tmps,params,assign:=ca,body:=cb,defers:=d }) aj z ?_;have E:a.defers=ds:=Y.ds;cases j with
  |none=>exact⟨T1,by simpa[E]using H⟩
  |some cd=>
   cases cd with
   |exit i=>exact IU ⟨T1,by simpa[E]using H⟩
   |ret=>exact Lq ⟨T1,by simpa[E]using H⟩
   |_=>exact H.elim
def QR(n a b:Int):Bool:=decide (a<=n)&&decide (n<=b)
def Ha{x:α}(h:δ[i]?=some x):δ.drop i=x::δ.drop (i+1):=by
 obtain⟨b,rfl⟩:=List.getElem?_eq_some_iff.1 h;exact drop_eq_getElem_cons b
def Wf{x:α}(h:δ[i]?=some x):δ.take (i+1)=δ.take i++[x]:=by
 rw[take_add_one,h];rfl
structure TH where
 ea:Option Addr
 el:Nat
 ec:Nat
 ma:Option Addr
 ml:Nat
 mc:Nat
 ka:Option Addr
 kl:Nat
 kc:Nat
def Zj.sees3{o:Nat}(h:Zj U b c)(f:c[o]?=some v):U.sees ((Addr.mk b 0 none).add o) v:=by
 rw[Qo,Nat.zero_add];exact h.sees f
