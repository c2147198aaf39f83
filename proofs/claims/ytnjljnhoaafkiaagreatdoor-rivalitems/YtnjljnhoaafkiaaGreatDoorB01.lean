/- Lemmas. No conditions. -/
import Derived.Test.YtnjljnhoaafkiaaGreatDoorB00
set_option linter.all false
open List
namespace Go
abbrev Operand.t(n:Nat):Operand:=.tmp n
abbrev Operand.ci(n:Int):Operand:=.const (.int .i64 n)
abbrev Operand.cb(b:Bool):Operand:=.const (.bool b)
abbrev Operand.cn:Operand:=.const (.slice none 0 0)
end Go
namespace Go.TM
variable{T:Type}{P:Program}{S:Sys P T}
structure St where
 o:O
 dst:Option Nat
 g:Option (Nat×Bool)
 dfr:Option (Operand×Array Operand):=none
abbrev St.d(n:Nat)(o:O):St:=⟨o,some n,none,none⟩
abbrev St.m(n k:Nat):St:=⟨.mv (.tmp k),some n,none,none⟩
abbrev St.u(n j:Nat)(b:Bool)(o:O):St:=⟨o,some n,some (j,b),none⟩
abbrev Zj(T:Type):=Fm->List Deferred->Qa T->Prop
def GB(b f:Bool)(A B:Prop):Prop:=
 match b,f with
 |true,true=>A
 |false,false=>A
 |true,false=>B
 |false,true=>B
def Jt{b f:Bool}{A B:Prop}(h:b=f->A)(w:b=!f->B):GB b f A B:=by
 cases b <;> cases f <;> first|exact h rfl|exact w rfl
def CB(b:Bool)(A B:Prop):Prop:=
 match b with
 |true=>A
 |false=>B
def Qg{b:Bool}{A B:Prop}(h:b=true->A)(f:b=false->B):CB b A B:=by cases b <;> first|exact h rfl|exact f rfl
def V4(S:Sys P T)(ro:Option Nat)(st:St)(z:Zj T->Zj T)(K:Zj T):Zj T:=λ f ds U=>
  match st.g with
  |some (j,h)=>(match f j with
   |.bool b=>GB b h (OX S st.o (JG f j (.bool h)) (λ v U'=>z K (ZC (JG f j (.bool h)) st.dst v) ds U') U)
     (z K (ZC (JG f j (.bool !h)) st.dst undef) ds U)
   |.tuple _=>z K (ZC f st.dst undef) ds U
   |_=>False)
  |none=>(match st.dfr with
   |some (c,args)=>(match Zf f c with
    |.func fn first w=>ro=none/\z K (ZC f st.dst undef) ({ target:=.fn fn w,args:=first++args.map (Zf f) }::ds) U
    |_=>False)
   |none=>OX S st.o f (λ v U'=>z K (ZC f st.dst v) ds U') U)
def JS(S:Sys P T)(ro:Option Nat)(l:List St):Zj T->Zj T:=List.rec (motive:=λ _=>Zj T->Zj T) (λ K=>K) (λ st _ b=>V4 S ro st b) l
def OS(S:Sys P T)(ro:Option Nat)(st:St)(r:List St)(K:Zj T):JS S ro (st::r) K=V4 S ro st (JS S ro r) K:=rfl
def V9(S:Sys P T)(G:Qa T->Prop)(kd:Nat)(st:St)(E:(Qa T->Prop)->Zj T->Zj T)(C:Qa T->Prop)(K:Zj T):Zj T:=λ f ds U=>
  let run (f:Fm):Prop:=match kd with
   |0=>OX S st.o f (λ v _=>E C K (ZC f st.dst v) ds U) U
   |1=>∃v,(∀U',U.le U'->C U'->OX S st.o f (λ B z=>B=v/\∃h,Qv z h/\U'.le h) U')/\E C K (ZC f st.dst v) ds U
   |3=>∃v,(∀U',U.le U'->C U'->OX S st.o f (λ B z=>B=v/\∃h,Qv z h/\U'.le h) U')/\(∀U',G U'->OX S st.o f (λ B z=>B=v/\∃h,Qv z h/\U'.le h) U')/\E C K (ZC f st.dst v) ds U
   |_=>∃F:Value->Qa T->Prop,(∀v,Xz (F v))/\(∀U',U.le U'->C U'->OX S st.o f (λ B z=>∃h,Qv z h/\F B h/\U'.le h) U') /\
     ∀v,(∃U',U.le U'/\C U'/\F v U')->E (λ U'=>C U'/\F v U') K (ZC f st.dst v) ds U
  match st.g with
  |some (j,w)=>(match f j with
   |.bool b=>GB b w (run (JG f j (.bool w))) (E C K (ZC (JG f j (.bool !w)) st.dst undef) ds U)
   |.tuple _=>E C K (ZC f st.dst undef) ds U
   |_=>False)
  |none=>run f
def DX(S:Sys P T)(G:Qa T->Prop)(l:List (Nat×St)):(Qa T->Prop)->Zj T->Zj T:=
 List.rec (motive:=λ _=>(Qa T->Prop)->Zj T->Zj T) (λ C K f ds U=>∀U',U.le U'->C U'->K f ds U') (λ p _ b=>V9 S G p.1 p.2 b) l
def IV(S:Sys P T)(G:Qa T->Prop)(kd:Nat)(st:St)(r:List (Nat×St)):DX S G ((kd,st)::r)=V9 S G kd st (DX S G r):=rfl
def LW(S:Sys P T)(G:Qa T->Prop)(st:St)(K:Zj T):Zj T:=λ f ds U=>
 OX S st.o f (λ w h=>w=undef/\∃b,Qv h b/\G b) U/\∀U',G U'->K (ZC f st.dst undef) ds U'
def ovr:List (Nat×Value)->Fm->Fm
 |[],f=>f
 |p::l,f=>JG (ovr l f) p.1 p.2
def Xu(f:Fm)(l:List (Nat×Value)):Prop:=List.rec (motive:=λ _=>Prop) True (λ p _ b=>f p.1=p.2/\b) l
def K_{f:Fm}{d:Nat}{v:Value}(h:f d=v):JG f d v=f:=by
 funext t;simp only[JG];cases e:Nat.beq t d with
 |true=>rw[Nat.eq_of_beq_eq_true e];exact h.symm
 |false=>rfl
def Xu.ovr{f:Fm}:∀{l:List (Nat×Value)},Xu f l->ovr l f=f
 |[],_=>rfl
 |(d,v)::l,h=>by
  show JG (TM.ovr l f) d v=f;rw[Xu.ovr h.2];exact K_ h.1
structure FR(N:Nat)(a:Act)(f:Fm)(ds:List Deferred):Prop where
 ds:a.defers=ds
 size:a.tmps.size=N
 get:∀t,a.tmps.getD t undef=f t
def FR.eval{N:Nat}{a:Act}{f:Fm}{ds:List Deferred}(h:FR N a f ds)(x:Operand):a.eval x=Zf f x:=by
 cases x with
 |tmp t=>exact h.get t
 |_=>rfl
def FR.put{N:Nat}{a:Act}{f:Fm}{ds:List Deferred}(h:FR N a f ds)(dst:Option Nat)(v:Value)(w:∀d,dst=some d->d<N):FR N (a.put dst v) (ZC f dst v) ds:=by
 cases dst with
 |none=>exact h
 |some d=>
  have b:=w d rfl;refine⟨h.ds,by simpa[Act.put]using h.size,λ t=>?_⟩;simp only[Act.put,ZC,JG,Array.getD_eq_getD_getElem?,Array.getElem?_setIfInBounds];by_cases e:d=t
  .subst e;have:d<a.tmps.size:=by rw[h.size];exact b
   simp[this]
  .have e':Nat.beq t d=false:=by cases hb:Nat.beq t d with|false=>rfl|true=>exact absurd (Nat.eq_of_beq_eq_true hb).symm e
   have:=h.get t;simp only[Array.getD_eq_getD_getElem?]at this;simp[e,e',this]
def FR.slot{N:Nat}{a:Act}{f:Fm}{ds:List Deferred}(h:FR N a f ds){d:Nat}{b:Bool}(w:f d=.bool b):a.tmps[d]?=some (.bool b):=by
 have:=h.get d;rw[w,Array.getD_eq_getD_getElem?]at this;cases hx:a.tmps[d]? with
 |none=>rw[hx]at this;cases this
 |some v=>rw[hx]at this;simpa using this
inductive C where
 |skip
 |seq (x y:C)
 |ite (c:Operand) (x y:C)
 |block (id:Nat) (b:C)
 |loop (b:C)
 |exit (id:Nat)
 |ret
 |scope (b:C)
 |reg (l:List St)
 |drw (qs:List (Nat×St)) (ts:List St)
 |drs (qs:List (Nat×St)) (st:St) (ts:List St)
 |rng (N:Nat) (mu dets:List Nat) (f:Operand) (params:Array Tmp) (assign body:C)
 |cd (N:Nat) (c:Code)
 |bad
def Jg(P:Program)(mu:List Nat)(ops:Array Oper)(o:Oper):Option St:=
 match o.op,o.guard with
 |.defer { callee:=.value c,args,.. },none=>some ⟨.mv c,o.dst,none,some (c,args)⟩
 |.defer _,_=>none
 |_,none=>some ⟨Q6 P mu o,o.dst,none,none⟩
 |_,some (j,w)=>(match(ops[j]?).bind (·.dst)with
  |some d=>some ⟨Q6 P mu o,o.dst,some (d,w),none⟩
  |none=>none)
def stable:O->Bool
 |.mv _|.pick ..|.add ..|.sub ..|.mul ..|.cmp ..|.beq ..|.ar ..|.teq ..|.not _|.len _|.lenT _|.conv ..|.off ..|.idx ..|.aidx ..|.sidx ..|.ld _|.ldn ..|.ext ..|.part ..|.part1 ..|.mkf ..|.nilc _|.sub3 ..|.build ..=>true
 |_=>false
def Gs:O->Bool
 |.ld _|.ldn ..=>true
 |_=>false
def oc:O->Bool
 |.st ..=>true
 |_=>false
def GM(N:Nat)(o:Oper):Bool:=match o.dst with|some d=>decide (d<N)|none=>true
def PX(ops:Array Oper)(b:Nat->Bool):Nat->List Nat->List Nat->List Nat
 |0,_,done=>done
 |n+1,left,done=>
  let ready:=left.filter λ i=>(Wt ops i).all done.contains
  match ready.find? (λ i=>!b i)with
  |some i=>PX ops b n (left.filter (· != i)) (done++[i])
  |none=>(match ready with
   |i::_=>PX ops b n (left.filter (· != i)) (done++[i])
   |[]=>done)
def W6(ops:Array Oper):Nat->Nat
 |0=>0
 |k+1=>if(range k).all (λ j=>((X1 ops ops.size).getD k 0).testBit j)then W6 ops k else k+1
def X8(P:Program)(mu dets:List Nat)(ops:Array Oper)(i:Nat):Bool:=
 match ops[i]? with
 |some o=>!stable (Q6 P mu o)&&!((o.dst.map dets.contains).getD false)
 |none=>false
def Yf(P:Program)(mu:List Nat)(ops:Array Oper)(rl:List Nat)(i:Nat):Nat:=
 if rl.contains i then 2 else match ops[i]? with
  |some o=>if stable (Q6 P mu o)then 0 else 1
  |none=>1
def Ym(ops:Array Oper)(x j:Nat):Bool:=!((X1 ops ops.size).getD x 0).testBit j
def GX(P:Program)(mu:List Nat)(ops:Array Oper)(rl:List Nat)(x i:Nat):Nat:=
 if rl.contains i then 2 else match ops[i]? with
  |some o=>if stable (Q6 P mu o)&&(!Gs (Q6 P mu o)|| !Ym ops x i)then 0 else if Ym ops x i then 3 else 1
  |none=>3
def YR(P:Program)(mu:List Nat)(N:Nat)(dets:List Nat)(ops:Array Oper)(f:Bool):C:=
 if !ops.all (GM N)then .bad else
 match f with
 |false=>(match(range ops.size).mapM (λ i=>(ops[i]?).bind (Jg P mu ops))with|some l=>.reg l|none=>.bad)
 |true=>
  let k:=W6 ops ops.size
  let qs:=PX ops (X8 P mu dets ops) ops.size (range k) []
  let ts:=(range ops.size).drop k
  let rl:=(range k).filter (X8 P mu dets ops)
  if !PW ops rl qs ts|| !rl.all (λ i=>((ops[i]?).map (·.guard.isNone)).getD true)then .bad else
  match qs.getLast?.bind λ x=>((ops[x]?).bind (Jg P mu ops)).bind λ st=>if rl.contains x&&oc st.o&&st.g.isNone&&st.dfr.isNone then some (x,st)else none with
  |some (x,st)=>(match qs.dropLast.mapM (λ i=>((ops[i]?).bind (Jg P mu ops)).map λ st=>(GX P mu ops rl x i,st)),ts.mapM (λ i=>(ops[i]?).bind (Jg P mu ops))with
   |some a,some b=>if a.all (λ x=>x.2.dfr.isNone)then .drs a st b else .bad
   |_,_=>.bad)
  |none=>
  match qs.mapM (λ i=>((ops[i]?).bind (Jg P mu ops)).map λ st=>(Yf P mu ops rl i,st)),ts.mapM (λ i=>(ops[i]?).bind (Jg P mu ops))with
  |some a,some b=>if a.all (λ x=>x.2.dfr.isNone)then .drw a b else .bad
  |_,_=>.bad
def oz:Op->Bool
 |.go _=>true
 |_=>false
def ob:Op->Bool
 |.mapEntry ..=>true
 |_=>false
def LU(ops:Array Oper):Bool:=ops.any λ o=>oz o.op|| ob o.op
def clean(P:Program)(mu:List Nat)(N:Nat)(dets:List Nat):Code->C
 |.skip=>.skip
 |.label _=>.skip
 |.seq a b=>.seq (clean P mu N dets a) (clean P mu N dets b)
 |.cond c a b=>.ite c (clean P mu N dets a) (clean P mu N dets b)
 |.block id b=>.block id (clean P mu N dets b)
 |.loop b=>.loop (clean P mu N dets b)
 |.exit i=>.exit i
 |.ret=>.ret
 |.scope b=>.scope (clean P mu N dets b)
 |.region id ops d=>if LU ops|| mu.contains (1000+id)then .cd N (.region id ops d)else match YR P mu N dets ops d with
  |.bad=>.cd N (.region id ops d)
  |c=>c
 |.rangeFunc f w as h=>.rng N mu dets f w (clean P mu N dets as) (clean P mu N dets h)
 |.goto _=>.bad
 |.refuse _=>.bad
def od(b:Zj T->(Nat->Zj T)->Zj T->Zj T)(x:Nat->Zj T)(r:Zj T):Zj T:=λ f ds U=>
 ∃(α:Type)(L:α->List (Nat×Value))(I:α->Qa T->Prop)(μ:α->Nat)(h:α),Xu f (L h)/\I h U /\
   ∀y f U,I y U->b (λ B w U'=>w=ds/\∃z,Xu B (L z)/\I z U'/\μ z<μ y) x r (ovr (L y) f) ds U
def Uw(c:Operand)(a b:Zj T):Zj T:=λ f ds U=>(match Zf f c with
  |.bool t=>CB t (a f ds U) (b f ds U)
  |_=>False)
def Wo(S:Sys P T)(fn:FuncId)(ro:Option Nat)(N:Nat)(mu dets:List Nat)(c:Operand)(params:Array Tmp)(as b:C)(n:Zj T)(x:Nat->Zj T)(r:Zj T):Zj T:=λ f ds U=>
 ∀ca cb:Code,clean P mu N dets ca=as->clean P mu N dets cb=b->∀a:Act,FR N a f ds ->
   Zq S fn ro (.rangeFunc c params ca cb) (λ e a' U'=>a'.tmps=a.tmps/\(match e with|.normal=>n f a'.defers U'|.exit i=>x i f a'.defers U'|.ret=>r f a'.defers U')) a U
def UA(S:Sys P T)(fn:FuncId)(ro:Option Nat)(N:Nat)(c:Code)(n:Zj T)(x:Nat->Zj T)(r:Zj T):Zj T:=λ f ds U=>
 ∀a:Act,FR N a f ds ->
   Zq S fn ro c (λ e a' U'=>a'.tmps.size=a.tmps.size/\∃b,(∀t,a'.tmps.getD t undef=b t)/\(match e with|.normal=>n b a'.defers U'|.exit i=>x i b a'.defers U'|.ret=>r b a'.defers U')) a U
def ZY(S:Sys P T)(fn:FuncId)(ro:Option Nat)(c:C):Zj T->(Nat->Zj T)->Zj T->Zj T:=
 C.rec (motive:=λ _=>Zj T->(Nat->Zj T)->Zj T->Zj T)
  (λ n _ _=>n)
  (λ _ _ a b n x r=>a (b n x r) x r)
  (λ c _ _ a b n x r=>Uw c (a n x r) (b n x r))
  (λ id _ b n x r=>b n (λ i f ds U=>bif Nat.beq i id then n f ds U else x i f ds U) r)
  (λ _ b _ x r=>od b x r)
  (λ i _ x _=>x i)
  (λ _ _ r=>r)
  (λ _ b n x r=>b n x r)
  (λ l n _ _=>JS S ro l n)
  (λ qs ts n _ _=>DX S (λ _=>False) qs (λ _=>True) (JS S ro ts n))
  (λ qs st ts n _ _ f ds U=>∃G,Xz G/\DX S G qs (λ _=>True) (LW S G st (JS S ro ts n)) f ds U)
  (λ N mu dets c params as h _ _ n x r=>Wo S fn ro N mu dets c params as h n x r)
  (λ N c n x r=>UA S fn ro N c n x r)
  (λ _ _ _ _ _ _=>False) c
end Go.TM
set_option linter.unusedSimpArgs false
namespace Go.TM
variable{T:Type}{P:Program}{S:Sys P T}
def Qa.sees.le{U U':Qa T}{a:Addr}{v:Value}(h:U.sees a v)(hl:U.le U'):U'.sees a v:=by
 obtain⟨b,⟨c,t,fr,hb,f⟩|⟨t,n,hm⟩⟩:=h
 .exact⟨b,.inl ⟨c,t,fr,hb.imp (hl.imm _ _) (λ h=>hl.own▸h),f⟩⟩
 .exact⟨b,.inr ⟨t,n,hl.own▸hm⟩⟩
def Je.le{U U':Qa T}{a:Addr}{vs:List Value}(h:Je U a vs)(hl:U.le U'):Je U' a vs:=λ i v b=>(h i v b).le hl
def ZG.mono{K h:Value->Qa T->Prop}(f:∀v U,K v U->h v U){n:Next}{U:Qa T}(b:ZG S K n U):ZG S h n U:=by
 cases n <;> first|exact f _ _ b|exact Qb.mono b f|exact J_.mono b f|exact b
def OX.mono{o:O}{f:Fm}{K F:Value->Qa T->Prop}{U:Qa T}(w:∀v U,K v U->F v U)(h:OX S o f K U):OX S o f F U:=by
 cases o with
 |raw o=>exact λ a ha=>Qq.mono _ (h a ha) λ n U E=>ZG.mono (λ v U⟨B,h1,h2⟩=>⟨B,h1,w _ _ h2⟩) E
 |call c args=>
  simp only[OX]at h ⊢;split at h
  .simp only[J4]at h ⊢;exact⟨h.1,h.2.mono λ v U h H=>w v U (h H)⟩
  .simp only[J4]at h ⊢;exact Qq.mono _ h λ n U E=>ZG.mono w E
  .exact h
 |st n x v=>
  simp only[OX]at h ⊢;split at h
  .exact⟨h.1,QX.mono (λ U⟨B,a,b⟩=>⟨B,a,w _ B b⟩) _ _ _ h.2⟩
  .exact h
 |box t x=>simp only[OX,OD]at h ⊢;exact λ b B hl hb=>w _ _ (h b B hl hb)
 |boxM t x=>exact λ b hb=>w _ _ (h b hb)
 |alloc t z=>exact λ b hb=>let ⟨B,a,b⟩:=h b hb;⟨B,a,w _ _ b⟩
 |bsl t len z I=>
  simp only[OX,HF,Array.toArray_toList]at h ⊢;split at h
  .exact λ b hb=>let ⟨B,a,b⟩:=h b hb;⟨B,a,w _ _ b⟩
  .exact h
 |lenM x=>
  simp only[OX]at h ⊢;split at h
  .exact w _ _ h
  .obtain⟨a,b,c,d⟩:=h;exact⟨a,b,c,w _ _ d⟩
  .exact h
 |mv x=>simp only[OX,Qy]at h ⊢;exact w _ _ h
 |mkf fn first G=>simp only[OX,J4]at h ⊢;exact w _ _ h
 |pick c a b=>
  simp only[OX,Qy]at h ⊢;split at h
  .exact w _ _ h
  .exact w _ _ h
  .exact h
 |ext x i=>
  simp only[OX,Qy]at h ⊢;split at h
  .split at h
   .exact w _ _ h
   .exact h
  .exact h
 |part1 off x=>
  simp only[OX,Qy]at h ⊢;split at h
  .split at h
   .exact w _ _ h
   .exact h
  .exact h
 |ld x=>
  simp only[OX,Qy]at h ⊢;split at h
  .obtain⟨v,a,b⟩:=h;exact⟨v,a,w _ _ b⟩
  .exact h
 |ldn n x=>
  simp only[OX]at h ⊢;split at h
  .obtain⟨v,a,b⟩:=h;exact⟨v,a,w _ _ b⟩
  .exact h
 |sidx x i=>
  simp only[OX]at h ⊢;split at h
  .obtain⟨j,v,a,b⟩:=h;exact⟨j,v,a,w _ _ b⟩
  .exact h
 |idx n x i=>
  simp only[OX]at h ⊢;split at h
  .obtain⟨ad,j,a,b⟩:=h;exact⟨ad,j,a,w _ _ b⟩
  .exact h
 |aidx n m x i=>
  simp only[OX]at h ⊢;split at h
  .obtain⟨j,a,b⟩:=h;exact⟨j,a,w _ _ b⟩
  .exact h
 |sub3 sz x lo L=>
  simp only[OX]at h ⊢;split at h
  .split at h
   .obtain⟨l,hh,a,b⟩:=h;exact⟨l,hh,a,w _ _ b⟩
   .exact h
  .exact h
 |build z I=>
  simp only[OX,HF,Array.toArray_toList]at h ⊢;split at h
  .exact w _ _ h
  .exact h
 |cmp op x y=>
  simp only[OX]at h ⊢;split at h
  .refine⟨h.1,?_⟩;cases op <;> first|exact h.2.elim|exact w _ _ h.2
  .exact h
 |beq op x y=>
  simp only[OX]at h ⊢;split at h
  .cases op <;> first|exact h.elim|exact w _ _ h
  .exact h
 |teq op x y=>
  simp only[OX]at h ⊢;split at h
  .cases op <;> first|exact h.elim|exact w _ _ h
  .exact h
 |ar op x y=>
  simp only[OX]at h ⊢;split at h
  .cases op <;> first|exact h.elim|exact⟨h.1,h.2.1,w _ _ h.2.2⟩|exact⟨h.1,w _ _ h.2⟩
  .exact h
 |_=>
  simp only[OX]at h ⊢;split at h
  .first|exact⟨h.1,w _ _ h.2⟩|exact w _ _ h
  .exact h
def OX.stable{o:O}{f:Fm}{K:Value->Qa T->Prop}{U:Qa T}(B:stable o=true)(h:OX S o f K U):∃v,K v U/\∀(U':Qa T)(w:Value->Qa T->Prop),(Gs o=false\/U.le U')->w v U'->OX S o f w U':=by
 cases o with
 |raw o=>cases B
 |call c args=>cases B
 |st n x v=>cases B
 |box t x=>cases B
 |boxM t x=>cases B
 |alloc t z=>cases B
 |bsl t len z H=>cases B
 |lenM x=>cases B
 |mv x=>simp only[OX,Qy]at h;exact⟨_,h,λ _ _ _ k=>by simpa only[OX,Qy]using k⟩
 |mkf fn first E=>simp only[OX,J4]at h;exact⟨_,h,λ _ _ _ k=>by simpa only[OX,J4]using k⟩
 |pick c a b=>
  simp only[OX,Qy]at h;split at h <;> rename_i e
  .exact⟨_,h,λ _ _ _ k=>by simpa[OX,Qy,e]using k⟩
  .exact⟨_,h,λ _ _ _ k=>by simpa[OX,Qy,e]using k⟩
  .exact h.elim
 |ext x i=>
  simp only[OX,Qy]at h;split at h <;> rename_i e
  .split at h <;> rename_i e'
   .exact⟨_,h,λ _ _ _ k=>by simpa[OX,Qy,e,e']using k⟩
   .exact h.elim
  .exact h.elim
 |part1 off x=>
  simp only[OX,Qy]at h;split at h <;> rename_i e
  .split at h <;> rename_i e'
   .exact⟨_,h,λ _ _ _ k=>by simpa[OX,Qy,e,e']using k⟩
   .exact h.elim
  .exact h.elim
 |ld x=>
  simp only[OX,Qy]at h;split at h <;> rename_i e
  .obtain⟨v,a,b⟩:=h;exact⟨v,b,λ U' w hl k=>by simp only[OX,Qy,e];exact⟨v,a.le (hl.resolve_left (by simp[Gs])),k⟩⟩
  .exact h.elim
 |ldn n x=>
  simp only[OX]at h;split at h <;> rename_i e
  .obtain⟨v,a,b⟩:=h;exact⟨_,b,λ U' w hl k=>by simp only[OX,Qy,e];exact⟨v,⟨a.1,a.2.le (hl.resolve_left (by simp[Gs]))⟩,k⟩⟩
  .exact h.elim
 |sidx x i=>
  simp only[OX]at h;split at h
  .rename_i e e';obtain⟨j,v,a,b⟩:=h;exact⟨_,b,λ U' w hl k=>by simp only[OX,Qy,e,e'];exact⟨j,v,a,k⟩⟩
  .exact h.elim
 |sub3 sz x lo I=>
  simp only[OX]at h;split at h <;> rename_i e
  .split at h <;> rename_i e'
   .obtain⟨l,hh,a,b⟩:=h;exact⟨_,b,λ U' w hl k=>by simp only[OX,Qy,e,e'];exact⟨l,hh,a,k⟩⟩
   .exact h.elim
  .exact h.elim
 |build z H=>
  simp only[OX,HF,Array.toArray_toList]at h;split at h <;> rename_i e
  .exact⟨_,h,λ U' w hl k=>by simp only[OX,Qy,HF,Array.toArray_toList,e];exact k⟩
  .exact h.elim
 |cmp op x y=>
  simp only[OX]at h;split at h
  .rename_i e e';obtain⟨G,h⟩:=h;cases op <;> first|exact h.elim|exact⟨_,h,λ U' w hl k=>by simp only[OX,Qy,e,e'];exact⟨G,k⟩⟩
  .exact h.elim
 |beq op x y=>
  simp only[OX]at h;split at h
  .rename_i e e';cases op <;> first|exact h.elim|exact⟨_,h,λ U' w hl k=>by simp only[OX,Qy,e,e'];exact k⟩
  .exact h.elim
 |teq op x y=>
  simp only[OX]at h;split at h
  .rename_i e e';cases op <;> first|exact h.elim|exact⟨_,h,λ U' w hl k=>by simp only[OX,Qy,e,e'];exact k⟩
  .exact h.elim
 |ar op x y=>
  simp only[OX]at h;split at h
  .rename_i e e'
   cases op <;> first
    |exact h.elim
    |exact⟨_,h.2.2,λ U' w hl k=>by simp only[OX,Qy,e,e'];exact⟨h.1,h.2.1,k⟩⟩
    |exact⟨_,h.2,λ U' w hl k=>by simp only[OX,Qy,e,e'];exact⟨h.1,k⟩⟩
  .exact h.elim
 |add x y=>simp only[OX]at h;split at h;{ rename_i e e';exact⟨_,h.2,λ U' w hl k=>by simp only[OX,Qy,e,e'];exact⟨h.1,k⟩⟩ };exact h.elim
 |sub x y=>simp only[OX]at h;split at h;{ rename_i e e';exact⟨_,h.2,λ U' w hl k=>by simp only[OX,Qy,e,e'];exact⟨h.1,k⟩⟩ };exact h.elim
 |mul x y=>simp only[OX]at h;split at h;{ rename_i e e';exact⟨_,h.2,λ U' w hl k=>by simp only[OX,Qy,e,e'];exact⟨h.1,k⟩⟩ };exact h.elim
 |idx n x y=>simp only[OX]at h;split at h;{ rename_i e e';obtain⟨F,j,a,b⟩:=h;exact⟨_,b,λ U' w hl k=>by simp only[OX,Qy,e,e'];exact⟨F,j,a,k⟩⟩ };exact h.elim
 |aidx n m x y=>simp only[OX]at h;split at h;{ rename_i e e';obtain⟨j,a,b⟩:=h;exact⟨_,b,λ U' w hl k=>by simp only[OX,Qy,e,e'];exact⟨j,a,k⟩⟩ };exact h.elim
 |_=>
  simp only[OX]at h;split at h <;> rename_i e
  .exact⟨_,h,λ U' w hl k=>by simp only[OX,Qy,e];exact k⟩
  .exact h.elim
section region
variable{N:Nat}{fn:FuncId}{ro:Option Nat}{mu:List Nat}{ops:Array Oper}
def vG{todo:List Nat}{Q:Ex->Act->Qa T->Prop}{A:Value->Act}:∀v U U',Qv U U'->QU S fn ro ops todo Q (A v) U'->QU S fn ro ops todo Q (A v) U:=λ _ _ _ b h=>Gf b h
inductive Y0(P:Program)(mu:List Nat)(ops:Array Oper)(o:Oper):St->Prop
 |plain:(∀c,o.op≠.defer c)->o.guard=none->Y0 P mu ops o ⟨Q6 P mu o,o.dst,none,none⟩
 |guarded {j:Nat} {w:Bool} {d:Nat}:(∀c,o.op≠.defer c)->o.guard=some (j,w)->(ops[j]?).bind (·.dst)=some d->Y0 P mu ops o ⟨Q6 P mu o,o.dst,some (d,w),none⟩
 |dfr {c:Operand} {args:Array Operand} {ats:Array TypeId}:o.op=.defer { callee:=.value c,args:=args,argTypes:=ats }->o.guard=none->Y0 P mu ops o ⟨.mv c,o.dst,none,some (c,args)⟩
def Va{o:Oper}{st:St}(h:Jg P mu ops o=some st):Y0 P mu ops o st:=by
 unfold Jg at h;split at h
 .rename_i ho hg;cases h;exact .dfr ho hg
 .cases h
 .rename_i hg hnd0 hnd;cases h;exact .plain (λ c b=>hnd c b) hg
 .rename_i j w hg hnd;split at h
  .rename_i hd;cases h;exact .guarded (λ c b=>hnd c b) hg hd
  .cases h
def Wl{o:Oper}{a:Act}(b:o.guard=none):Region.wanted o (yielded ops a.tmps)=true:=by simp[Region.wanted,b]
def YX{o:Oper}{a:Act}{j:Nat}{w:Bool}{d:Nat}{b:Bool}(h:o.guard=some (j,w))(f:(ops[j]?).bind (·.dst)=some d)(z:a.tmps[d]?=some (.bool b)) :
  Region.wanted o (yielded ops a.tmps)=(b==w):=by
 simp only[Region.wanted,h,yielded,f,Option.bind_some,z];cases b <;> cases w <;> rfl
def Oh{o:Oper}{N:Nat}{a:Act}{f:Fm}{ds:List Deferred}(hf:FR N a f ds){j:Nat}{w:Bool}{d:Nat}{vs:Array Value}(h:o.guard=some (j,w))(b:(ops[j]?).bind (·.dst)=some d)(z:f d=.tuple vs) :
  Region.wanted o (yielded ops a.tmps)=false:=by
 have:=hf.get d;rw[z,Array.getD_eq_getD_getElem?]at this
 have hy:yielded ops a.tmps j=none:=by
  simp only[yielded,b,Option.bind_some];cases hx:a.tmps[d]? with
  |none=>rfl
  |some v=>
   rw[hx]at this;simp only[Option.getD_some]at this;subst this;rfl
 simp only[Region.wanted,h,hy];cases w <;> rfl
def PP{Q:Ex->Act->Qa T->Prop}{n:Zj T}(Z:∀a f ds U,FR N a f ds->n f ds U->Q .normal a U)(Y:∀(i:Nat)(o:Oper),ops[i]?=some o->∀d,o.dst=some d->d<N) :
  ∀(z:List Nat)(l:List St),z.mapM (λ i=>(ops[i]?).bind (Jg P mu ops))=some l ->
   ∀(a:Act)(f:Fm)(ds:List Deferred)(U:Qa T),FR N a f ds->JS S ro l n f ds U->QU S fn ro ops z Q a U:=by
 intro z
 induction z with
 |nil=>
  intro l hl a f ds U hf h;simp at hl;subst hl;exact LJ (Z a f ds U hf h)
 |cons i z L=>
  intro l hl a f ds U hf h;simp only[mapM_cons,Option.pure_def,Option.bind_eq_bind,Option.bind_eq_some_iff]at hl;obtain⟨st,⟨o,F,W⟩,l',hl',e⟩:=hl;cases e;have H:=Y i o F
  have step:∀{f:Fm},FR N a f ds->(∀c,o.op≠.defer c)->Region.wanted o (yielded ops a.tmps)=true->OX S (Q6 P mu o) f (λ v U'=>JS S ro l' n (ZC f o.dst v) ds U') U->QU S fn ro ops (i::z) Q a U:=by
   intro f hf B G h;refine XQ F G (.inr B) (QK.opV (W1 (λ x=>hf.eval x) vG (OX.mono (λ v U' hv=>?_) h)));exact L l' hl' _ _ _ _ (hf.put o.dst v H) hv
  cases Va W with
  |plain B E=>simp only[OS,V4]at h;exact step hf B (Wl E) h
  |@guarded j w d B E I=>
   simp only[OS,V4]at h;split at h
   .rename_i b hb;have G:=YX (ops:=ops) (o:=o) E I (hf.slot hb);have e:JG f d (.bool b)=f:=K_ hb;cases b <;> cases w <;> simp only[GB,Bool.not_true,Bool.not_false]at h <;> rw[e]at h
    .exact step hf B (by rw[G];rfl) h
    .exact P0 F (by rw[G];rfl) (L l' hl' _ _ _ _ (hf.put o.dst undef H) h)
    .exact P0 F (by rw[G];rfl) (L l' hl' _ _ _ _ (hf.put o.dst undef H) h)
    .exact step hf B (by rw[G];rfl) h
   .rename_i vs hb;exact P0 F (Oh hf E I hb) (L l' hl' _ _ _ _ (hf.put o.dst undef H) h)
   .exact h.elim
  |@dfr c args X V E=>
   simp only[OS,V4]at h;split at h
   .rename_i g first capt e
    obtain⟨K,h⟩:=h;have M:a.eval=Zf f:=funext hf.eval;refine XQ F (Wl E) (.inl K) ?_;unfold HW;simp only[execOp,V,Qd,resolve,M,e,Deferred.ofValue,Qi,Yr];refine⟨K,L l' hl' _ _ _ _ ?_ h⟩;have h1:FR N { a with defers:={ target:=.fn g capt,args:=first++args.map (Zf f) }::a.defers } f ({ target:=.fn g capt,args:=first++args.map (Zf f) }::ds):=⟨by rw[hf.ds],hf.size,hf.get⟩;exact h1.put o.dst undef H
   .exact h.elim
def Jq{U':Qa T}{v:Value}:∀(w:Value)(f h:Qa T),Qv f h->(w=v/\∃b,Qv h b/\U'.le b)->(w=v/\∃b,Qv f b/\U'.le b):=
 λ _ _ _ z⟨e,b,h1,h2⟩=>⟨e,b,z.trans h1,h2⟩
def La{Fin:Act->Qa T->Prop}{K:Zj T}{U:Qa T}{rl:List Nat}{B:Nat->Nat->Prop}{late:Nat->Bool}{G:Qa T->Prop}{tail:List Nat}{kind:Nat->Nat}(af:∀a f ds E,FR N a f ds->(∀U',U.le U'->E U'->K f ds U')->ZU S ops rl B late G U Fin tail E a)(hN:∀(i:Nat)(o:Oper),ops[i]?=some o->∀d,o.dst=some d->d<N)
  (aa:∀i,kind i=0\/kind i=1\/kind i=3->i∉rl) (ai:∀i,kind i≠0->kind i≠1->kind i≠3->i∈rl) (ae:∀i,kind i=0->∀o,ops[i]?=some o->stable (Q6 P mu o)=true/\(late i=true->Gs (Q6 P mu o)=false)) (ah:∀i,kind i=1->late i=false) :
  ∀(z:List Nat)(l:List (Nat×St)),z.mapM (λ i=>((ops[i]?).bind (Jg P mu ops)).map λ st=>(kind i,st))=some l->(l.all λ x=>x.2.dfr.isNone)=true->(∀i∈z,∀o,ops[i]?=some o->o.guard=none\/i∉rl) ->
   ∀(a:Act)(f:Fm)(ds:List Deferred)(E:Qa T->Prop),FR N a f ds->DX S G l E K f ds U->ZU S ops rl B late G U Fin (z++tail) E a:=by
 intro z
 induction z with
 |nil=>
  intro l hl _ _ a f ds E hf h;simp at hl;subst hl;exact af a f ds E hf h
 |cons i z ih=>
  intro l hl M ad a f ds E hf h;simp only[mapM_cons,Option.pure_def,Option.bind_eq_bind,Option.bind_eq_some_iff,Option.map_eq_some_iff]at hl;obtain⟨x,⟨st,⟨o,Q,X⟩,rfl⟩,l',hl',e⟩:=hl;cases e;simp only[all_cons,Bool.and_eq_true]at M;have hd:=hN i o Q;have I:=ih l' hl' M.2 (λ j hj=>ad j (mem_cons_of_mem _ hj))
  have run:∀{f:Fm},FR N a f ds->Region.wanted o (yielded ops a.tmps)=true ->
    (match kind i with
     |0=>OX S (Q6 P mu o) f (λ v _=>DX S G l' E K (ZC f o.dst v) ds U) U
     |1=>∃v,(∀U',U.le U'->E U'->OX S (Q6 P mu o) f (λ v' Z=>v'=v/\∃L,Qv Z L/\U'.le L) U')/\DX S G l' E K (ZC f o.dst v) ds U
     |3=>∃v,(∀U',U.le U'->E U'->OX S (Q6 P mu o) f (λ v' Z=>v'=v/\∃L,Qv Z L/\U'.le L) U')/\(∀U',G U'->OX S (Q6 P mu o) f (λ v' Z=>v'=v/\∃L,Qv Z L/\U'.le L) U')/\DX S G l' E K (ZC f o.dst v) ds U
     |_=>∃F:Value->Qa T->Prop,(∀v,Xz (F v))/\(∀U',U.le U'->E U'->OX S (Q6 P mu o) f (λ v' Z=>∃L,Qv Z L/\F v' L/\U'.le L) U') /\
       ∀v,(∃U',U.le U'/\E U'/\F v U')->DX S G l' (λ U'=>E U'/\F v U') K (ZC f o.dst v) ds U)->ZU S ops rl B late G U Fin (i::(z++tail)) E a:=by
   intro f hf Y h;split at h
   .rename_i hk;obtain⟨v,hn,X⟩:=OX.stable (ae i hk o Q).1 h;refine .det v (aa i (.inl hk)) Q Y (λ U' H _=>?_) (λ W U' _=>?_) (I _ _ _ _ (hf.put o.dst v hd) hn)
    .exact W1 (λ x=>hf.eval x) Jq (X U' _ (.inr H) ⟨rfl,U',.refl _,.refl _⟩)
    .exact W1 (λ x=>hf.eval x) Jq (X U' _ (.inl ((ae i hk o Q).2 W)) ⟨rfl,U',.refl _,.refl _⟩)
   .rename_i hk;obtain⟨v,V,hn⟩:=h;refine .det v (aa i (.inr (.inl hk))) Q Y (λ U' H hc=>?_) (λ W=>by rw[ah i hk]at W;cases W) (I _ _ _ _ (hf.put o.dst v hd) hn);exact W1 (λ x=>hf.eval x) Jq (V U' H hc)
   .rename_i hk;obtain⟨v,V,ag,hn⟩:=h;refine .det v (aa i (.inr (.inr hk))) Q Y (λ U' H hc=>?_) (λ _ U' hg=>?_) (I _ _ _ _ (hf.put o.dst v hd) hn)
    .exact W1 (λ x=>hf.eval x) Jq (V U' H hc)
    .exact W1 (λ x=>hf.eval x) Jq (ag U' hg)
   .rename_i h0 h1 h3;obtain⟨F,hF,V,hn⟩:=h;refine .rel F (ai i (λ e=>h0 e) (λ e=>h1 e) (λ e=>h3 e)) hF Q Y (λ U' H hc=>?_) (λ v hv=>I _ _ _ _ (hf.put o.dst v hd) (hn v hv));exact W1 (λ x=>hf.eval x) (λ v' Z U3 hs⟨L,a,b,c⟩=>⟨L,hs.trans a,b,c⟩) (V U' H hc)
  cases Va X with
  |plain aj hg=>simp only[IV,V9]at h;exact run hf (Wl hg) h
  |@guarded j w d aj hg ac=>
   simp only[IV,V9]at h;have ab:i∉rl:=(ad i (mem_cons_self ..) o Q).resolve_left (by rw[hg];simp);split at h
   .rename_i b hb;have Y:=YX (ops:=ops) (o:=o) hg ac (hf.slot hb);have e:JG f d (.bool b)=f:=K_ hb;cases b <;> cases w <;> simp only[GB,Bool.not_true,Bool.not_false]at h <;> rw[e]at h
    .exact run hf (by rw[Y];rfl) h
    .exact .un ab Q (by rw[Y];rfl) (I _ _ _ _ (hf.put o.dst undef hd) h)
    .exact .un ab Q (by rw[Y];rfl) (I _ _ _ _ (hf.put o.dst undef hd) h)
    .exact run hf (by rw[Y];rfl) h
   .rename_i vs hb;exact .un ab Q (Oh hf hg ac hb) (I _ _ _ _ (hf.put o.dst undef hd) h)
   .exact h.elim
  |dfr=>simp at M
end region
def Gw(N:Nat)(n:Zj T)(x:Nat->Zj T)(r:Zj T)(e:Ex)(a:Act)(U:Qa T):Prop:=
 ∃f ds,FR N a f ds/\(match e with|.normal=>n f ds U|.exit i=>x i f ds U|.ret=>r f ds U)
def ZU.fin{ops:Array Oper}{rl:List Nat}{B:Nat->Nat->Prop}{late:Nat->Bool}{G:Qa T->Prop}{U:Qa T}{Fin w:Act->Qa T->Prop}(H:∀a U,Fin a U->w a U){l:List Nat}{E:Qa T->Prop}{a:Act}(h:ZU S ops rl B late G U Fin l E a):ZU S ops rl B late G U w l E a:=by
 induction h with
 |nil h=>exact .nil λ U' a b=>H _ _ (h U' a b)
 |un a b c _ z=>exact .un a b c z
 |det v a b c d e _ z=>exact .det v a b c d e z
 |rel F a b c d e _ z=>exact .rel F a b c d e z
 |last a b c d e f g=>exact .last a b c d e f λ hx U' h=>H _ _ (g hx U' h)
section code
variable{N:Nat}{fn:FuncId}{ro:Option Nat}{mu dets:List Nat}
def vv{G:Type}{c:Code}{Q:Ex->Act->Qa T->Prop}(I:G->Act->Qa T->Prop)(μ:G->Nat){g:G}{a:Act}{U:Qa T}(B:I g a U)
  (round:∀g a U,I g a U->Zq S fn ro c (λ e a' U'=>match e with|.normal=>∃g',I g' a' U'/\μ g'<μ g|e=>Q e a' U') a U):Zq S fn ro (.loop c) Q a U:=by
 intro Stop m b k cs hb h;refine .still rfl (λ _=>yj) ?_
 have key:∀N g a U,μ g<=N->I g a U->J S Stop m (R b a (.code c::.inLoop c::k) cs) U:=by
  intro N
  induction N with
  |zero=>
   intro g a U E w;refine round g a U w Stop m b (.inLoop c::k) cs hb λ e a' U' q=>?_;cases e with
   |normal=>obtain⟨g',_,f⟩:=q;exact absurd f O1
   |exit id=>exact(h _ _ _ q).push (λ _ _=>rfl) S1
   |ret=>exact(h _ _ _ q).push (x:=.inLoop c) (λ _ _=>rfl) S1
  |succ N F=>
   intro g a U E w;refine round g a U w Stop m b (.inLoop c::k) cs hb λ e a' U' q=>?_;cases e with
   |normal=>obtain⟨g',z,f⟩:=q;exact .still rfl (λ _=>gj) (F g' a' U' O1 z)
   |exit id=>exact(h _ _ _ q).push (λ _ _=>rfl) S1
   |ret=>exact(h _ _ _ q).push (x:=.inLoop c) (λ _ _=>rfl) S1
 exact key _ g a U (Nat.le_refl _) B
def ki{ops:Array Oper}(h:ops.all (GM N)=true):∀(i:Nat)(o:Oper),ops[i]?=some o->∀d,o.dst=some d->d<N:=by
 intro i o f d b;have:=(Array.all_eq_true'.1 h) o (Array.mem_of_getElem? f);simpa[GM,b]using this
def zW(hm:P.follows .mixedOrders=true){id:Nat}{ops:Array Oper}{d:Bool}{n:Zj T}{x:Nat->Zj T}{r:Zj T}{f:Fm}{ds:List Deferred}{U:Qa T}{a:Act}(hf:FR N a f ds)
  (h:ZY S fn ro (YR P mu N dets ops d) n x r f ds U):Zq S fn ro (.region id ops d) (Gw N n x r) a U:=by
 unfold YR at h;split at h
 .exact h.elim
 .rename_i hall;have Q:=ki (N:=N) (ops:=ops) (by simpa using hall);have Y:∀a f ds U,FR N a f ds->n f ds U->Gw N n x r .normal a U:=λ a f ds U hf h=>⟨f,ds,hf,h⟩;split at h
  .split at h
   .rename_i l hl;exact It (PP Y Q _ l hl a f ds U hf h)
   .exact h.elim
  .dsimp only at h
   split at h
   .exact h.elim
   .rename_i L;simp only[Bool.or_eq_true,Bool.not_eq_true',not_or,Bool.not_eq_false]at L;obtain⟨L,X⟩:=L;split at h
    .rename_i x st hx;split at h
     .rename_i la lb hla hlb;split at h
      .rename_i hdf;obtain⟨G,hG,h⟩:=h;simp only[Option.bind_eq_some_iff]at hx;obtain⟨x',H,st',⟨o,z,ab⟩,hx⟩:=hx;split at hx
       .rename_i w;cases hx;simp only[Bool.and_eq_true,contains_iff_mem,Option.isNone_iff_eq_none]at w;obtain⟨⟨⟨ac,ae⟩,aa⟩,Z⟩:=w;refine D9 (late:=Ym ops x) (G:=G) _ _ _ hm L ?_;refine ZU.fin (Fin:=λ a U=>∃f ds,FR N a f ds/\JS S ro lb n f ds U) (λ a U⟨f,ds,hf,h⟩=>PP Y Q _ lb hlb a f ds U hf h) ?_
        obtain⟨W,rfl⟩:o.guard=none/\st=⟨Q6 P mu o,o.dst,none,none⟩:=by
         cases Va ab with
         |plain _ W=>exact⟨W,rfl⟩
         |guarded=>cases aa
         |dfr=>cases Z
        have hq:PX ops (X8 P mu dets ops) ops.size (range (W6 ops ops.size)) []=(PX ops (X8 P mu dets ops) ops.size (range (W6 ops ops.size)) []).dropLast++[x]:=by
         rw[getLast?_eq_some_iff]at H;obtain⟨ys,ad⟩:=H;rw[ad];simp
        rw[hq];refine La (S:=S) (mu:=mu) (tail:=[x]) (K:=LW S G ⟨Q6 P mu o,o.dst,none,none⟩ (JS S ro lb n)) (λ a f ds Cn hf h=>.last ac hG (λ j hj=>?_) z (Wl W) (λ U' I w=>?_) (λ hx U'' W=>?_)) Q ?_ ?_ ?_ ?_ _ la hla hdf ?_ a f ds _ hf h
        .refine Wm ops ops.size x j ?_;simpa[Ym]using hj
        .exact W1 (λ x=>hf.eval x) (λ v' U2 U3 V⟨e,U1,a,b⟩=>⟨e,U1,V.trans a,b⟩) (h U' I w).1
        .obtain⟨U',I,w⟩:=hx;exact⟨_,_,hf.put o.dst undef (Q x o z),(h U' I w).2 U'' W⟩
        .intro i F w;have E:=contains_iff_mem.2 w;simp only[GX,E,if_true]at F;rcases F with F|F|F <;> cases F
        .intro i h0 h1 h3;apply Classical.byContradiction;intro w
         have E:(List.filter (X8 P mu dets ops) (range (W6 ops ops.size))).contains i=false:=by
          cases M:(List.filter (X8 P mu dets ops) (range (W6 ops ops.size))).contains i with
          |false=>rfl
          |true=>exact absurd (contains_iff_mem.1 M) w
         simp only[GX,E,Bool.false_eq_true,if_false]at h0 h1 h3;cases z:ops[i]? with
         |none=>simp[z]at h3
         |some o=>
          simp only[z]at h0 h1 h3;split at h0
          .exact h0 rfl
          .rename_i hh;simp only[hh,Bool.false_eq_true,if_false]at h1 h3;split at h1
           .rename_i hl;simp[hl]at h3
           .exact h1 rfl
        .intro i h0 o z;simp only[GX]at h0;split at h0
         .cases h0
         .simp only[z]at h0;split at h0
          .rename_i hh;simp only[Bool.and_eq_true,Bool.or_eq_true,Bool.not_eq_true']at hh;exact⟨hh.1,λ hl=>hh.2.resolve_right (by rw[hl];simp)⟩
          .split at h0 <;> cases h0
        .intro i h1;simp only[GX]at h1;split at h1
         .cases h1
         .split at h1
          .split at h1
           .cases h1
           .split at h1
            .cases h1
            .rename_i hl;simpa using hl
          .cases h1
        .intro i _ o z;by_cases w:i∈List.filter (X8 P mu dets ops) (range (W6 ops ops.size))
         .refine .inl ?_;have:=all_eq_true.1 X i w;simpa[z]using this
         .exact .inr w
       .cases hx
      .exact h.elim
     .exact h.elim
    .split at h
     .rename_i la lb hla hlb;split at h
      .rename_i hdf;refine D9 (late:=λ _=>false) (G:=λ _=>False) _ _ _ hm L ?_;refine ZU.fin (Fin:=λ a U=>∃f ds,FR N a f ds/\JS S ro lb n f ds U) (λ a U⟨f,ds,hf,h⟩=>PP Y Q _ lb hlb a f ds U hf h) ?_;have key:=La (S:=S) (mu:=mu) (rl:=List.filter (X8 P mu dets ops) (range (W6 ops ops.size))) (B:=Z_ ops) (late:=λ _=>false) (G:=λ _=>False) (tail:=[]) (Fin:=λ a U=>∃f ds,FR N a f ds/\JS S ro lb n f ds U) (K:=JS S ro lb n) (U:=U) (λ a f ds Cn hf h=>.nil λ U' I w=>⟨f,ds,hf,h U' I w⟩) Q ?_ ?_ ?_ (λ _ _=>rfl) _ la hla hdf ?_ a f ds (λ _=>True) hf h
       .simpa using key
       .intro i F w;have E:=contains_iff_mem.2 w;simp only[Yf,E,if_true]at F;rcases F with F|F|F <;> cases F
       .intro i h0 h1 h3;apply Classical.byContradiction;intro w
        have E:(List.filter (X8 P mu dets ops) (range (W6 ops ops.size))).contains i=false:=by
         cases M:(List.filter (X8 P mu dets ops) (range (W6 ops ops.size))).contains i with
         |false=>rfl
         |true=>exact absurd (contains_iff_mem.1 M) w
        simp only[Yf,E,Bool.false_eq_true,if_false]at h0 h1;cases z:ops[i]? with
        |none=>simp[z]at h1
        |some o=>
         simp only[z]at h0 h1;by_cases V:stable (Q6 P mu o)=true <;> simp[V]at h0 h1
       .intro i h0 o z;simp only[Yf]at h0;split at h0
        .cases h0
        .simp only[z]at h0;by_cases V:stable (Q6 P mu o)=true
         .exact⟨V,λ h=>by cases h⟩
         .simp[V]at h0
       .intro i _ o z;by_cases w:i∈List.filter (X8 P mu dets ops) (range (W6 ops ops.size))
        .refine .inl ?_;have:=all_eq_true.1 X i w;simpa[z]using this
        .exact .inr w
      .exact h.elim
     .exact h.elim
def G6(hm:P.follows .mixedOrders=true):∀(code:Code){n:Zj T}{x:Nat->Zj T}{r:Zj T}{f:Fm}{ds:List Deferred}{U:Qa T}{a:Act},FR N a f ds->ZY S fn ro (clean P mu N dets code) n x r f ds U ->
  Zq S fn ro code (Gw N n x r) a U:=by
 intro code
 induction code with
 |skip=>exact λ hf h=>kG ⟨_,_,hf,h⟩
 |label l=>exact λ hf h=>vu ⟨_,_,hf,h⟩
 |region id ops d=>
  intro n x r f ds U a hf h;simp only[clean]at h
  have cd:ZY S fn ro (.cd N (.region id ops d)) n x r f ds U->Zq S fn ro (.region id ops d) (Gw N n x r) a U:=λ h=>by
   refine Zq.mono (h a hf) λ e a' U'⟨ht,E,b,z⟩=>⟨E,a'.defers,⟨rfl,by rw[ht];exact hf.size,b⟩,?_⟩;cases e <;> exact z
  split at h
  .exact cd h
  .split at h
   .exact cd h
   .exact zW hm hf h
 |seq K M F H=>
  intro n x r f ds U a hf h;refine yA (Zq.mono (F hf h) λ e a' U' z=>?_);obtain⟨E,B,b,z⟩:=z;cases e with
  |normal=>exact H b z
  |exit i=>exact⟨E,B,b,z⟩
  |ret=>exact⟨E,B,b,z⟩
 |cond c K M F H=>
  intro n x r f ds U a hf h
  replace h:Uw c (ZY S fn ro (clean P mu N dets K) n x r) (ZY S fn ro (clean P mu N dets M) n x r) f ds U:=h
  unfold Uw at h;split at h
  .rename_i t ht;refine kE t (by rw[hf.eval];exact ht) ?_;cases t
   .exact H hf h
   .exact F hf h
  .exact h.elim
 |block id c Q=>
  intro n x r f ds U a hf h;refine vr (Zq.mono (Q hf h) λ e a' U' z=>?_);obtain⟨E,B,b,z⟩:=z;cases e with
  |normal=>exact⟨E,B,b,z⟩
  |exit i=>
   simp only at z ⊢;by_cases e:i=id
   .subst e;have:Nat.beq i i=true:=S1
    rw[this]at z;rw[if_pos rfl];exact⟨E,B,b,z⟩
   .have:Nat.beq i id=false:=by cases hb:Nat.beq i id with|false=>rfl|true=>exact absurd (Nat.eq_of_beq_eq_true hb) e
    rw[this]at z;rw[if_neg e];exact⟨E,B,b,z⟩
  |ret=>exact⟨E,B,b,z⟩
 |loop c Q=>
  intro n x r f ds U a hf h;obtain⟨α,L,I,μ,Z,he,V,hr⟩:=h;refine vv (G:=α) (λ y a U=>∃f,FR N a (ovr (L y) f) ds/\I y U) μ (g:=Z) ⟨f,by rw[he.ovr];exact hf,V⟩ λ y a U⟨f,hf,V⟩=>?_;refine Zq.mono (Q hf (hr y f U V)) λ e a' U' z=>?_;obtain⟨E,B,b,z⟩:=z;cases e with
  |normal=>
   obtain⟨rfl,y',X,W,Y⟩:=z;exact⟨y',⟨E,by rw[X.ovr];exact b,W⟩,Y⟩
  |exit i=>exact⟨E,B,b,z⟩
  |ret=>exact⟨E,B,b,z⟩
 |rangeFunc c params assign body _ _=>
  intro n x r f ds U a hf h;refine Zq.mono (h _ _ rfl rfl a hf) λ e a' U'⟨ht,z⟩=>⟨f,a'.defers,⟨rfl,by rw[ht];exact hf.size,λ t=>by rw[ht];exact hf.get t⟩,?_⟩;cases e <;> exact z
 |exit id=>exact λ hf h=>L7 ⟨_,_,hf,h⟩
 |scope c Q=>exact λ hf h=>vw (Q hf h)
 |goto l=>exact λ _ h=>h.elim
 |ret=>exact λ hf h=>LC ⟨_,_,hf,h⟩
 |refuse w=>exact λ _ h=>h.elim
end code
def fm(args:List Value):Fm:=λ t=>args.getD t undef
def Qo(b o n:Nat):(Addr.mk b o none).add n=⟨b,o+n,none⟩:=by
 simp only[Addr.add];split
 .rename_i h;subst h;rfl
 .rfl
def ku(a:Addr)(h:a.spot=none)(m n:Nat):(a.add m).add n=a.add (m+n):=by
 obtain⟨b,o,s⟩:=a;cases h;rw[Qo,Qo,Qo,Nat.add_assoc]
def Zi.sees{U:Qa T}{b o:Nat}{c:Array Value}{v:Value}(h:Zi U b c)(f:c[o]?=some v):U.sees ⟨b,o,none⟩ v:=by
 obtain⟨t,fr,h⟩:=h;exact⟨rfl,.inl ⟨c,t,fr,.inl h,f⟩⟩
def Zi.le{U U':Qa T}{b:Nat}{c:Array Value}(h:Zi U b c)(hl:U.le U'):Zi U' b c:=let ⟨t,fr,h⟩:=h;⟨t,fr,hl.imm _ _ h⟩
def Zi.reads{U:Qa T}{b o:Nat}{c:Array Value}{vs:List Value}(h:Zi U b c)(w:∀i v,vs[i]?=some v->c[o+i]?=some v):Je U ⟨b,o,none⟩ vs:=by
 intro i v f;rw[Qo];exact h.sees (w i v f)
def Zi.rd{U:Qa T}{b:Nat}{vs:List Value}(h:Zi U b vs.toArray):Je U ⟨b,0,none⟩ vs:=h.reads λ k v f=>by simpa using f
def Dz{U U':Qa T}(h:U.le U'):Qv U' U:=by
 refine⟨h.tok.symm,λ w ok=>⟨⟨λ b o e=>ok.imm b o (h.imm b o e),λ r z=>ok.held r (h.own▸z),h.own▸ok.apart,λ r z=>?_⟩,λ l hl=>?_,λ l hl=>?_⟩⟩
 .have:=ok.sep r (h.own▸z);cases e:U.I r.blk with
  |none=>rfl
  |some o=>rw[h.imm _ _ e]at this;cases this
 .rw[Q4]at hl ⊢;rw[h.own];exact hl
 .rw[Qx]at hl ⊢;rw[h.own];refine hl.imp id λ hl=>?_;cases l with
  |cell a=>obtain⟨c,t,fr,B,f⟩:=hl;exact⟨c,t,fr,h.imm _ _ B,f⟩
  |obj b=>obtain⟨o,E⟩:=hl;exact⟨o,h.imm _ _ E⟩
  |output=>exact hl
  |goroutines=>exact hl
  |mark _=>exact hl
def Qb.pure{f:FuncId}{args:Array Value}{U:Qa T}{Q:Value->Prop}(h:Qb S f args (λ v U'=>Q v/\U.le U') U):Qb S f args (λ v U'=>Q v/\U'=U) U:=
 h.post λ _ _⟨q,hl⟩=>⟨U,Dz hl,q,rfl⟩
end Go.TM
namespace Go.TM
def Xt(id:Nat):Code->Option Code
 |.region i ops d=>if i=id then some (.region i ops d)else none
 |.seq a b=>(Xt id a).or (Xt id b)
 |.cond _ a b=>(Xt id a).or (Xt id b)
 |.block _ b=>Xt id b
 |.loop b=>Xt id b
 |.scope b=>Xt id b
 |.rangeFunc _ _ a b=>(Xt id a).or (Xt id b)
 |_=>none
def GL(fd:Func)(id:Nat):Code:=(fd.body.bind (Xt id)).getD .skip
def GY(fd:Func)(id:Nat):Array Oper:=match GL fd id with
 |.region _ ops _=>ops
 |_=>#[]
variable{T:Type}{P:Program}{S:Sys P T}
inductive RV where
 |t (n:Nat)
 |c (a:Nat)
 |cn (a n:Nat)
def XC(P:Program):ResultVar->Option RV
 |.tmp t=>some (.t t)
 |.cell a t=>match P.underlying t with
  |some d=>if TypeDesc.agg d then(Js P t).map (.cn a)else some (.c a)
  |none=>none
def Yy(acc:List Value):Value:=match acc with|[v]=>v|l=>.tuple l.reverse.toArray
def Yx(acc:List Value)(K:Value->Prop):Prop:=match acc with|[v]=>K v|l=>K (.tuple l.reverse.toArray)
def kU(acc:List Value)(K:Value->Prop):Yx acc K=K (Yy acc):=by
 unfold Yx Yy;split <;> simp_all
def V2(f:Fm)(Q:Value->Qa T->Prop)(x:RV)(h:List Value->Qa T->Prop)(acc:List Value)(U:Qa T):Prop:=
 match x with
 |.t t=>WN (f t) λ v=>h (v::acc) U
 |.c a=>match f a with|.pointer (some b)=>∃v,U.sees b v/\WN v λ v=>h (v::acc) U|_=>False
 |.cn a n=>match f a with|.pointer (some b)=>∃vs:List Value,(vs.length=n/\Je U b vs)/\h (.agg vs.toArray::acc) U|_=>False
def HA(f:Fm)(Q:Value->Qa T->Prop)(l:List RV):List Value->Qa T->Prop:=
 List.rec (motive:=λ _=>List Value->Qa T->Prop) (λ acc U=>Yx acc λ v=>Q v U) (λ x _ b=>V2 f Q x b) l
def Oo(f:Fm)(Q:Value->Qa T->Prop)(x:RV)(r:List RV):HA f Q (x::r)=V2 f Q x (HA f Q r):=rfl
def LL(acc:List Value):Value:=if h:acc.reverse.toArray.size=1 then acc.reverse.toArray[0]else .tuple acc.reverse.toArray
def gg(acc:List Value):Yy acc=LL acc:=by
 unfold LL Yy
 match acc with
 |[]=>rfl
 |[v]=>rfl
 |a::b::r=>rw[dif_neg S1]
def je{fd:Func}{Q:Value->Qa T->Prop}{f:Fm}{tmps:Array Value}(ht:∀t,tmps.getD t undef=f t) :
  ∀(l:List ResultVar)(rl:List RV),l.mapM (XC P)=some rl->∀(acc:List Value)(U:Qa T),HA f Q rl acc U->Qq P (X0 (λ x=>match x with
   |ResultVar.tmp t=>pure (tmps.getD t undef)
   |ResultVar.cell a t=>do loadVar t (<- asAddr (tmps.getD a undef))) l acc.reverse.toArray) (λ vs U=>Qq P (pure (if h:vs.size=1 then vs[0]else .tuple vs):Sem Value) Q U) U:=by
 intro l
 induction l with
 |nil=>
  intro rl h acc U b;simp at h;subst h
  replace b:Yx acc (λ v=>Q v U):=b
  rw[kU]at b;rw[gg]at b;exact b
 |cons x l E=>
  intro rl h acc U b;simp only[mapM_cons,Option.pure_def,Option.bind_eq_bind,Option.bind_eq_some_iff]at h;obtain⟨M,w,L,z,e⟩:=h;cases e;have push:∀v:Value,acc.reverse.toArray.push v=(v::acc).reverse.toArray:=λ v=>by apply Array.ext';simp
  cases x with
  |tmp t=>
   simp only[XC,Option.some.injEq]at w;subst w;simp only[Oo,V2,Qy]at b;simp only[X0];rw[Qd,ht,Qi,push];exact E _ z _ _ b
  |cell a t=>
   simp only[X0];rw[Qd,Qd,ht];simp only[XC]at w;split at w
   .rename_i d hd;split at w
    .rename_i hag;simp only[Option.map_eq_some_iff]at w;obtain⟨n,G,rfl⟩:=w;obtain⟨K,F,B⟩:=HZ G;simp only[Oo,V2]at b;split at b
     .rename_i ad e;obtain⟨vs,⟨hl,H⟩,b⟩:=b;rw[e];simp only[asAddr,Qi,loadVar,Qd,Hq hd,hag,if_true,Jd F,B,<- hl];refine H.cells ?_;simp only[Qi,push];exact E _ z _ _ b
     .exact b.elim
    .rename_i hag;cases w;simp only[Oo,V2]at b;split at b
     .rename_i ad e;obtain⟨v,I,b⟩:=b;rw[Qy]at b;rw[e];simp only[asAddr,Qi,loadVar,Qd,Hq hd,hag,Bool.false_eq_true,if_false];refine SQ I ?_;rw[push];exact E _ z _ _ b
     .exact b.elim
   .cases w
def Uv(rl:List RV)(Q:Value->Qa T->Prop)(f:Fm)(l:List Deferred):Qa T->Prop:=
 List.rec (motive:=λ _=>Qa T->Prop) (λ U=>HA f Q rl [] U) (λ d _ h U=>match d.target with
  |.collected b=>∃M',J0 b (.deferred none) (.deferred (some [])) U.M M'/\h { U with M:=M' }
  |_=>False) l
def J0.mem{b:Nat}{w o:Obj}{M M':List Qw}(h:J0 b w o M M'):Qw.obj b o∈M:=by
 induction h with
 |here=>exact mem_cons_self ..
 |there _ f=>exact mem_cons_of_mem _ f
def VF{fd:Func}{rl:List RV}(z:fd.results.toList.mapM (XC P)=some rl){Q:Value->Qa T->Prop}{f:Fm}:∀(ds:List Deferred)(U:Qa T),Uv rl Q f ds U ->
  ∀tmps:Array Value,(∀t,tmps.getD t undef=f t)->X3 P fd Q tmps ds U
 |[],U,h,tmps,ht=>by
  have w:fd.results=fd.results.toList.toArray:=rfl;simp only[X3,results];rw[w,Qd,SM];exact je (fd:=fd) ht _ _ z [] U h
 |⟨tg,args⟩::ds,U,h,tmps,ht=>by
  cases tg with
  |collected b=>
   obtain⟨M',B,h⟩:=h;simp only[X3,Instr.takeDeferred,Qd,getObj];refine⟨_,.inr B.mem,rfl,rfl,?_⟩;simp only[Qq,Qd,setObj];exact⟨_,M',B,rfl,rfl,rfl,rfl,VF z ds _ h tmps ht⟩
  |_=>exact h.elim
structure Zl(P:Program)(g:FuncId)(N:Nat)(cc:C)(rl:List RV):Prop where
 ok:∃fd mu dets,P.funcs[g]?=some fd/\fd.body=some (fd.body.getD .skip)/\clean P mu fd.ntmps dets (fd.body.getD .skip)=cc/\fd.ntmps=N/\fd.results.toList.mapM (XC P)=some rl/\(fd.name != "runtime.NumGoroutine")=true
def Zl.mk'{g:FuncId}{N:Nat}{cc:C}{rl:List RV}{fd:Func}(mu dets:List Nat)(hf:P.funcs[g]?=some fd)(hb:fd.body.isSome=true)(f:clean P mu fd.ntmps dets (fd.body.getD .skip)=cc)(b:fd.ntmps=N)
  (z:fd.results.toList.mapM (XC P)=some rl) (w:(fd.name != "runtime.NumGoroutine")=true):Zl P g N cc rl:=
 ⟨fd,mu,dets,hf,by cases h:fd.body with|none=>rw[h]at hb;cases hb|some c=>rfl,f,b,z,w⟩
def Zl.o{g:FuncId}{N:Nat}{cc:C}{rl:List RV}{fd:Func}(mu dets:List Nat)(hf:P.funcs[g]?=some fd)(h:(fd.body.isSome,clean P mu fd.ntmps dets (fd.body.getD .skip),fd.ntmps,fd.results.toList.mapM (XC P),(fd.name != "runtime.NumGoroutine"))=(true,cc,N,some rl,true)):Zl P g N cc rl:=by
 obtain⟨h1,h2,b,f,h5⟩:=(by simpa only[Prod.mk.injEq]using h:_/\_/\_/\_/\_);exact .mk' mu dets hf h1 h2 b f h5
def Zl.any{g:FuncId}{N:Nat}{cc:C}{rl:List RV}(k:Zl P g N cc rl):(P.funcs[g]?.any λ fd=>fd.body.isSome&&fd.name != "runtime.NumGoroutine")=true:=by
 obtain⟨fd,mu,dets,hf,hb,-,-,-,b⟩:=k.ok;rw[hf,Option.any_some,b,hb];rfl
def Qb.of{g:FuncId}{N:Nat}{cc:C}{rl:List RV}(k:Zl P g N cc rl)(hm:P.follows .mixedOrders=true){args:List Value}(H:args.length<=N){U:Qa T}{Q:Value->Qa T->Prop}
  (h:ZY S g none cc (λ f ds U=>Uv rl Q f ds U) (λ _ _ _ _=>False) (λ f ds U=>Uv rl Q f ds U) (fm args) [] U):Qb S g args.toArray Q U:=by
 obtain⟨fd,mu,dets,hf,hb,F,rfl,B,-⟩:=k.ok;refine Qb.of_body hf hb ?_
 have z:FR fd.ntmps { tmps:=args.toArray++Array.replicate (fd.ntmps-args.toArray.size) undef,defers:=[] } (fm args) []:=by
  refine⟨rfl,S3,λ t=>?_⟩;simp only[fm,Array.getD_eq_getD_getElem?,getD_eq_getElem?_getD,Array.getElem?_append,size_toArray,getElem?_toArray];split
  .rfl
  .rename_i hlt;rw[getElem?_eq_none O1,Array.getElem?_replicate];split <;> rfl
 subst F;refine Zq.mono (G6 hm _ z h) λ e a U w=>?_;obtain⟨G,E,b,w⟩:=w;cases e with
 |normal=>have:=VF B _ _ w a.tmps b.get;simpa only[Uj,b.ds]using this
 |exit i=>exact w.elim
 |ret=>have:=VF B _ _ w a.tmps b.get;simpa only[Uj,b.ds]using this
abbrev St.xz(d a b t:Nat):St:=.d d (.raw { dst:=none,op:=(.call { callee:=.builtin .append,args:=#[.tmp a,.tmp b],argTypes:=#[t,t] }),type:=t,pos:= "",after:=#[],guard:=none })
abbrev St.xo(d k t:Nat):St:=.d d (.off k (.tmp t))
abbrev St.xl(d t:Nat):St:=.d d (.ld (.tmp t))
abbrev St.xi(d n a b:Nat):St:=.d d (.idx n (.tmp a) (.tmp b))
abbrev St.xn(d t:Nat):St:=.d d (.len (.tmp t))
abbrev St.xc(d:Nat)(o:BinOp)(a b:Nat):St:=.d d (.cmp o (.tmp a) (.tmp b))
abbrev St.xk(d:Nat)(o:BinOp)(a:Nat)(n:Int):St:=.d d (.cmp o (.tmp a) (.ci n))
abbrev St.xa(d t:Nat):St:=.d d (.add (.tmp t) (.ci 1))
abbrev St.xe(d t i:Nat):St:=.d d (.ext (.tmp t) i)
abbrev St.xd(d n t:Nat):St:=.d d (.ldn n (.tmp t))
abbrev St.xt(d t:Nat):St:=.d d (.not (.tmp t))
abbrev St.xv(d:Nat)(n:Int):St:=.d d (.mv (.ci n))
abbrev St.xb(d:Nat)(b:Bool):St:=.d d (.mv (.cb b))
abbrev St.xs(d:Nat):St:=.d d (.mv .cn)
abbrev St.xp(d a b:Nat):St:=.d d (.pick (.tmp a) (.tmp b) (.cb false))
abbrev St.xq(d a b:Nat):St:=.d d (.pick (.tmp a) (.cb true) (.tmp b))
abbrev St.yo(d g:Nat)(p:Bool)(k t:Nat):St:=.u d g p (.off k (.tmp t))
abbrev St.yl(d g:Nat)(p:Bool)(t:Nat):St:=.u d g p (.ld (.tmp t))
abbrev St.yi(d g:Nat)(p:Bool)(n a b:Nat):St:=.u d g p (.idx n (.tmp a) (.tmp b))
abbrev St.yn(d g:Nat)(p:Bool)(t:Nat):St:=.u d g p (.len (.tmp t))
abbrev St.ym(d g:Nat)(p:Bool)(t:Nat):St:=.u d g p (.mv (.tmp t))
abbrev St.yk(d g:Nat)(p:Bool)(o:BinOp)(a:Nat)(n:Int):St:=.u d g p (.cmp o (.tmp a) (.ci n))
end Go.TM
namespace Go.TM
variable{T:Type}{P:Program}{S:Sys P T}
def Z6(U:Qa T)(a:Option Addr)(len:Nat)(l:List Int):Prop:=l.length=len/\∀i x,l[i]?=some x->∃b,a=some b/\b.spot=none/\U.sees (b.add (i*1)) (.int .i64 x)
def Q7(U:Qa T)(a:Option Addr)(len n:Nat){α:Type}(l:List α)(R:α->List Value->Prop):Prop:=
 l.length=len/\∀i x,l[i]?=some x->∃b vs,a=some b/\b.spot=none/\R x vs/\vs.length=n/\Je U (b.add (i*n)) vs
def Z6.le{U U':Qa T}{a:Option Addr}{len:Nat}{l:List Int}(h:Z6 U a len l)(hl:U.le U'):Z6 U' a len l:=
 ⟨h.1,λ i x hx=>let ⟨ad,e,hs,hv⟩:=h.2 i x hx;⟨ad,e,hs,hv.le hl⟩⟩
def Q7.le{U U':Qa T}{a:Option Addr}{len n:Nat}{α:Type}{l:List α}{R R':α->List Value->Prop}(h:Q7 U a len n l R)(hl:U.le U')(b:∀x vs,R x vs->R' x vs):Q7 U' a len n l R':=
 ⟨h.1,λ i x hx=>let ⟨ad,vs,e,hs,hr,hn,hv⟩:=h.2 i x hx;⟨ad,vs,e,hs,b _ _ hr,hn,hv.le hl⟩⟩
def Z6.at{U:Qa T}{a:Option Addr}{len:Nat}{l:List Int}(h:Z6 U a len l){i:Nat}(f:i<len):∃b x,l[i]?=some x/\a=some b/\b.spot=none/\U.sees (b.add (i*1)) (.int .i64 x):=by
 have w:i<l.length:=by rw[h.1];exact f
 obtain⟨b,e,z,B⟩:=h.2 i l[i] S1;exact⟨b,l[i],S1,e,z,B⟩
def Q7.at{U:Qa T}{a:Option Addr}{len n:Nat}{α:Type}{l:List α}{R:α->List Value->Prop}(h:Q7 U a len n l R){i:Nat}(f:i<len) :
  ∃b x vs,l[i]?=some x/\a=some b/\b.spot=none/\R x vs/\vs.length=n/\Je U (b.add (i*n)) vs:=by
 have w:i<l.length:=by rw[h.1];exact f
 obtain⟨b,vs,e,E,B,z,F⟩:=h.2 i l[i] S1;exact⟨b,l[i],vs,S1,e,E,B,z,F⟩
def Je.cell{U:Qa T}{a:Addr}{vs:List Value}(h:Je U a vs){i:Nat}{v:Value}(b:vs[i]?=some v):U.sees (a.add i) v:=h i v b
def Zx{U:Qa T}{M':List Qw}(h:M'.Sublist U.M):Qv U { U with M:=M' }:=by
 refine⟨rfl,λ w ok=>⟨⟨ok.imm,λ r b=>ok.held r (h.subset b),ok.apart.sublist h,λ r b=>ok.sep r (h.subset b)⟩,λ l hl=>?_,λ l hl=>?_⟩⟩
 .rw[Q4]at hl ⊢;obtain⟨r,b,hl⟩:=hl;exact⟨r,h.subset b,hl⟩
 .rw[Qx]at hl ⊢;exact hl.imp (λ⟨r,b,hl⟩=>⟨r,h.subset b,hl⟩) id
def Iz{U U':Qa T}{b:Nat}{o:Obj}{M₀:List Qw}(B:WI U')(w:U'.M=.obj b o::M₀)(h:∀x f,U.I x=some f->U'.I x=some f)(z:U.M=M₀)(ht:U'.tok=U.tok) :
  ∃U'',Qv U' U''/\U.le U''/\U''.I b=some o:=by
 refine⟨{ U' with I:=JC U'.I b o,M:=M₀ },Wa (by rw[w]),⟨λ x f hx=>?_,z.symm,ht⟩,by simp[JC]⟩;have hb:U'.I b=none:=B (.obj b o) (by rw[w];simp);show JC U'.I b o x=_;unfold JC;rw[if_neg]
 .exact h x f hx
 .rintro rfl;rw[h _ _ hx]at hb;cases hb
structure Qa.lg(U U':Qa T):Prop where
 imm:∀b o,U.I b=some o->U'.I b=some o
 own:∃A,U'.M=A++U.M
 tok:U'.tok=U.tok
def Qa.le.lg{U U':Qa T}(h:U.le U'):U.lg U':=⟨h.imm,⟨[],h.own⟩,h.tok⟩
def Qa.lg.trans{a b c:Qa T}(h:a.lg b)(k:b.lg c):a.lg c:=
 ⟨λ x o e=>k.imm x o (h.imm x o e),let ⟨A,e⟩:=h.own;let ⟨B,e'⟩:=k.own;⟨B++A,by rw[e',e,append_assoc]⟩,k.tok.trans h.tok⟩
def Z2{U:Qa T}(b:Nat)(o:Obj):U.lg (U.put b o):=⟨λ _ _ h=>h,⟨[.obj b o],rfl⟩,rfl⟩
def Qa.lg.shift{U U':Qa T}(h:U.lg U'):∃U'',Qv U' U''/\U.le U''/\U''.I=U'.I:=by
 obtain⟨A,e⟩:=h.own;exact⟨_,Zx (M':=U.M) (by rw[e];exact sublist_append_right ..),⟨h.imm,rfl,h.tok⟩,rfl⟩
def Qb.go{f:FuncId}{args:Array Value}{U:Qa T}{c:Value}{K:Value->Qa T->Prop}(h:Qb S f args (λ v U'=>v=c/\U'=U) U)(k:K c U):Qb S f args K U:=h.mono λ v U'⟨a,b⟩=>by rw[a,b];exact k
def Qb.pure'{f:FuncId}{args:Array Value}{U:Qa T}{Q:Value->Prop}(h:Qb S f args (λ v U'=>Q v/\U.lg U') U):Qb S f args (λ v U'=>Q v/\U'=U) U:=
 h.post λ _ _⟨q,hl⟩=>let ⟨_,h1,h2,_⟩:=hl.shift;⟨U,h1.trans (Dz h2),q,rfl⟩
def Qa.sees.lg{U U':Qa T}{a:Addr}{v:Value}(h:U.sees a v)(hl:U.lg U'):U'.sees a v:=by
 obtain⟨A,e⟩:=hl.own;obtain⟨b,⟨c,t,fr,hb,f⟩|⟨t,n,hm⟩⟩:=h
 .exact⟨b,.inl ⟨c,t,fr,hb.imp (hl.imm _ _) (λ h=>by rw[e];exact mem_append_right _ h),f⟩⟩
 .exact⟨b,.inr ⟨t,n,by rw[e];exact mem_append_right _ hm⟩⟩
def Je.lg{U U':Qa T}{a:Addr}{vs:List Value}(h:Je U a vs)(hl:U.lg U'):Je U' a vs:=λ i v b=>(h i v b).lg hl
def Zi.lg{U U':Qa T}{b:Nat}{c:Array Value}(h:Zi U b c)(hl:U.lg U'):Zi U' b c:=let ⟨t,fr,h⟩:=h;⟨t,fr,hl.imm _ _ h⟩
def Z6.lg{U U':Qa T}{a:Option Addr}{len:Nat}{l:List Int}(h:Z6 U a len l)(hl:U.lg U'):Z6 U' a len l:=
 ⟨h.1,λ i x hx=>let ⟨ad,e,hs,hv⟩:=h.2 i x hx;⟨ad,e,hs,hv.lg hl⟩⟩
def Q7.lg{U U':Qa T}{a:Option Addr}{len n:Nat}{α:Type}{l:List α}{R R':α->List Value->Prop}(h:Q7 U a len n l R)(hl:U.lg U')(b:∀x vs,R x vs->R' x vs):Q7 U' a len n l R':=
 ⟨h.1,λ i x hx=>let ⟨ad,vs,e,hs,hr,hn,hv⟩:=h.2 i x hx;⟨ad,vs,e,hs,b _ _ hr,hn,hv.lg hl⟩⟩
end Go.TM
namespace Go.TM
variable{T:Type}{P:Program}{S:Sys P T}{f:Fm}{K:Value->Qa T->Prop}{U:Qa T}
def rq{s:Sem Value}(h:Qq P s (λ v U'=>∃b,Qv U' b/\K v b) U):Qq P (do pure (.value (<- s)):Sem Next) (ZG S λ v U'=>∃b,Qv U' b/\K v b) U:=by
 rw[Qd];exact h
def ru{s:Sem Unit}(h:Qq P s (λ _ U'=>∃b,Qv U' b/\K undef b) U):Qq P (do s;pure .skip:Sem Next) (ZG S λ v U'=>∃b,Qv U' b/\K v b) U:=by
 rw[Qd];exact h
def vV{m:Nat}{t e:TypeId}{a:Option Addr}{n c f c0:Nat}(b:P.underlying t=some (.slice e)){Q:Bool->Qa T->Prop}(h:Q a.isNone U):Qq P (Op.equalIn (m+1) t (.slice a n c) (.slice none f c0)) Q U:=by
 rw[Op.equalIn];simp only[Qd,Zb b];cases a <;> exact h
def K0{t e z B:TypeId}{x:Operand}{a:Option Addr}{n c b c0:Nat}(w:P.underlying t=some (.slice e))(hx:Zf f x=.slice a n c)(h:K (.bool a.isNone) U) :
  OX S (.raw { dst:=none,op:=.binOp .eql t x (.const (.slice none b c0)) z,type:=B,pos := "", after:=#[],guard:=none }) f K U:=by
 intro a' ha;simp only[execOp,ha,hx];refine rq ?_;rw[Qd];show Qq P (binOp .eql t (.slice a n c) (.slice none b c0)) _ U;show Qq P (do pure (Value.bool (<- Op.equal t (.slice a n c) (.slice none b c0))):Sem Value) _ U;rw[Qd];exact vV (m:=9999) w ⟨U,.refl _,h⟩
def WT:TypeDesc->Bool
 |.int _|.bool|.string=>true
 |_=>false
def HT:Value->Value->Bool
 |.int _ a,.int _ b=>a==b
 |.bool a,.bool b=>a==b
 |.string a,.string b=>a==b
 |_,_=>false
def X5:TypeDesc->Value->Bool
 |.int k,.int k' _=>decide (k=k')
 |.bool,.bool _=>true
 |.string,.string _=>true
 |_,_=>false
def IJ{d:TypeDesc}{t:TypeId}{m:Nat}(f:P.underlying t=some d)(b:WT d=true){x y:Value}(hx:X5 d x=true)(hy:X5 d y=true)(Q:Bool->Qa T->Prop)(U:Qa T) :
  Qq P (Op.equalIn (m+1) t x y) Q U=Q (HT x y) U:=by
 rw[Op.equalIn];simp only[Qd,Zb f];cases d <;> simp[WT]at b <;> cases x <;> simp[X5]at hx <;> cases y <;> simp[X5]at hy
 .rfl
 .subst hx;subst hy;simp only[if_true];rfl
 .rfl
def Ht(P:Program):List Field->Nat->Bool
 |[],_=>true
 |fd::r,j=>fd.name != "_"&&decide (fd.offset=j)&&(match P.underlying fd.type with|some d=>WT d|none=>false)&&Ht P r (j+1)
def JN(P:Program):List Field->List Value->Bool
 |[],[]=>true
 |fd::r,v::vs=>(match P.underlying fd.type with|some d=>X5 d v|none=>false)&&JN P r vs
 |_,_=>false
def ZF:List Value->List Value->Bool
 |[],[]=>true
 |x::xs,y::ys=>HT x y&&ZF xs ys
 |_,_=>false
theorem Gl{t:TypeId}{d:TypeDesc}{cs:Array Value}{j:Nat}{v:Value}(f:P.underlying t=some d)(b:WT d=true)(h:cs[j]?=some v)(Q:Value->Qa T->Prop)(U:Qa T) :
  Qq P (part t cs j) Q U=Q v U:=by
 have:TypeDesc.agg d=false:=by cases d <;> first|rfl|simp[WT]at b
 simp only[part,Qd,Hq f,this,Bool.false_eq_true,if_false,h];rfl
def Vc{α β:Type}{x:α}{l:List α}{b:β}{g:α->β->Sem (ForInStep β)}{Q:β->Qa T->Prop} :
  Qq P (forIn (x::l) b g) Q U=Qq P (g x b) (λ r U=>match r with|.done b=>Q b U|.yield b=>Qq P (forIn l b g) Q U) U:=by
 rw[forIn_cons,Qd];congr 1;funext r U;cases r <;> rfl
def Da{m:Nat}{xs ys:Array Value}{Q:Option Bool×PUnit->Qa T->Prop}:∀(F:List Field)(j:Nat)(vs ws:List Value),Ht P F j=true->JN P F vs=true->JN P F ws=true ->
  (∀i v,vs[i]?=some v->xs[j+i]?=some v)->(∀i v,ws[i]?=some v->ys[j+i]?=some v)->Q (if ZF vs ws then none else some false,()) U ->
  Qq P (forIn F ((none,()):Option Bool×PUnit) λ fd _=>
   if fd.name ≠ "_" then do
    let a <- part fd.type xs fd.offset
    let b <- part fd.type ys fd.offset
    let c <- Op.equalIn (m+1) fd.type a b
    if(!c)=true then pure (ForInStep.done (some false,()))else pure (ForInStep.yield (none,()))
   else pure (ForInStep.yield (none,()))) Q U
 |[],j,vs,ws,_,f,z,_,_,h=>by
  cases vs <;> cases ws <;> simp[JN]at f z;exact h
 |fd::r,j,vs,ws,hf,f,z,hx,hy,h=>by
  cases vs with
  |nil=>simp[JN]at f
  |cons v vs=>
  cases ws with
  |nil=>simp[JN]at z
  |cons w ws=>
  simp only[Ht,Bool.and_eq_true,decide_eq_true_eq]at hf;obtain⟨⟨⟨h1,h2⟩,B⟩,K⟩:=hf;simp only[JN,Bool.and_eq_true]at f z;cases E:P.underlying fd.type with
  |none=>rw[E]at B;cases B
  |some d=>
   rw[E]at B f z;rw[Vc,if_pos (by simpa using h1)];simp only[Qd,h2];have H:xs[j]?=some v:=by simpa using hx 0 v rfl
   have I:ys[j]?=some w:=by simpa using hy 0 w rfl
   rw[Gl E B H,Gl E B I,IJ E B f.1 z.1];cases hb:HT v w with
   |false=>simpa[hb,ZF,Qi]using h
   |true=>
    simp only[Bool.not_true,Bool.false_eq_true,if_false,Qi];refine Da r (j+1) vs ws K f.2 z.2 (λ i v G=>?_) (λ i v G=>?_) (by simpa[hb,ZF]using h)
    .have:=hx (i+1) v G;rwa [show j+(i+1)=j+1+i by omega]at this
    .have:=hy (i+1) v G;rwa [show j+(i+1)=j+1+i by omega]at this
def Ou{t:TypeId}{b:Array Field}(E:P.underlying t=some (.struct b))(w:P.stoodInHeld t=false)(hf:Ht P b.toList 0=true){vs ws:List Value}(F:JN P b.toList vs=true)(G:JN P b.toList ws=true)
  {Q:Bool->Qa T->Prop} (h:Q (ZF vs ws) U):Qq P (Op.equal t (.agg vs.toArray) (.agg ws.toArray)) Q U:=by
 have z:Op.equal t (.agg vs.toArray) (.agg ws.toArray)=Op.equalIn (9998+1+1) t (.agg vs.toArray) (.agg ws.toArray):=rfl;rw[z,Op.equalIn];simp only[Qd,Zb E,program,Qq,w,Bool.false_eq_true,if_false];obtain⟨B⟩:=b;rw[forIn_toArray];refine Da B 0 vs ws hf F G (λ i v f=>by simpa using f) (λ i v f=>by simpa using f) ?_;cases hb:ZF vs ws <;> simpa[hb,Qi]using h
def Ov{op:BinOp}{t:TypeId}{x y:Operand}{vs ws:Array Value}(b:P.eqGuardType P.depth t=false){Q:Unit->Qa T->Prop}(h:Q () U):Qq P (eqGuard op t x y (.agg vs) (.agg ws)) Q U:=by
 unfold eqGuard
 have key (u:Unsupported):Qq P (do
     if !(<- program).eqGuardType (<- program).depth t then return
     if <- Op.eqGuardIn Op.maxDepth t (.agg vs) (.agg ws)then unsupported u:Sem Unit) Q U:=by
  simp only[Qd,program,Qq,b,Bool.not_false,if_true,Qi];exact h
 cases op <;> first|exact key _|exact h
structure Ga(P:Program)(t:TypeId)(fs:Array Field):Prop where
 u:P.underlying t=some (.struct fs)
 s:P.stoodInHeld t=false
 f:Ht P fs.toList 0=true
 g:P.eqGuardType P.depth t=false
def yd{t B E:TypeId}{b:Array Field}(k:Ga P t b){x y:Operand}{vs ws:List Value}(hx:Zf f x=.agg vs.toArray)(hy:Zf f y=.agg ws.toArray)(w:JN P b.toList vs=true)(z:JN P b.toList ws=true)(h:K (.bool (ZF vs ws)) U) :
  OX S (.raw { dst:=none,op:=.binOp .eql t x y B,type:=E,pos := "", after:=#[],guard:=none }) f K U:=by
 intro a' ha;simp only[execOp,ha,hx,hy];refine rq ?_;rw[Qd];refine Ov k.g ?_;simp only[binOp,Qd];exact Ou k.u k.s k.f w z ⟨U,.refl _,h⟩
def ye{t B E:TypeId}{b:Array Field}(k:Ga P t b){x y:Operand}{vs ws:List Value}(hx:Zf f x=.agg vs.toArray)(hy:Zf f y=.agg ws.toArray)(w:JN P b.toList vs=true)(z:JN P b.toList ws=true)(h:K (.bool (!ZF vs ws)) U) :
  OX S (.raw { dst:=none,op:=.binOp .neq t x y B,type:=E,pos := "", after:=#[],guard:=none }) f K U:=by
 intro a' ha;simp only[execOp,ha,hx,hy];refine rq ?_;rw[Qd];refine Ov k.g ?_;simp only[binOp,Qd];exact Ou k.u k.s k.f w z ⟨U,.refl _,h⟩
def Zo3{w:Array TypeId}{z:TypeId}{x y:Operand}{k:IntKind}{a b:Int}(hx:Zf f x=.int k a)(hy:Zf f y=.int k b)(h:K (.int k (max a b)) U) :
  OX S (.raw { dst:=none,op:=.call { callee:=.builtin .max,args:=#[x,y],argTypes:=w },type:=z,pos := "", after:=#[],guard:=none }) f K U:=by
 intro a' ha;have hm:(#[x,y]:Array Operand).map a'.eval=#[.int k a,.int k b]:=by simp[ha,hx,hy]
 simp only[execOp,resolve,hm,Qd,Qi,invoke,builtin,Builtin.max_,List.foldlM,Builtin.max2];refine⟨U,.refl _,?_⟩;have:(if b > a then b else a)=max a b:=by rw[Int.max_def];split <;> split <;> omega
 rw[this];exact h
def Zo4{w:Array TypeId}{z:TypeId}{x y:Operand}{k:IntKind}{a b:Int}(hx:Zf f x=.int k a)(hy:Zf f y=.int k b)(h:K (.int k (min a b)) U) :
  OX S (.raw { dst:=none,op:=.call { callee:=.builtin .min,args:=#[x,y],argTypes:=w },type:=z,pos := "", after:=#[],guard:=none }) f K U:=by
 intro a' ha;have hm:(#[x,y]:Array Operand).map a'.eval=#[.int k a,.int k b]:=by simp[ha,hx,hy]
 simp only[execOp,resolve,hm,Qd,Qi,invoke,builtin,Builtin.min_,List.foldlM,Builtin.min2];refine⟨U,.refl _,?_⟩;have:(if b<a then b else a)=min a b:=by rw[Int.min_def];split <;> split <;> omega
 rw[this];exact h
def Qs{κ:Type}(enc:κ->Value):List (κ×Value)->Nat->List MapEntry
 |[],_=>[]
 |p::l,i=>⟨enc p.1,p.2,i⟩::Qs enc l (i+1)
def Qt{κ:Type}(enc:κ->Value)(l:List (κ×Value)):Obj:=.map (Qs enc l 0).toArray l.length
def QL{κ:Type}[DecidableEq κ](k:κ):List (κ×Value)->Nat->Option (Nat×Value)
 |[],_=>none
 |p::l,i=>if k=p.1 then some (i,p.2)else QL k l (i+1)
def lk{κ:Type}[DecidableEq κ](k:κ)(l:List (κ×Value)):Option Value:=(QL k l 0).map (·.2)
def ZA{κ:Type}[DecidableEq κ](k:κ)(v:Value):List (κ×Value)->List (κ×Value)
 |[]=>[(k,v)]
 |p::l=>if k=p.1 then(p.1,v)::l else p::ZA k v l
structure WG(T:Type)(P:Program)(kt:TypeId){κ:Type}[DecidableEq κ](enc:κ->Value):Prop where
 chk:∀(e:Bool)(k:κ){Q:Unit->Qa T->Prop}{U:Qa T},Q () U->Qq P (Instr.checkKey e 10000 kt (enc k)) Q U
 find:∀(k:κ)(l:List (κ×Value)){Q:Option (Nat×Value)->Qa T->Prop}{U:Qa T},Q (QL k l 0) U->Qq P (Instr.findKey kt (enc k) (Qs enc l 0)) Q U
 bits:∀k,Instr.sameBits 10000 (enc k) (enc k)=true
def Fb{κ:Type}[DecidableEq κ]{enc:κ->Value}{d:TypeDesc}(h:∀k k',Instr.sameNow d (enc k) (enc k')=some (decide (k=k')))(k:κ):∀(l:List (κ×Value))(i j:Nat),Instr.findNow d (enc k) (Qs enc l j) i=some (QL k l i)
 |[],i,j=>rfl
 |p::l,i,j=>by
  simp only[Qs,Instr.findNow,h,QL];by_cases e:k=p.1
  .simp[e]
  .simp only[e,decide_false,if_false];exact Fb h k l (i+1) (j+1)
def Ec{κ:Type}{enc:κ->Value}{d:TypeDesc}(h:∀k k',Instr.sameNow d (enc k) (enc k')=none)(k:κ)(p:κ×Value)(l:List (κ×Value))(i j:Nat):Instr.findNow d (enc k) (Qs enc (p::l) j) i=none:=by
 simp only[Qs,Instr.findNow,h]
def Oc{κ:Type}[DecidableEq κ]{enc:κ->Value}{f:TypeId}(h:∀k k'{Q:Bool->Qa T->Prop}{U:Qa T},Q (decide (k=k')) U->Qq P (Op.equal f (enc k) (enc k')) Q U)(k:κ) :
  ∀(l:List (κ×Value))(i j:Nat){Q:Option (Nat×Value)->Qa T->Prop}{U:Qa T},Q (QL k l i) U->Qq P (Instr.findAsking f (enc k) (Qs enc l j) i) Q U
 |[],i,j,Q,U,b=>b
 |p::l,i,j,Q,U,b=>by
  simp only[Qs,Instr.findAsking,Qd];refine h k p.1 ?_;by_cases e:k=p.1
  .simpa[e,QL,Qi]using b
  .simp only[e,decide_false,Bool.false_eq_true,if_false];exact Oc h k l (i+1) (j+1) (by simpa[QL,e]using b)
def WG.simple{b:TypeId}{d:TypeDesc}{κ:Type}[DecidableEq κ]{enc:κ->Value}(f:P.underlying b=some d)(w:WT d=true)(z:∀k k',Instr.sameNow d (enc k) (enc k')=some (decide (k=k')))(hb:∀k,Instr.sameBits 10000 (enc k) (enc k)=true):WG T P b enc:=by
 refine⟨λ e k Q U h=>?_,λ k l Q U h=>?_,hb⟩
 .have:∀m,Qq P (Instr.checkKey e (m+1) b (enc k)) Q U:=λ m=>by
   rw[Instr.checkKey];simp only[Qd,Zb f];cases d <;> simp[WT]at w <;> exact h
  exact this 9999
 .unfold Instr.findKey;simp only[Qd,Zb f,Fb z k l 0 0];exact h
def Iq{m:Nat}{e:Bool}{xs:Array Value}{Q:PUnit->Qa T->Prop}:∀(B:List Field)(j:Nat)(vs:List Value),Ht P B j=true->JN P B vs=true->(∀i v,vs[i]?=some v->xs[j+i]?=some v)->Q () U ->
  Qq P (forIn B PUnit.unit λ fd _=>
   if fd.name ≠ "_" then do
    let a <- part fd.type xs fd.offset
    Instr.checkKey e (m+1) fd.type a
    pure (ForInStep.yield PUnit.unit)
   else pure (ForInStep.yield PUnit.unit)) Q U
 |[],_,_,_,_,_,h=>h
 |fd::r,j,vs,hf,z,hx,h=>by
  cases vs with
  |nil=>simp[JN]at z
  |cons v vs=>
  simp only[Ht,Bool.and_eq_true,decide_eq_true_eq]at hf;obtain⟨⟨⟨h1,h2⟩,b⟩,F⟩:=hf;simp only[JN,Bool.and_eq_true]at z;cases w:P.underlying fd.type with
  |none=>rw[w]at b;cases b
  |some d=>
   rw[w]at b z;rw[Vc,if_pos (by simpa using h1)];have E:xs[j]?=some v:=by simpa using hx 0 v rfl
   simp only[Qd,h2];rw[Gl w b E]
   have f:∀Q:Unit->Qa T->Prop,Qq P (Instr.checkKey e (m+1) fd.type v) Q U=Q () U:=λ Q=>by
    rw[Instr.checkKey];simp only[Qd,Zb w];cases d <;> simp[WT]at b <;> rfl
   rw[f];simp only[Qi];refine Iq r (j+1) vs F z.2 (λ i v G=>?_) h;have:=hx (i+1) v G;rwa [show j+(i+1)=j+1+i by omega]at this
def WG.struct{B:TypeId}{z:Array Field}{κ:Type}[DecidableEq κ]{enc:κ->List Value}(w:Ga P B z)(b:∀k,JN P z.toList (enc k)=true)(F:∀k k',ZF (enc k) (enc k')=decide (k=k'))(hb:∀k,Instr.sameBits 10000 (.agg (enc k).toArray) (.agg (enc k).toArray)=true) :
  WG T P B (λ k=>.agg (enc k).toArray):=by
 refine⟨λ e k Q U h=>?_,λ k l Q U h=>?_,hb⟩
 .have:∀m,Qq P (Instr.checkKey e (m+1+1) B (.agg (enc k).toArray)) Q U:=λ m=>by
   rw[Instr.checkKey];simp only[Qd,Zb w.u];obtain⟨E⟩:=z;rw[forIn_toArray];exact Iq E 0 (enc k) w.f (b k) (λ i v G=>by simpa using G) h
  exact this 9998
 .unfold Instr.findKey;simp only[Qd,Zb w.u];cases l with
  |nil=>exact h
  |cons p l=>
   rw[Ec (enc:=λ k=>Value.agg (enc k).toArray) (λ _ _=>rfl)];exact Oc (λ k k' Q U H=>Ou w.u w.s w.f (b k) (b k') (by rw[F];exact H)) k (p::l) 0 0 h
def P1{κ:Type}(enc:κ->Value){t w:TypeId}(h:∀b,U.free b->K (.map (some b)) (U.put b (Qt enc []))) :
  OX S (.raw { dst:=none,op:=.makeMap t none,type:=w,pos := "", after:=#[],guard:=none }) f K U:=by
 intro a' ha;simp only[execOp];refine rq ?_;simp only[Instr.makeMap,Qd,newObj,Qq,Qi,Option.map_none];exact λ b hb=>⟨_,.refl _,h b hb⟩
def Ih{κ:Type}[DecidableEq κ]{enc:κ->Value}{t B E:TypeId}{z:Value}{b:Nat}{l:List (κ×Value)}{k:κ}{ok:Bool}(w:WG T P B enc)(G:P.underlying t=some (.map B E))(H:Xa P E=some z)
  (hm:U.has b (Qt enc l)) {Q:Value->Qa T->Prop} (h:Q (if ok then .tuple #[(lk k l).getD z,.bool (lk k l).isSome]else(lk k l).getD z) U):Qq P (Instr.lookup t (.map (some b)) (enc k) ok) Q U:=by
 obtain⟨I,F,f⟩:=P2 H;unfold Instr.lookup;simp only[Qd,Zb G,getObj];refine⟨_,hm,rfl,rfl,?_⟩;simp only[Qq,Qt,Qi,Qd];refine w.chk _ _ ?_;refine w.find k l ?_;unfold lk at h;cases e:QL k l 0 with
 |none=>simp only[e,Option.map_none,Option.getD_none,Option.isSome_none]at h;simp only[Qd,X7 F f,Qi];exact h
 |some p=>simp only[e,Option.map_some,Option.getD_some,Option.isSome_some]at h;simp only[Qi];exact h
def Of{κ:Type}[DecidableEq κ]{enc:κ->Value}{t w B H:TypeId}{z:Value}{b:Nat}{l:List (κ×Value)}{k:κ}{x y:Operand}(E:WG T P w enc)(F:P.underlying t=some (.map w B))(G:Xa P B=some z)
  (hx:Zf f x=.map (some b)) (hy:Zf f y=enc k) (hm:U.has b (Qt enc l)) (h:K ((lk k l).getD z) U) :
  OX S (.raw { dst:=none,op:=.lookup t x y false,type:=H,pos := "", after:=#[],guard:=none }) f K U:=by
 intro a' ha;simp only[execOp,ha,hx,hy];exact rq (Ih E F G hm ⟨U,.refl _,h⟩)
def YU{κ:Type}[DecidableEq κ]{enc:κ->Value}{t w B H:TypeId}{z:Value}{b:Nat}{l:List (κ×Value)}{k:κ}{x y:Operand}(E:WG T P w enc)(F:P.underlying t=some (.map w B))(G:Xa P B=some z)
  (hx:Zf f x=.map (some b)) (hy:Zf f y=enc k) (hm:U.has b (Qt enc l)) (h:K (.tuple #[(lk k l).getD z,.bool (lk k l).isSome]) U) :
  OX S (.raw { dst:=none,op:=.lookup t x y true,type:=H,pos := "", after:=#[],guard:=none }) f K U:=by
 intro a' ha;simp only[execOp,ha,hx,hy];exact rq (Ih E F G hm ⟨U,.refl _,h⟩)
def Ea{κ:Type}(enc:κ->Value):∀(l:List (κ×Value))(i:Nat),(Qs enc l i).length=l.length
 |[],_=>rfl
 |_::l,i=>by simp[Qs,Ea enc l]
def YE{κ:Type}(enc:κ->Value):∀(l l':List (κ×Value))(i:Nat),Qs enc (l++l') i=Qs enc l i++Qs enc l' (i+l.length)
 |[],l',i=>by simp[Qs]
 |p::l,l',i=>by simp[Qs,YE enc l l' (i+1)];congr 1;omega
def Sq{κ:Type}[DecidableEq κ]{k:κ}{v:Value}:∀{l:List (κ×Value)}{i:Nat},QL k l i=none->ZA k v l=l++[(k,v)]
 |[],_,_=>rfl
 |p::l,i,h=>by
  simp only[QL]at h;split at h
  .cases h
  .rename_i e;simp only[ZA,if_neg e,cons_append,Sq h]
def Ld{κ:Type}[DecidableEq κ]{enc:κ->Value}{k:κ}{v:Value}:∀{l:List (κ×Value)}{i j n:Nat}{x:Value},QL k l i=some (n,x)->i<=n/\(∃e,(Qs enc l j)[n-i]?=some e/\e.key=enc k) /\
   (Qs enc l j).modify (n-i) (λ e=>{ e with key:=enc k,val:=v })=Qs enc (ZA k v l) j/\(ZA k v l).length=l.length
 |[],_,_,_,_,h=>by cases h
 |p::l,i,j,n,x,h=>by
  simp only[QL]at h;split at h
  .rename_i e;cases h;refine⟨Nat.le_refl _,?_,?_,?_⟩
   .simp[Qs,e]
   .simp[Qs,ZA,e]
   .simp[ZA,e]
  .rename_i e;obtain⟨h1,⟨x,h2,b⟩,w,z⟩:=Ld (enc:=enc) (v:=v) (j:=j+1) h;have f:n-i=(n-(i+1))+1:=O1
   refine⟨O1,?_,?_,by simp[ZA,e,z]⟩
   .rw[f];exact⟨x,by simpa[Qs]using h2,b⟩
   .rw[f];simp only[Qs,ZA,if_neg e,modify_succ_cons,w]
def YF{κ:Type}[DecidableEq κ]{enc:κ->Value}{t G X W:TypeId}{b:Nat}{l:List (κ×Value)}{k:κ}{v:Value}{x y u:Operand}{M':List Qw}(E:WG T P G enc)(Q:P.underlying t=some (.map G X))
  (hx:Zf f x=.map (some b)) (hy:Zf f y=enc k) (V:Zf f u=v) (hm:J0 b (Qt enc (ZA k v l)) (Qt enc l) U.M M') (h:K undef { U with M:=M' }) :
  OX S (.raw { dst:=none,op:=.mapUpdate t x y u,type:=W,pos := "", after:=#[],guard:=none }) f K U:=by
 intro a' ha;simp only[execOp,ha,hx,hy,V];refine ru ?_;unfold Instr.mapUpdate;simp only[Qd,Zb Q,getObj];refine⟨_,.inr hm.mem,rfl,rfl,?_⟩;simp only[Qq,Qt,Qi,Qd];refine E.chk _ _ ?_;refine E.find k l ?_;cases e:QL k l 0 with
 |none=>
  have F:=Sq (v:=v) e;simp only[setObj,Qq];refine⟨Qt enc l,M',?_,rfl,rfl,rfl,⟨_,.refl _,h⟩⟩
  have:Obj.map ((Qs enc l 0).toArray.push { key:=enc k,val:=v,born:=l.length }) (l.length+1)=Qt enc (ZA k v l):=by
   rw[F];simp only[Qt,length_append,length_cons,length_nil,YE,Qs,Nat.zero_add];congr 1;apply Array.ext';simp
  rw[this];exact hm
 |some p=>
  obtain⟨n,w⟩:=p;obtain⟨h1,⟨H,h2,B⟩,I,L⟩:=Ld (enc:=enc) (v:=v) (j:=0) e
  have N:(((Qs enc l 0).toArray[n]?).map (·.key)).getD (enc k)=enc k:=by
   have:(Qs enc l 0).toArray[n]?=some H:=by simpa using h2
   rw[this];exact B
  simp only[Qd,Instr.keyThatStays,N,E.bits,if_true,Qi,setObj,Qq];refine⟨Qt enc l,M',?_,rfl,rfl,rfl,⟨_,.refl _,h⟩⟩
  have:Obj.map ((Qs enc l 0).toArray.modify n λ e=>{ e with key:=enc k,val:=v }) l.length=Qt enc (ZA k v l):=by
   simp only[Qt,L];congr 1;apply Array.ext';have z:=I;rw[Nat.sub_zero]at z;simpa using z
  rw[this];exact hm
def H5{b off:Nat}{e:TypeId}{M₀:List Qw}{Q:Qa T->Prop}:∀(vs:List Value)(i:Nat)(c:Array Value)(U:Qa T),U.M=.obj b (.cells c e (0,0))::M₀->(∀v∈vs,v.single=true)->off+i+vs.length<=c.size ->
  Q { U with M:=.obj b (.cells (ZT c off vs i) e (0,0))::M₀ }->QX ⟨b,off,none⟩ vs i Q U
 |[],i,c,U,f,_,_,h=>by
  have:U={ U with M:=.obj b (.cells c e (0,0))::M₀ }:=by rw[<- f]
  show Q U;rw[this];exact h
 |v::vs,i,c,U,f,w,hb,h=>by
  simp only[length_cons]at hb;refine⟨w v (mem_cons_self ..),.obj b (.cells (c.setIfInBounds (off+i) v) e (0,0))::M₀,?_,?_⟩
  .rw[f,Qo];exact .obj (a:=⟨b,off+i,none⟩) rfl (by show off+i<c.size;omega)
  .exact H5 vs (i+1) _ _ rfl (λ v z=>w v (mem_cons_of_mem _ z)) S3 h
def Pj{vs:List Value}{c:Array Value}(h:c.size=vs.length):ZT c 0 vs 0=vs.toArray:=by
 apply Array.ext
 .rw[VG];simpa using h
 .intro i h1 h2;have b:i<vs.length:=by simpa using h2
  have:=Pk vs c 0 0 i O1;rw[if_pos O1]at this;simp only[Nat.zero_add,Nat.sub_zero]at this;rw[Array.getElem?_eq_getElem h1,getElem?_eq_getElem b]at this;simpa using Option.some.inj this
def Zv{b:Nat}{c:Array Value}{t:TypeId}{vs:List Value}{Q:Qa T->Prop}(hf:U.free b)(w:c.size=vs.length)(z:∀v∈vs,v.single=true)(h:∀f,U.le f->Zi f b vs.toArray->Q f) :
  QX ⟨b,0,none⟩ vs 0 (λ U'=>∃f,Qv U' f/\Q f) (U.put b (.cells c t)):=by
 refine H5 vs 0 c _ rfl z O1 ?_;rw[Pj w];exact⟨_,Wa (b:=b) (M':=U.M) (Perm.refl _),h _ (Gt hf) Zi.new⟩
def Acc(e:TypeId)(n:Nat)(v:Value)(cs:List Value)(M M₀:List Qw):Prop:=
 (v=.slice none 0 0/\cs=[]/\M=M₀) \/
 (∃(b:Nat)(c:Array Value)(len cap:Nat),v=.slice (some ⟨b,0,none⟩) len cap/\cs.length=len*n/\len<=cap/\c.size=cap*n/\M=.obj b (.cells c e (0,0))::M₀/\∀(i:Nat)(x:Value),cs[i]?=some x->c[i]?=some x)
def Ye:Value->Bool
 |.slice none _ _=>true
 |_=>false
def Acc.nil{e:TypeId}{n:Nat}{M₀:List Qw}:Acc e n (.slice none 0 0) [] M₀ M₀:=.inl ⟨rfl,rfl,rfl⟩
def Acc.empty{e:TypeId}{n b:Nat}{M₀:List Qw}:Acc e n (.slice (some ⟨b,0,none⟩) 0 0) [] (.obj b (.cells #[] e (0,0))::M₀) M₀:=
 .inr ⟨b,#[],0,0,rfl,S1,Nat.le_refl _,S1,rfl,λ i x h=>by simp at h⟩
def Iy(b:Nat):∀(r c:Nat),Builtin.growBy b r c<=max c (b+(b+768) / 4)
 |0,c=>by simp[Builtin.growBy];omega
 |r+1,c=>by
  simp only[Builtin.growBy];split
  .omega
  .have:=Iy b r (c+(c+768) / 4);omega
def QF{need old:Nat}(h:old<need):Builtin.nextslicecap need old<=2*need+192:=by
 unfold Builtin.nextslicecap;split
 .omega
 .split
  .omega
  .have:=Iy need 4 old;omega
def Src(U:Qa T)(a:Option Addr)(cs:List Value):Prop:=(a=none/\cs=[])\/∃b,a=some b/\Je U b cs
def XP{U:Qa T}{a:Option Addr}{l c n:Nat}{cs:List Value}(h:Src U a cs)(hl:cs.length=l*n){Q:Array Value->Qa T->Prop}(b:Q cs.toArray U):Qq P (Builtin.firstCells n l (.slice a l c)) Q U:=by
 rcases h with⟨rfl,rfl⟩|⟨w,rfl,f⟩
 .exact b
 .simp only[Builtin.firstCells];rw[<- hl];exact f.cells b
def PT{k:Nat}{Q:Unit->Qa T->Prop}(h:Q () U):Qq P (askRoom k) Q U:=by
 unfold askRoom;split
 .exact⟨rfl,h⟩
 .exact h
def Fo{b:Nat}{c:Array Value}{e:TypeId}{M₀:List Qw}{cs:List Value}(f:U.M=.obj b (.cells c e (0,0))::M₀)(h:∀(i:Nat)(x:Value),cs[i]?=some x->c[i]?=some x):Je U ⟨b,0,none⟩ cs:=by
 intro i v w;rw[Qo];exact⟨rfl,.inl ⟨c,e,(0,0),.inr (by rw[f];simp),by simpa using h i v w⟩⟩
def Acc.src{e n:Nat}{v:Value}{cs:List Value}{M₀:List Qw}(h:Acc e n v cs U.M M₀):∃a l c,v=.slice a l c/\cs.length=l*n/\Src U a cs:=by
 rcases h with⟨rfl,rfl,f⟩|⟨b,c,len,cap,rfl,h1,h2,z,f,w⟩
 .exact⟨_,_,_,rfl,S1,.inl ⟨rfl,rfl⟩⟩
 .exact⟨_,_,_,rfl,h1,.inr ⟨_,rfl,Fo f w⟩⟩
def jb{t t2 e e2 n ty:Nat}{z v:Value}{B:TypeInfo}{x y:Operand}{Z:Option Addr}{yl yc:Nat}{cs new:List Value}{M₀:List Qw}
  (hu:P.underlying t=some (.slice e)) (ah:P.underlying t2=some (.slice e2)) (E:P.info? e=some B) (ag:B.size=n) (hz:B.zero=some z) (ai:z.cells.size=n) (T:B.bytes≠0/\B.bytes<=1024)
  (hx:Zf f x=v) (hy:Zf f y=.slice Z yl yc) (ha:Acc e n v cs U.M M₀) (N:Src U Z new) (hl:new.length=yl*n) (hn:0<n) (Q:∀w∈new,w.single=true) (aj:cs.length+new.length<=1048576)
  (h:∀v' M',Acc e n v' (cs++new) M' M₀->Ye v'=(Ye v&&new.isEmpty)->K v' { U with M:=M' }) :
  OX S (.raw { dst:=none,op:=.call { callee:=.builtin .append,args:=#[x,y],argTypes:=#[t,t2] },type:=ty,pos := "", after:=#[],guard:=none }) f K U:=by
 intro a' ad;obtain⟨sa,sl,sc,I,H,af⟩:=ha.src;have hm:(#[x,y]:Array Operand).map a'.eval=#[.slice sa sl sc,.slice Z yl yc]:=by simp[ad,hx,hy,I]
 simp only[execOp,resolve,hm,Qd,Qi,invoke,builtin];show Qq P (Builtin.append_ #[t,t2] ty #[.slice sa sl sc,.slice Z yl yc]) _ U;unfold Builtin.append_;simp only[getElem?_toArray,getElem?_cons_zero,getElem?_cons_succ,Qd,Zb hu,Zb ah,Jd E,ag,Qi,Bool.false_eq_true,if_false,Builtin.lenOf,We E,false_or,Bool.not_false,if_true];have al:sl<=cs.length:=by rw[H];exact Nat.le_mul_of_pos_right _ hn
 have am:yl<=new.length:=by rw[hl];exact Nat.le_mul_of_pos_right _ hn
 have L:(cs++new).length=(sl+yl)*n:=by rw[length_append,H,hl,Nat.add_mul]
 split
 .rename_i hle;rw[Qd];refine XP N hl ?_;rcases ha with⟨rfl,rfl,G⟩|⟨b,c,len,cap,rfl,h1,h2,X,G,h4⟩
  .cases I;have:yl=0:=O1
   subst this;have W:new=[]:=by simpa using hl
   subst W;refine⟨U,.refl _,?_⟩;have:=h (.slice none 0 0) U.M (.inl ⟨rfl,rfl,G⟩) rfl;exact this
  .cases I;simp only[Qd];refine Ww _ _ _ ?_;rw[Qo]
   have F:0+sl*n+0+new.length<=c.size:=by
    have:(sl+yl)*n<=sc*n:=Nat.mul_le_mul_right n hle;rw[Nat.add_mul]at this;rw[X,hl];omega
   refine H5 _ _ c U G Q F ?_;refine⟨_,.refl _,h _ _ (.inr ⟨b,_,sl+yl,sc,rfl,L,hle,by rw[VG];exact X,rfl,λ i x E=>?_⟩) rfl⟩;rw[Pk _ _ _ _ _ F];simp only[getElem?_append]at E;split at E
   .rename_i ae;rw[if_neg O1];exact h4 i x E
   .rename_i hge;have ae:=(List.getElem?_eq_some_iff.1 E).1;rw[if_pos O1];rw[show i-(0+sl*n+0)=i-cs.length by omega];exact E
 .rename_i hgt;have ab:¬(((sl+yl:Nat):Int) > IntKind.i64.max/\B.bytes=0):=λ h=>T.1 h.2
  have ac:¬(Builtin.nextslicecap (sl+yl) sc*B.bytes > 2^48):=by
   have:=QF (need:=sl+yl) (old:=sc) O1;have h2:Builtin.nextslicecap (sl+yl) sc*B.bytes<=(2*(sl+yl)+192)*1024:=Nat.mul_le_mul this T.2;have aa:(2:Nat)^48=281474976710656:=D1
   rw[aa];omega
  simp only[We E,Qd];rw[if_neg ab];simp only[We E,Qd];rw[if_neg ac];simp only[choose,Qd];show ∀Y,Qq P _ _ U;intro Y;show Qq P (typeInfo e) _ U;rw[We E];refine PT ?_;refine XP af H ?_;refine XP N hl ?_;simp only[X7 E hz];refine Jh λ b' ak=>?_;have V:sl+yl<=Question.cut (.appendCap (sl+yl) sc e) Y:=by simp only[Question.cut];omega
  refine⟨_,Zx (M':=.obj b' (.cells (cs.toArray++new.toArray++Builtin.zeroCells z.cells (Question.cut (.appendCap (sl+yl) sc e) Y-(sl+yl))) e)::M₀) ?_,?_⟩
  .show Sublist _ (.obj b' _::U.M);refine Sublist.cons_cons _ ?_;rcases ha with⟨rfl,rfl,G⟩|⟨b,c,len,cap,rfl,h1,h2,X,G,h4⟩
   .rw[G];exact Sublist.refl _
   .rw[G];exact sublist_cons_self _ _
  .refine h _ _ (.inr ⟨b',_,sl+yl,Question.cut (.appendCap (sl+yl) sc e) Y,rfl,L,V,?_,rfl,λ i x E=>?_⟩) ?_
   .simp only[Array.size_append,size_toArray,H,hl,Builtin.zeroCells,Array.size_map,Array.size_range,ai];rw[<- Nat.add_mul,<- Nat.add_mul];congr 1;omega
   .have:(cs.toArray++new.toArray)=(cs++new).toArray:=S1
    rw[this,Array.getElem?_append_left (by simpa using(List.getElem?_eq_some_iff.1 E).1)];simpa using E
   .rcases ha with⟨rfl,rfl,G⟩|⟨b,c,len,cap,rfl,h1,h2,X,G,h4⟩
    .cases I;have:new≠[]:=by rintro rfl;simp at hl;omega
     cases new with
     |nil=>exact absurd rfl this
     |cons=>rfl
    .rfl
def M4(P:Program)(t e n:Nat):Bool:=
 (match P.underlying t with|some (.slice e')=>decide (e'=e)|_=>false)&&(match P.info? e with
  |some b=>decide (b.size=n)&&(match b.zero with|some z=>decide (z.cells.size=n)|none=>false)&&decide (b.bytes≠0)&&decide (b.bytes<=1024)
  |none=>false)&&decide (0<n)
structure X6(P:Program)(t e n:Nat):Prop where
 u:P.underlying t=some (.slice e)
 i:∃inf z,P.info? e=some inf/\inf.size=n/\inf.zero=some z/\z.cells.size=n/\inf.bytes≠0/\inf.bytes<=1024
 n:0<n
def X6.of{t e n:Nat}(h:M4 P t e n=true):X6 P t e n:=by
 unfold M4 at h;simp only[Bool.and_eq_true,decide_eq_true_eq]at h;obtain⟨⟨h1,h2⟩,f⟩:=h;refine⟨?_,?_,f⟩
 .split at h1
  .rename_i e' hu;simp only[decide_eq_true_eq]at h1;subst h1;exact hu
  .cases h1
 .split at h2
  .rename_i inf hi;simp only[Bool.and_eq_true,decide_eq_true_eq]at h2;obtain⟨⟨⟨a,b⟩,c⟩,d⟩:=h2;split at b
   .rename_i z hz;simp only[decide_eq_true_eq]at b;exact⟨inf,z,hi,a,hz,b,c,d⟩
   .cases b
  .cases h2
def Wn{t e n Q:Nat}{v:Value}{x y:Operand}{G:Option Addr}{yl T:Nat}{cs new:List Value}{M₀:List Qw}(k:X6 P t e n)
  (hx:Zf f x=v) (hy:Zf f y=.slice G yl T) (ha:Acc e n v cs U.M M₀) (E:Src U G new) (hl:new.length=yl*n) (b:∀w∈new,w.single=true) (B:cs.length+new.length<=1048576)
  (h:∀F M',Acc e n F (cs++new) M' M₀->Ye F=(Ye v&&new.isEmpty)->K F { U with M:=M' }) :
  OX S (.raw { dst:=none,op:=.call { callee:=.builtin .append,args:=#[x,y],argTypes:=#[t,t] },type:=Q,pos := "", after:=#[],guard:=none }) f K U:=by
 obtain⟨N,z,h1,h2,H,I,h5,L⟩:=k.i;exact jb k.u k.u h1 h2 H I ⟨h5,L⟩ hx hy ha E hl k.n b B h
def Yu(P:Program)(t:TypeId):Array Field:=match P.underlying t with|some (.struct b)=>b|_=>#[]
def Ln(P:Program)(t:TypeId):Bool:=
 (match P.underlying t with|some (.struct _)=>true|_=>false)&&!P.stoodInHeld t&&Ht P (Yu P t).toList 0&&!P.eqGuardType P.depth t
def Ga.of{t:TypeId}(h:Ln P t=true):Ga P t (Yu P t):=by
 unfold Ln at h;simp only[Bool.and_eq_true,Bool.not_eq_true']at h;obtain⟨⟨⟨h1,h2⟩,b⟩,f⟩:=h;refine⟨?_,h2,b,f⟩;unfold Yu;split at h1
 .rename_i fs hu;rw[hu]
 .cases h1
def jt{z:Value}{n k:Nat}(b:z.cells.size=n):(Builtin.zeroCells z.cells k).toList.length=k*n:=by
 simp[Builtin.zeroCells,b]
def Zke{z:Value}(b:z.cells=#[z])(k:Nat):(Builtin.zeroCells z.cells k).toList=replicate k z:=by
 apply ext_getElem
 .simp[Builtin.zeroCells,b]
 .intro i h1 h2;simp[Builtin.zeroCells,b,Nat.mod_one]
def Zny{t e n I b off cap len:Nat}{z:Value}{E:TypeInfo}{x:Operand}{c:Array Value}{M₀:List Qw}(T:P.underlying t=some (.slice e))(Q:P.info? e=some E)(V:E.zero=some z)(G:z.cells.size=n)
  (B:∀w∈(Builtin.zeroCells z.cells len).toList,w.single=true)
  (hx:Zf f x=.slice (some ⟨b,off,none⟩) len cap) (H:U.M=.obj b (.cells c e (0,0))::M₀) (hb:off+len*n<=c.size) (h:K undef { U with M:=.obj b (.cells (ZT c off (Builtin.zeroCells z.cells len).toList 0) e (0,0))::M₀ }) :
  OX S (.raw { dst:=none,op:=.call { callee:=.builtin .clear,args:=#[x],argTypes:=#[t] },type:=I,pos := "", after:=#[],guard:=none }) f K U:=by
 intro a' F;have hm:(#[x]:Array Operand).map a'.eval=#[.slice (some ⟨b,off,none⟩) len cap]:=by simp[F,hx]
 simp only[execOp,resolve,hm,Qd,Qi,invoke,builtin];show Qq P (Builtin.clear_ #[t] I #[.slice (some ⟨b,off,none⟩) len cap]) _ U;unfold Builtin.clear_;simp only[getElem?_toArray,getElem?_cons_zero,Qd,Zb T];cases len with
 |zero=>
  refine⟨U,.refl _,?_⟩;have L:(Builtin.zeroCells z.cells 0).toList=[]:=by simp[Builtin.zeroCells]
  rw[L]at h;have N:U={ U with M:=.obj b (.cells (ZT c off [] 0) e (0,0))::M₀ }:=by simp only[ZT];rw[<- H]
  rw[N];exact h
 |succ len=>
  show Qq P (do storeCells ⟨b,off,none⟩ (Builtin.zeroCells (<- zeroValue e).cells (len+1)).toList;pure (Value.tuple #[]):Sem Value) _ U;rw[Qd,X7 Q V,Qd];refine Ww _ _ _ (H5 _ _ c U H B (by rw[jt G];omega) ?_);exact⟨_,.refl _,h⟩
def Ed{t e Z n:Nat}{z:Value}{w:TypeInfo}{x y:Operand}(W:P.underlying t=some (.slice e))(G:P.info? e=some w)(Y:w.zero=some z)(M:z.cells=#[z])(L:w.size=1)(F:w.bytes<=64)
  (hx:Zf f x=.int .i64 n) (hy:Zf f y=.int .i64 n) (V:n<=1048576) (h:∀b,U.free b->K (.slice (some ⟨b,0,none⟩) n n) (U.put b (.cells (replicate n z).toArray e))) :
  OX S (.raw { dst:=none,op:=.makeSlice t x y,type:=Z,pos := "", after:=#[],guard:=none }) f K U:=by
 intro a' ha;simp only[execOp,ha,hx,hy];refine rq ?_;unfold Instr.makeSlice;have X:IntKind.wrap .i64 (n:Int)=n:=Gh I1;simp only[Qd,Zb W,asInt,asIntOf,Qi,We G,X]
 have T:(w.bytes:Int)*(n:Int)<=67108864:=by
  have:=Nat.mul_le_mul F V;have e:((w.bytes*n:Nat):Int)=(w.bytes:Int)*n:=S1
  omega
 have E:(2:Int)^48=281474976710656:=D1
 have I:(((decide ((n:Int)<0)|| decide ((w.bytes:Int)*(n:Int) > 2^48))|| decide ((n:Int)<0))|| decide ((n:Int) > n))=false:=by
  rw[E];simp only[Bool.or_eq_false_iff,decide_eq_false_iff_not];omega
 simp only[I,Bool.false_eq_true,if_false];rw[Qd];refine PT ?_;simp only[Qd,Jd G,L,Nat.mul_one,Int.toNat_natCast]
 have fin:∀c:Array Value,(n≠0->c=z.cells)->Qq P (newRow e ((Array.range n).map (c[· % c.size]!))) (λ a U'=>∃N,Qv U' N/\K (.slice (some a) n n) N) U:=by
  intro c Q;refine Jh λ b hb=>⟨_,.refl _,?_⟩
  have:(Array.range n).map (c[· % c.size]!)=(replicate n z).toArray:=by
   apply Array.ext
   .simp
   .intro i h1 h2;have H:n≠0:=by simp at h1;omega
    have B:=Q H;rw[M]at B;subst B;simp[Nat.mod_one]
  rw[this];exact h b hb
 split
 .rename_i h0;exact fin #[] λ h=>absurd h0 h
 .simp only[Qd,X7 G Y];exact fin _ λ _=>rfl
def gf{t F e L:Nat}{s:ByteArray}{x:Operand}(G:P.underlying t=some .string)(z:P.underlying F=some (.slice e))(B:P.underlying e=some (.int .u8))(hx:Zf f x=.string s)
  (h:∀b cap(c:Array Value)fr,U.free b->(∀(i:Nat)u,s.data[i]?=some u->c[i]?=some (.int .u8 u.toNat))->K (.slice (some ⟨b,0,none⟩) s.size cap) { U with I:=JC U.I b (.cells c e fr) }) :
  OX S (.raw { dst:=none,op:=.convert t F x,type:=L,pos := "", after:=#[],guard:=none }) f K U:=by
 intro a' ha;simp only[execOp,ha,hx];refine rq ?_;unfold convert;simp only[Qd,Zb G,Zb z,Zb B,Conv.stringToBytes,choose];show ∀H,Qq P _ _ U;intro H;simp only[Qi,Qq];refine Jh λ b hb=>?_;unfold markStringish;simp only[Qd,shape];refine⟨_,.inr (mem_cons_self ..),?_⟩;simp only[Obj.shapeOf,Qq,freeze];refine⟨D1,_,_,_,rfl,?_⟩;refine⟨_,Wa (b:=b) (M':=U.M) (Perm.refl _),?_⟩;refine h b _ _ _ hb λ i u E=>?_;have w:=(Array.getElem?_eq_some_iff.1 E).1;rw[Array.getElem?_append_left (by simpa using w)];simp[E]
end Go.TM
namespace Go.TM
variable{T:Type}{P:Program}{S:Sys P T}{f:Fm}{U:Qa T}
def oi(t:Tmp)(b:Fm->List Value->Fm)(f:Fm):List Value->Fm
 |[]=>f
 |v::vs=>b (JG f t v) vs
def HS(f:Fm):List Tmp->List Value->Fm
 |[],_=>f
 |t::ts,vs=>oi t (λ f vs=>HS f ts vs) f vs
def Lb{N:Nat}:∀(ts:List Tmp)(vs:List Value)(tmps:Array Value)(f:Fm),(∀t∈ts,t<N)->FR N ⟨tmps,[]⟩ f []->FR N ⟨(ts.zip vs).foldl (λ tmps p=>tmps.setIfInBounds p.1 p.2) tmps,[]⟩ (HS f ts vs) []
 |[],_,_,_,_,h=>h
 |t::ts,[],_,_,_,h=>h
 |t::ts,v::vs,tmps,f,b,h=>by
  simp only[zip_cons_cons,foldl_cons];show FR N _ (HS (JG f t v) ts vs) [];exact Lb ts vs _ _ (λ t ht=>b t (mem_cons_of_mem _ ht)) (h.put (some t) v λ d w=>by cases w;exact b t (mem_cons_self ..))
def Ut(l:Nat)(lo:LoopState->Option Code->Obj)(K:Value->Qa T->Prop)(j:Option Code)(U:Qa T):Prop:=
 ∃M',J0 l (lo (if j.isNone then .ready else .done) j) (lo .busy none) U.M M'/\K (.bool j.isNone) { U with M:=M' }
def yD(l:Nat)(lo:LoopState->Option Code->Obj)(n:Qa T->Prop)(x:Nat->Qa T->Prop)(r:Qa T->Prop)(U:Qa T):Prop:=
 ∃st j M',st≠.busy/\J0 l (lo .exhausted j) (lo st j) U.M M'/\(match j with|none=>n { U with M:=M' }|some (.exit i)=>x i { U with M:=M' }|some .ret=>r { U with M:=M' }|_=>False)
def Lv(S:Sys P T)(fn:FuncId)(params:Array Tmp)(as B:C)(l:Nat)(lo:LoopState->Option Code->Obj)(f:Fm):Prop:=
 ∀(vs:List Value)(K:Value->Qa T->Prop)(U:Qa T),vs.length=params.size->Qw.obj l (lo .ready none)∈U.M ->
  ZY S fn (some l) as (λ w h z=>h=[]/\∃M₁,J0 l (lo .busy none) (lo .ready none) z.M M₁ /\
   ZY S fn (some l) B (λ _ _ b=>Ut l lo K none b) (λ i _ _ b=>Ut l lo K (some (.exit i)) b) (λ _ _ b=>Ut l lo K (some .ret) b) w [] { z with M:=M₁ })
   (λ _ _ _ _=>False) (λ _ _ _=>False) (HS f params.toList vs) [] U->Zm S l vs K U
def VJ{l:Nat}{r:Loop}{Q:Loop->Qa T->Prop}(hm:Qw.obj l (.loop r)∈U.M)(h:Q r U):Qq P (Instr.getLoop l) Q U:=by
 unfold Instr.getLoop;rw[Qd];exact⟨.loop r,.inr hm,rfl,rfl,h⟩
def zs{l:Nat}{r:Loop}{M':List Qw}{Q:Unit->Qa T->Prop}(b:r.state=.ready)(f:J0 l (.loop { r with state:=.busy }) (.loop r) U.M M')(h:Q () { U with M:=M' }):Qq P (Instr.beginRound l) Q U:=by
 unfold Instr.beginRound;rw[Qd];refine VJ f.mem ?_;simp only[Qd,setObj,Qq];refine⟨_,M',f,rfl,rfl,rfl,?_⟩;rw[b];exact h
def YW{l:Nat}{r:Loop}{M':List Qw}{j:Option Code}{Q:Value->Qa T->Prop}(b:J0 l (.loop { r with state:=if j.isNone then .ready else .done,pending:=j }) (.loop r) U.M M')(h:Q (.bool j.isNone) { U with M:=M' }):Qq P (Instr.endRound l j) Q U:=by
 unfold Instr.endRound;rw[Qd];refine VJ b.mem ?_;simp only[Qd,setObj,Qq];exact⟨_,M',b,rfl,rfl,rfl,h⟩
def jh{l:Nat}{r:Loop}{M':List Qw}{Q:Option Code->Qa T->Prop}(b:r.state≠.busy)(f:J0 l (.loop { r with state:=.exhausted }) (.loop r) U.M M')(h:Q r.pending { U with M:=M' }):Qq P (Instr.endLoop l) Q U:=by
 unfold Instr.endLoop;rw[Qd];refine VJ f.mem ?_;have:(r.state==.busy)=false:=by simpa using b
 rw[this];simp only[Bool.false_eq_true,if_false,Qd,setObj,Qq];exact⟨_,M',f,rfl,rfl,rfl,h⟩
def Lu(hm:P.follows .mixedOrders=true){fn N:Nat}{mu dets:List Nat}{c:Operand}{params:Array Tmp}{as Y:C}{n:Zj T}{x:Nat->Zj T}{r:Zj T}{ds:List Deferred}{g:FuncId}{first b:Array Value}
  (hc:Zf f c=.func (.func g) first b) (w:params.toList.all (λ t=>decide (t<N))=true) (hg:(P.funcs[g]?.any λ fd=>fd.body.isSome&&fd.name != "runtime.NumGoroutine")=true)
  (h:∀(l d:Nat)(lo:LoopState->Option Code->Obj),U.free d->U.free l->l≠d->Lv S fn params as Y l lo f ->
   Qb S g (first.toList++[Value.func (.yield l) #[] #[]]++b.toList).toArray (λ _ X=>WI X ->
    yD l lo (λ U=>n f (⟨.collected d,#[]⟩::ds) U) (λ i U=>x i f (⟨.collected d,#[]⟩::ds) U) (λ U=>r f (⟨.collected d,#[]⟩::ds) U) X)
    { U with M:=.obj l (lo .ready none)::.obj d (.deferred (some []))::U.M }) :
  ZY S fn none (.rng N mu dets c params as Y) n x r f ds U:=by
 intro ca cb Z aa a hf;have hN:∀t∈params.toList,t<N:=λ t ht=>by simpa using all_eq_true.1 w t ht
 refine zw ?_;simp only[Instr.enterLoop,Qd,newObj,Qq,Qi];intro d hd l hl;have ad:U.free l:=⟨hl.1,λ r hr=>hl.2 r (mem_cons_of_mem _ hr)⟩;have ae:l≠d:=λ e=>hl.2 (.obj d (.deferred (some []))) (mem_cons_self ..) e.symm
 let lo:LoopState->Option Code->Obj:=λ st j=>.loop { state:=st,pending:=j,fn,tmps:=a.tmps,params,assign:=ca,body:=cb,defers:=d }
 have L:FR N ⟨a.tmps,[]⟩ f []:=⟨rfl,hf.size,hf.get⟩
 have hR:Lv S fn params as Y l lo f:=by
  intro vs K U' ai W hw;unfold Zm Instr.yield;rw[Qd];refine VJ (r:={ state:=.ready,pending:=none,fn,tmps:=a.tmps,params,assign:=ca,body:=cb,defers:=d }) W ?_;have ag:¬(vs.toArray.size≠params.size):=by simp[ai]
  simp only[ag,if_false,Qi];show J_ S l fn _ ca cb K U';refine J_.of_body ?_
  have ac:FR N ⟨(params.zip vs.toArray).foldl (λ tmps(t,a)=>tmps.setIfInBounds t a) a.tmps,[]⟩ (HS f params.toList vs) []:=by
   have:=Lb params.toList vs a.tmps f hN L;rw[<- Array.foldl_toList];simpa using this
  rw[<- Z]at hw;refine Zq.mono (G6 hm ca ac hw) λ e a' U1 w=>?_;obtain⟨an,al,I,w⟩:=w;cases e with
  |exit i=>exact w.elim
  |ret=>exact w.elim
  |normal=>
   obtain⟨rfl,M₁,z,w⟩:=w;refine⟨rfl,zs (r:={ state:=.ready,pending:=none,fn,tmps:=a.tmps,params,assign:=ca,body:=cb,defers:=d }) rfl z ?_⟩;rw[<- aa]at w;refine Zq.mono (G6 hm cb I w) λ e ak U2 w=>?_;obtain⟨ao,am,aj,w⟩:=w;cases e with
   |normal=>obtain⟨M',z,V⟩:=w;exact YW (r:={ state:=.busy,pending:=none,fn,tmps:=a.tmps,params,assign:=ca,body:=cb,defers:=d }) z V
   |exit i=>obtain⟨M',z,V⟩:=w;exact YW (r:={ state:=.busy,pending:=none,fn,tmps:=a.tmps,params,assign:=ca,body:=cb,defers:=d }) z V
   |ret=>obtain⟨M',z,V⟩:=w;exact YW (r:={ state:=.busy,pending:=none,fn,tmps:=a.tmps,params,assign:=ca,body:=cb,defers:=d }) z V
 have B:=h l d lo hd ad ae hR;have ab:a.eval c=.func (.func g) first b:=by rw[hf.eval];exact hc
 have af:(#[.const (.func (.yield l) #[] #[])]:Array Operand).map a.eval=#[Value.func (.yield l) #[] #[]]:=by simp[Act.eval]
 simp only[resolve,K4,ab,af,Qd,Deferred.ofValue,Qi,invoke,callFunc,program,Qq];cases Q:P.funcs[g]? with
 |none=>simp[Q]at hg
 |some fd=>
  simp only[Q,Option.any_some,Bool.and_eq_true,bne_iff_ne,ne_eq]at hg;obtain⟨h1,h2⟩:=hg;have G:fd.body.isNone=false:=by cases ap:fd.body <;> simp_all
  have F:(fd.name== "runtime.NumGoroutine")=false:=by simpa using h2
  simp only[F,G,Bool.false_eq_true,if_false,Qi];have e:(first++#[Value.func (.yield l) #[] #[]])++b=(first.toList++[Value.func (.yield l) #[] #[]]++b.toList).toArray:=by apply Array.ext';simp
  rw[e];refine Qb.sep B λ v X hs H=>⟨X,.refl _,?_⟩;obtain⟨st,j,M',ah,z,H⟩:=H hs;refine jh (r:={ state:=st,pending:=j,fn,tmps:=a.tmps,params,assign:=ca,body:=cb,defers:=d }) ah z ?_;have E:a.defers=ds:=hf.ds;cases j with
  |none=>exact⟨T1,by simpa[E]using H⟩
  |some cd=>
   cases cd with
   |exit i=>exact L7 ⟨T1,by simpa[E]using H⟩
   |ret=>exact LC ⟨T1,by simpa[E]using H⟩
   |_=>exact H.elim
end Go.TM
namespace Go.TM
structure Hs where
 name:ByteArray
 cls:Int
structure YB where
 ed:Int
 fr:Int
 to:Int
structure YA where
 ed:Int
 one:Int
 two:Int
 lev:Int
structure WJ where
 eds:List (List Hs)
 mvs:List YB
 kns:List YA
def QP(n a b:Int):Bool:=decide (a<=n)&&decide (n<=b)
def WJ.isEd(t:WJ)(e:Int):Bool:=QP e 0 (t.eds.length-1)
def WJ.items(t:WJ)(e:Int):List Hs:=if t.isEd e then t.eds.getD e.toNat []else[]
def WJ.isItem(t:WJ)(e n:Int):Bool:=QP n 0 ((t.items e).length-1)
def WJ.chk(t:WJ)(e:Int):Option Int->List Int->Int
 |_,[]=>0
 |p,n::l=>if t.isItem e n then(match p with|some m=>if n<=m then 7 else t.chk e (some n) l|none=>t.chk e (some n) l)else 6
def WJ.chk_cons(t:WJ)(e:Int)(p:Option Int)(n:Int)(l:List Int):t.chk e p (n::l)=if t.isItem e n then(match p with|some m=>if n<=m then 7 else t.chk e (some n) l|none=>t.chk e (some n) l)else 6:=rfl
def Hj{α:Type}{l:List α}{i:Nat}{x:α}(h:l[i]?=some x):l.drop i=x::l.drop (i+1):=by
 obtain⟨b,rfl⟩:=List.getElem?_eq_some_iff.1 h;exact drop_eq_getElem_cons b
def Wf{α:Type}{l:List α}{i:Nat}{x:α}(h:l[i]?=some x):l.take (i+1)=l.take i++[x]:=by
 rw[take_add_one,h];rfl
structure TH where
 ea:Option Addr
 el:Nat
 ec:Nat
 ma:Option Addr
 ml:Nat
 mc:Nat
 ka:Option Addr
 kl:Nat
 kc:Nat
abbrev TH.v(h:TH):Value:=.agg #[.slice h.ea h.el h.ec,.slice h.ma h.ml h.mc,.slice h.ka h.kl h.kc]
variable{T:Type}
def Gn(U:Qa T)(v:Value)(l:List Hs):Prop:=∃a len cap,v=.slice a len cap/\Q7 U a len 2 l λ it vs=>vs=[.string it.name,.int .i64 it.cls]
structure GG(U:Qa T)(h:TH)(t:WJ):Prop where
 eds:Q7 U h.ea h.el 1 t.eds λ l vs=>∃v,vs=[v]/\Gn U v l
 mvs:Q7 U h.ma h.ml 3 t.mvs λ m vs=>vs=[.int .i64 m.ed,.int .i64 m.fr,.int .i64 m.to]
 kns:Q7 U h.ka h.kl 4 t.kns λ k vs=>vs=[.int .i64 k.ed,.int .i64 k.one,.int .i64 k.two,.int .i64 k.lev]
 el:t.eds.length<2^60
 ml:t.mvs.length<2^60
 kl:t.kns.length<2^60
 il:∀l∈t.eds,l.length<2^60
 nl:∀l∈t.eds,∀it∈l,it.name.size<2^60
def Gn.lg{U U':Qa T}{v:Value}{l:List Hs}(h:Gn U v l)(hl:U.lg U'):Gn U' v l:=
 let ⟨a,len,cap,e,h⟩:=h;⟨a,len,cap,e,h.lg hl λ _ _ h=>h⟩
def GG.lg{U U':Qa T}{h:TH}{t:WJ}(k:GG U h t)(hl:U.lg U'):GG U' h t:=
 ⟨k.eds.lg hl λ _ _⟨v,e,h⟩=>⟨v,e,h.lg hl⟩,k.mvs.lg hl λ _ _ h=>h,k.kns.lg hl λ _ _ h=>h,k.el,k.ml,k.kl,k.il,k.nl⟩
def GG.items_lt{U:Qa T}{h:TH}{t:WJ}(k:GG U h t)(e:Int):(t.items e).length<2^60:=by
 unfold WJ.items;split
 .rw[getD_eq_getElem?_getD];cases hx:t.eds[e.toNat]? with
  |none=>simp
  |some l=>exact k.il l (mem_of_getElem? hx)
 .simp
def Zi.sees3{U:Qa T}{b o:Nat}{c:Array Value}{v:Value}(h:Zi U b c)(f:c[o]?=some v):U.sees ((Addr.mk b 0 none).add o) v:=by
 rw[Qo,Nat.zero_add];exact h.sees f
def Zi.rdT{U U':Qa T}{b:Nat}{h:TH}(hb:Zi U b #[.slice h.ea h.el h.ec,.slice h.ma h.ml h.mc,.slice h.ka h.kl h.kc])(f:∀x o,U.I x=some o->U'.I x=some o):Je U' ⟨b,0,none⟩ [.slice h.ea h.el h.ec,.slice h.ma h.ml h.mc,.slice h.ka h.kl h.kc]:=
 let ⟨t,fr,h⟩:=hb
 Zi.reads (⟨t,fr,f _ _ h⟩:Zi U' b _) λ k v w=>by simpa using w
end Go.TM

