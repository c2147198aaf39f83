/- Lemmas. No conditions. -/
import Derived.Test.YtnjljnhoaafkiaaGreatDoorB11
set_option linter.all false
open List
namespace Go.TM
variable{P:Program}{t:TypeId}{N:Nat}
def Zpe{T:Type}{S:Sys P T}{fn:FuncId}{ro:Option Nat}{c:Code}{Q:Ex->Act->Qa T->Prop}{a:Act}{U:Qa T}(h:(∃w,U.ok w)->Zq S fn ro c Q a U):Zq S fn ro c Q a U:=by
 intro Stop m b k cs hb z;by_cases f:∃w,U.ok w
 .exact h f Stop m b k cs hb z
 .exact .priv ⟨rfl,λ w ok=>absurd ⟨w,ok⟩ f⟩
def yI{T:Type}{S:Sys P T}{fn:FuncId}{ro:Option Nat}{ops:Array Oper}{todo:List Nat}{Q:Ex->Act->Qa T->Prop}{a:Act}{U:Qa T}(h:(∃w,U.ok w)->QU S fn ro ops todo Q a U):QU S fn ro ops todo Q a U:=by
 intro Stop m b k cs hb z;by_cases f:∃w,U.ok w
 .exact h f Stop m b k cs hb z
 .exact .priv ⟨rfl,λ w ok=>absurd ⟨w,ok⟩ f⟩
def Qb.make{f:FuncId}{args:Array Value}{Q:Value->Qa Tk->Prop}{U:Qa Tk}{b:Nat}{M₁ M₂:List Qw}(ht:U.tok=⟨0,.out,none⟩)(w:U.M=M₁++.obj b (.cells #[Q0 0 0,Qp 0] t (0,0))::M₂)
  (h:Qb (Za P t N) f args Q { U with M:=M₁++M₂,tok:=⟨0,.par b [] false .run,none⟩ }):Qb (Za P t N) f args Q U:=
 λ Stop m c cs k=>.syn (QC.make ht w (h Stop m c cs k))
def Wp{T:Type}{U:Qa T}{M':List Qw}(h:Perm U.M M'):Qv U { U with M:=M' }:=by
 refine⟨rfl,λ w ok=>⟨⟨ok.imm,λ r b=>ok.held r (h.mem_iff.2 b),(h.pairwise_iff (λ{x y}h=>Qw.apart_symm h)).1 ok.apart,λ r b=>ok.sep r (h.mem_iff.2 b)⟩,λ l hl=>?_,λ l hl=>?_⟩⟩
 .rw[Q4]at hl ⊢;obtain⟨r,b,hl⟩:=hl;exact⟨r,h.mem_iff.2 b,hl⟩
 .rw[Qx]at hl ⊢;exact hl.imp (λ⟨r,b,hl⟩=>⟨r,h.mem_iff.2 b,hl⟩) id
def Qa.base(U:Qa Tk):Qa Tk:=⟨U.I,[],⟨0,.out,none⟩⟩
def Qa.sub(U U':Qa Tk):Prop:=∀b o,U.I b=some o->U'.I b=some o
end Go.TM
namespace Go.TM
attribute [local simp] Nat.mul_one
variable{T:Type}{P:Program}{S:Sys P T}{U:Qa T}{f:Fm}{K:Value->Qa T->Prop}
def Sx{m e:Nat}{d:TypeDesc}(B:P.underlying e=some d)(E:WT d=true){xs ys:Array Value}{Q:Option Bool×PUnit->Qa T->Prop}:∀(n j:Nat)(vs ws:List Value),vs.length=n->ws.length=n->(∀v∈vs,X5 d v=true)->(∀v∈ws,X5 d v=true) ->
  (∀i v,vs[i]?=some v->xs[j+i]?=some v)->(∀i v,ws[i]?=some v->ys[j+i]?=some v)->Q (if ZF vs ws then none else some false,()) U ->
  Qq P (forIn (List.range' j n 1) ((none,()):Option Bool×PUnit) λ i _=>do
    let a <- part e xs (i*1)
    let b <- part e ys (i*1)
    let c <- Op.equalIn (m+1) e a b
    if(!c)=true then pure (ForInStep.done (some false,()))else pure (ForInStep.yield (none,()))) Q U
 |0,j,vs,ws,G,H,_,_,_,_,h=>by
  obtain rfl:=length_eq_zero_iff.1 G;obtain rfl:=length_eq_zero_iff.1 H;exact h
 |n+1,j,v::vs,w::ws,G,H,f,z,hx,hy,h=>by
  rw[range'_succ,Vc];simp only[Qd,Nat.mul_one];have I:xs[j]?=some v:=by simpa using hx 0 v rfl
  have K:ys[j]?=some w:=by simpa using hy 0 w rfl
  rw[Gl B E I,Gl B E K,IJ B E (f v (mem_cons_self ..)) (z w (mem_cons_self ..))];cases hb:HT v w with
  |false=>simpa[hb,ZF,Qi]using h
  |true=>
   simp only[Bool.not_true,Bool.false_eq_true,if_false,Qi]
   have:=Sx B E (m:=m) (xs:=xs) (ys:=ys) (Q:=Q) n (j+1) vs ws (by simpa using G) (by simpa using H) (λ v h=>f v (mem_cons_of_mem _ h)) (λ v h=>z v (mem_cons_of_mem _ h))
    (λ i v F=>by have:=hx (i+1) v F;rwa [show j+(i+1)=j+1+i by omega]at this)
    (λ i v F=>by have:=hy (i+1) v F;rwa [show j+(i+1)=j+1+i by omega]at this) (by simpa[hb,ZF]using h)
   simpa only[Nat.mul_one,Qd]using this
def yb{t Q T e len:Nat}{d:TypeDesc}{w:TypeInfo}(L:P.underlying t=some (.array len e))(G:P.underlying e=some d)(I:WT d=true)(b:P.info? e=some w)(E:w.size=1)(H:P.eqGuardType P.depth t=false)
  {x y:Operand} {vs ws:List Value} (hx:Zf f x=.agg vs.toArray) (hy:Zf f y=.agg ws.toArray) (z:vs.length=len) (B:ws.length=len) (M:∀v∈vs,X5 d v=true) (N:∀v∈ws,X5 d v=true) (h:K (.bool (ZF vs ws)) U) :
  OX S (.raw { dst:=none,op:=.binOp .eql t x y Q,type:=T,pos := "", after:=#[],guard:=none }) f K U:=by
 intro a' ha;simp only[execOp,ha,hx,hy];refine rq ?_;rw[Qd];refine Ov H ?_;simp only[binOp,Qd];have F:Op.equal t (.agg vs.toArray) (.agg ws.toArray)=Op.equalIn (9998+1+1) t (.agg vs.toArray) (.agg ws.toArray):=rfl;rw[F,Op.equalIn];simp only[Qd,Zb L,Jd b,E,Std.Legacy.Range.forIn_eq_forIn_range'];refine Sx G I _ 0 vs ws (by simpa[Std.Legacy.Range.size]using z) (by simpa[Std.Legacy.Range.size]using B) M N (λ i v b=>by simpa using b) (λ i v b=>by simpa using b) ?_;cases hb:ZF vs ws <;> simpa[hb,Qi]using⟨U,.refl _,by simpa[hb]using h⟩
def Yc{b off:Nat}{e:TypeId}{M₀:List Qw}{Q:Qa T->Prop}(X:List Qw):∀(vs:List Value)(i:Nat)(c:Array Value)(U:Qa T),U.M=X++.obj b (.cells c e (0,0))::M₀->(∀v∈vs,v.single=true)->off+i+vs.length<=c.size ->
  Q { U with M:=X++.obj b (.cells (ZT c off vs i) e (0,0))::M₀ }->QX ⟨b,off,none⟩ vs i Q U
 |[],i,c,U,f,_,_,h=>by
  have:U={ U with M:=X++.obj b (.cells c e (0,0))::M₀ }:=by rw[<- f]
  show Q U;rw[this];exact h
 |v::vs,i,c,U,f,w,hb,h=>by
  simp only[length_cons]at hb;refine⟨w v (mem_cons_self ..),X++.obj b (.cells (c.setIfInBounds (off+i) v) e (0,0))::M₀,?_,?_⟩
  .rw[f,Qo];have z:XF ⟨b,off+i,none⟩ v (.obj b (.cells c e (0,0))::M₀) (.obj b (.cells (c.setIfInBounds (off+i) v) e (0,0))::M₀):=.obj (a:=⟨b,off+i,none⟩) rfl (by show off+i<c.size;omega);clear f h
   induction X with
   |nil=>exact z
   |cons r X E=>exact .there E
  .exact Yc X vs (i+1) _ _ rfl (λ v B=>w v (mem_cons_of_mem _ B)) S3 h
def GV{b i:Nat}{e:TypeId}{c:Array Value}{v:Value}{M₀:List Qw}{Q:Qa T->Prop}(X:List Qw)(w:U.M=X++.obj b (.cells c e (0,0))::M₀)(B:i<c.size)(z:v.single=true)
  (h:Q { U with M:=X++.obj b (.cells (c.setIfInBounds i v) e (0,0))::M₀ }):QX ((Addr.mk b 0 none).add i) [v] 0 (λ U'=>∃f,Qv U' f/\Q f) U:=by
 rw[Qo];refine Yc X [v] 0 c U w (by simpa using z) S3 ?_;simp only[ZT,Nat.zero_add,Nat.add_zero];exact⟨_,.refl _,h⟩
def Yi{b:Nat}{e:TypeId}{c:Array Value}{vs:List Value}{M₀:List Qw}{Q:Qa T->Prop}(X:List Qw)(z:U.M=X++.obj b (.cells c e (0,0))::M₀)(f:c.size=vs.length)(B:∀v∈vs,v.single=true)
  (h:Q { U with M:=X++.obj b (.cells vs.toArray e (0,0))::M₀ }):QX ⟨b,0,none⟩ vs 0 (λ U'=>∃w,Qv U' w/\Q w) U:=by
 refine Yc X vs 0 c U z B O1 ?_;rw[Pj f];exact⟨_,.refl _,h⟩
def Q9{b:Nat}{e:TypeId}{vs:List Value}{M₀:List Qw}(X:List Qw)(f:U.M=X++.obj b (.cells vs.toArray e (0,0))::M₀):Je U ⟨b,0,none⟩ vs:=by
 intro i v h;rw[Qo];refine⟨rfl,.inl ⟨_,_,_,.inr (by rw[f];simp;exact .inr (.inl ⟨rfl,rfl,rfl⟩)),?_⟩⟩;simpa using h
abbrev setA(s:Nat->Bool):Value:=.agg #[.bool (s 0),.bool (s 1),.bool (s 2),.bool (s 3),.bool (s 4),.bool (s 5),.bool (s 6),.bool (s 7)]
def H0(s:Nat->Bool)(j:Nat)(v:Bool):Nat->Bool:=λ k=>if k=j then v else s k
end Go.TM
namespace Go.TM
variable{T:Type}{P:Program}{S:Sys P T}{U U':Qa T}
def Qa.frz(U:Qa T):Qa T:=⟨U.I,[],U.tok⟩
def Qa.lg.frz(h:U.lg U'):U.frz.lg U':=⟨h.imm,⟨U'.M,by simp[Qa.frz]⟩,h.tok⟩
def Qr:U.frz.lg U:=(⟨λ _ _ h=>h,⟨[],rfl⟩,rfl⟩:U.lg U).frz
def SY{U b f:Qa T}(h:U.frz.lg b)(k:b.le f):U.frz.lg f:=h.trans k.lg
def Qa.lg.frz2(h:U.lg U'):U.frz.lg U'.frz:=⟨h.imm,⟨[],rfl⟩,h.tok⟩
def Qb.grown{f:FuncId}{args:Array Value}{R:Value->Qa T->Prop}(B:∀v w z,w.lg z->R v w->R v z)(h:Qb S f args (λ v U'=>R v U'.frz/\U.lg U') U):Qb S f args (λ v U'=>R v U'.frz/\U.le U') U:=
 h.post λ v U'⟨E,hl⟩=>let ⟨U'',h1,h2,h3⟩:=hl.shift;⟨U'',h1,B v _ _ (⟨λ b o h=>by show U''.I b=_;rw[h3];exact h,⟨[],rfl⟩,h2.tok.trans hl.tok.symm⟩:U'.frz.lg U''.frz) E,h2⟩
def Jw(U:Qa T)(v:Value)(l:List Int):Prop:=∃a cap,v=.slice a l.length cap/\Z6 U a l.length l
def Jw.lg{v:Value}{l:List Int}(h:Jw U v l)(hl:U.lg U'):Jw U' v l:=let ⟨a,c,e,h⟩:=h;⟨a,c,e,h.lg hl⟩
def Acc.freeze{e n:Nat}{v:Value}{cs:List Value}(F:WI U')(h:Acc e n v cs U'.M U.M)(z:∀x B,U.I x=some B->U'.I x=some B)(ht:U'.tok=U.tok) :
  ∃U'',Qv U' U''/\U.le U''/\∃a len cap,v=.slice a len cap/\cs.length=len*n/\Src U''.frz a cs/\(∀f,a=some f->f.spot=none)/\(∀f,a=some f->f.off=0):=by
 rcases h with⟨rfl,rfl,w⟩|⟨b,c,len,cap,rfl,h1,h2,G,w,E⟩
 .exact⟨U',.refl _,⟨z,w,ht⟩,none,0,0,rfl,S1,.inl ⟨rfl,rfl⟩,S1,S1⟩
 .obtain⟨U'',k1,k2,k3⟩:=Iz F w z rfl ht;refine⟨U'',k1,k2,some ⟨b,0,none⟩,len,cap,rfl,h1,.inr ⟨_,rfl,?_⟩,by rintro _⟨⟩;rfl,by rintro _⟨⟩;rfl⟩;intro i x hx;rw[Qo];exact⟨rfl,.inl ⟨c,e,(0,0),.inl k3,by simpa using E i x hx⟩⟩
def KS{a:Option Addr}{l:List Int}(h:Src U a (l.map λ n=>.int .i64 n))(f:∀b,a=some b->b.spot=none):Z6 U a l.length l:=by
 refine⟨rfl,λ i x hx=>?_⟩;rcases h with⟨_,w⟩|⟨b,rfl,z⟩
 .rw[map_eq_nil_iff]at w;subst w;simp at hx
 .exact⟨b,rfl,f b rfl,by rw[Nat.mul_one];exact z i _ (by simp[hx])⟩
def Qb.ints{f:FuncId}{args:Array Value}{e:Nat}{l:List Int}(h:Qb S f args (λ v U'=>Acc e 1 v (l.map λ n=>.int .i64 n) U'.M U.M/\(∀x z,U.I x=some z->U'.I x=some z)/\U'.tok=U.tok) U) :
  Qb S f args (λ v U'=>Jw U'.frz v l/\U.le U') U:=by
 refine h.sep λ v U' E⟨ha,B,ht⟩=>?_;obtain⟨U'',F,G,a,len,cap,rfl,hl,b,w,_⟩:=ha.freeze E B ht;refine⟨U'',F,⟨a,cap,?_,KS b w⟩,G⟩;simp at hl;rw[hl]
end Go.TM
namespace Go.TM
variable{T:Type}{P:Program}{S:Sys P T}{U:Qa T}{f:Fm}{K:Value->Qa T->Prop}
def L_(P:Program)(t len:Nat):Bool:=
 match P.underlying t with
 |some (.array b e)=>decide (b=len)&&(match P.underlying e with|some .bool=>true|_=>false)&&(match P.info? e with|some f=>decide (f.size=1)|none=>false)&&!P.eqGuardType P.depth t
 |_=>false
structure Uo(P:Program)(t len:Nat):Prop where
 h:∃e inf,P.underlying t=some (.array len e)/\P.underlying e=some .bool/\P.info? e=some inf/\inf.size=1/\P.eqGuardType P.depth t=false
def Uo.of{t len:Nat}(h:L_ P t len=true):Uo P t len:=by
 unfold L_ at h;split at h
 .rename_i len' e hu;simp only[Bool.and_eq_true,decide_eq_true_eq,Bool.not_eq_true']at h;obtain⟨⟨⟨rfl,h1⟩,h2⟩,b⟩:=h;split at h1
  .rename_i hb;split at h2
   .rename_i inf hi;exact⟨e,inf,hu,hb,hi,by simpa using h2,b⟩
   .cases h2
  .cases h1
 .cases h
end Go.TM
namespace Go.TM
variable{T:Type}{P:Program}{S:Sys P T}{f:Fm}{U:Qa T}
structure LO(U:Qa T)(I:Nat->Qa T->Prop):Prop where
 le:∀k U1 U2,U1.le U2->I k U1->I k U2
 lg:∀k U1,I k U1->U.frz.lg U1
def yw(S:Sys P T)(l:Nat)(h:List (List Value))(I:Nat->Qa T->Prop)(E:Qa T->Prop):Prop:=
 ∀(k:Nat)(p:List Value)(f:Qa T)(K:Value->Qa T->Prop),h[k]?=some p->I k f->(∀b,I (k+1) b->K (.bool true) b)->(∀b,E b->K (.bool false) b)->Zm S l p K f
def yE(S:Sys P T)(g:FuncId)(args:Array Value)(l:Nat)(b:List (List Value))(U:Qa T):Prop:=
 ∀(I:Nat->Qa T->Prop)(E:Qa T->Prop),LO U I->yw S l b I E->I 0 U->Qb S g args (λ _ U'=>I b.length U'\/E U') U
def Qa.on(U:Qa T)(A D:Qw):Qa T:={ U with M:=A::D::U.M }
def Znz(hm:P.follows .mixedOrders=true){fn N:Nat}{mu dets:List Nat}{c:Operand}{params:Array Tmp}{as W:C}{n:Zj T}{x:Nat->Zj T}{r:Zj T}{ds:List Deferred}{g:FuncId}{first G:Array Value}
  (Q:List (List Value)) (Inv:Nat->Qa T->Prop) (X:Nat->Qa T->Prop) (V:Qa T->Prop)
  (hc:Zf f c=.func (.func g) first G) (hp:params.toList.all (λ t=>decide (t<N))=true) (hg:(P.funcs[g]?.any λ fd=>fd.body.isSome&&fd.name != "runtime.NumGoroutine")=true)
  (Z:∀l F,U.frz.lg F->yE S g (first.toList++[Value.func (.yield l) #[] #[]]++G.toList).toArray l Q F)
  (L:∀p∈Q,p.length=params.size) (hk:LO U Inv) (h0:Inv 0 U)
  (H:∀(l:Nat)(A B D:Qw)(k:Nat)(p:List Value)(U₀:Qa T)(KN:Zj T)(KX:Nat->Zj T)(KR KA:Zj T),Q[k]?=some p->Inv k U₀ ->
   (∀b z w,Inv (k+1) w->KN b z (w.on B D))->(∀i b z w,X i w->KX i b z (w.on B D))->(∀b z w,V w->KR b z (w.on B D)) ->
   (∀b(F:Qa T),ZY S fn (some l) W KN KX KR b [] (F.on B D)->KA b [] (F.on A D)) ->
   ZY S fn (some l) as KA (λ _ _ _ _=>False) (λ _ _ _=>False) (HS f params.toList p) [] (U₀.on A D))
  (hn:∀(d l:Nat)(A:Obj)w,Inv Q.length w->n f (⟨.collected d,#[]⟩::ds) (w.on (.obj l A) (.obj d (.deferred (some [])))))
  (hx:∀(d l:Nat)(A:Obj)i w,X i w->x i f (⟨.collected d,#[]⟩::ds) (w.on (.obj l A) (.obj d (.deferred (some [])))))
  (hr:∀(d l:Nat)(A:Obj)w,V w->r f (⟨.collected d,#[]⟩::ds) (w.on (.obj l A) (.obj d (.deferred (some []))))) :
  Wo S fn none N mu dets c params as W n x r f ds U:=by
 show ZY S fn none (.rng N mu dets c params as W) n x r f ds U;refine Lu hm hc hp hg λ l d lo hd hl aa hR=>?_
 let D:Qw:=.obj d (.deferred (some []))
 let I:Nat->Qa T->Prop:=λ k F=>∃U₀,Inv k U₀/\F=U₀.on (.obj l (lo .ready none)) D
 let E:Qa T->Prop:=λ F=>∃U₀,(∃i,X i U₀/\F=U₀.on (.obj l (lo .done (some (.exit i)))) D)\/(V U₀/\F=U₀.on (.obj l (lo .done (some .ret))) D)
 have Y:U.frz.lg (U.on (.obj l (lo .ready none)) D):=⟨λ _ _ h=>h,⟨_,(append_nil _).symm⟩,rfl⟩;refine(Z l _ Y I E ⟨?_,?_⟩ ?_ ⟨U,h0,rfl⟩).mono ?_
 .rintro k _ U2 hle ⟨U₀,hI,rfl⟩;refine⟨{ U2 with M:=U₀.M },hk.le k U₀ _ ⟨hle.imm,rfl,hle.tok⟩ hI,?_⟩;obtain⟨ab,ac,ad⟩:=U2;have:=hle.own;simp only[Qa.on]at this ⊢;rw[this]
 .rintro k _ ⟨U₀,hI,rfl⟩;have:=hk.lg k _ hI;exact⟨this.imm,⟨_,(append_nil _).symm⟩,this.tok⟩
 .rintro k p _ K hpk ⟨U₀,hI,rfl⟩ hK1 hK2;refine hR p K _ (L p (mem_of_getElem? hpk)) (mem_cons_self ..) ?_;refine H l _ (.obj l (lo .busy none)) D k p U₀ _ _ _ _ hpk hI (λ b z w h=>?_) (λ i b z w h=>?_) (λ b z w h=>?_) (λ b F h=>⟨rfl,_,.here,h⟩)
  .exact⟨_,.here,hK1 _ ⟨w,h,rfl⟩⟩
  .exact⟨_,.here,hK2 _ ⟨w,.inl ⟨i,h,rfl⟩⟩⟩
  .exact⟨_,.here,hK2 _ ⟨w,.inr ⟨h,rfl⟩⟩⟩
 .rintro v w (⟨U₀,hI,rfl⟩|⟨U₀,⟨i,hX,rfl⟩|⟨hR',rfl⟩⟩) -
  .exact⟨.ready,none,_,S1,.here,hn d l _ U₀ hI⟩
  .exact⟨.done,some (.exit i),_,S1,.here,hx d l _ i U₀ hX⟩
  .exact⟨.done,some .ret,_,S1,.here,hr d l _ U₀ hR'⟩
end Go.TM
namespace Go.TM
variable{T:Type}{U U':Qa T}
def Zi.imI{b:Nat}{c:Array Value}(h:Zi U b c)(f:∀x o,U.I x=some o->U'.I x=some o):Zi U' b c:=let ⟨t,fr,h⟩:=h;⟨t,fr,f _ _ h⟩
def Zi.rdI{b:Nat}{vs:List Value}(h:Zi U b vs.toArray)(f:∀x o,U.I x=some o->U'.I x=some o):Je U' ⟨b,0,none⟩ vs:=(h.imI f).reads λ k v w=>by simpa using w
end Go.TM
set_option linter.unusedSimpArgs false
namespace Go.TM
variable{T:Type}{P:Program}{S:Sys P T}{f:Fm}{K:Value->Qa T->Prop}{U:Qa T}
def HY{κ:Type}(enc:κ->Value):∀(l:List (κ×Value))(j i:Nat)(p:κ×Value),l[i]?=some p->(Qs enc l j)[i]?=some ⟨enc p.1,p.2,j+i⟩
 |[],_,_,_,h=>by simp at h
 |q::l,j,0,p,h=>by
  simp at h;subst h;simp[Qs]
 |q::l,j,i+1,p,h=>by
  simp only[Qs,getElem?_cons_succ];rw[HY enc l (j+1) i p (by simpa using h)];congr 2;omega
def YS{κ:Type}(enc:κ->Value):∀(l:List (κ×Value))(j:Nat)(e:MapEntry),e∈Qs enc l j->∃i p,l[i]?=some p/\e=⟨enc p.1,p.2,j+i⟩
 |[],_,e,h=>by cases h
 |q::l,j,e,h=>by
  simp only[Qs,mem_cons]at h;rcases h with rfl|h
  .exact⟨0,q,rfl,rfl⟩
  .obtain⟨i,p,h1,rfl⟩:=YS enc l (j+1) e h;exact⟨i+1,p,by simpa using h1,by congr 1;omega⟩
def Jx(b n:Nat)(seen:Array Nat):Obj:=.mapIter (some b) n seen n
def OH{κ:Type}{enc:κ->Value}{t B F E b:Nat}{l:List (κ×Value)}{x:Operand}(z:P.underlying t=some (.map B F))(hx:Zf f x=.map (some b))(hm:U.has b (Qt enc l))
  (h:∀r,U.free r->K (.pointer (some ⟨r,0,none⟩)) (U.put r (Jx b l.length #[]))) :
  OX S (.raw { dst:=none,op:=.range t x,type:=E,pos := "", after:=#[],guard:=none }) f K U:=by
 intro a' ha;simp only[execOp,ha,hx];refine rq ?_;simp only[Instr.range,Qd,Zb z,getObj];refine⟨_,hm,rfl,rfl,?_⟩;simp only[Qq,Qt,Qi,Qd,newObj];exact λ r w=>⟨_,.refl _,h r w⟩
def Ss{κ:Type}{enc:κ->Value}{ty b r:Nat}{l:List (κ×Value)}{seen:Array Nat}{x:Operand}(M':Obj->List Qw)(hx:Zf f x=.pointer (some ⟨r,0,none⟩))(hm:U.has b (Qt enc l))
  (hu:∀o,J0 r o (Jx b l.length seen) U.M (M' o))
  (h0:(∀i,i<l.length->i∈seen)->K (.tuple #[.bool false]) U)
  (h1:∀(i:Nat)p,l[i]?=some p->i∉seen->K (.tuple #[.bool true,enc p.1,p.2]) { U with M:=M' (Jx b l.length (seen.push i)) }) :
  OX S (.raw { dst:=none,op:=.next x false,type:=ty,pos := "", after:=#[],guard:=none }) f K U:=by
 intro a' ha;simp only[execOp,ha,hx];refine rq ?_;unfold Instr.next;simp only[Qd,getObj];refine⟨_,.inr (hu (Jx b l.length seen)).mem,rfl,rfl,?_⟩;simp only[Qq,Jx,Qi,Qd];refine⟨_,hm,rfl,rfl,?_⟩
 have h:∀e∈(Qs enc l 0).toArray,e.born<l.length:=λ e B=>by
  obtain⟨i,p,G,rfl⟩:=YS enc l 0 e (by simpa using B);have:=(List.getElem?_eq_some_iff.1 G).1;show 0+i<_;omega
 simp only[Qq,Qt,Qi,Qd];generalize F:(Qs enc l 0).toArray=es at h
 have hc:(!seen.isEmpty&&!es.isEmpty&&es.all λ x=>decide (x.born ≥ l.length))=false:=by
  cases B:es.isEmpty with
  |true=>simp
  |false=>
   have:es.all (λ x=>decide (x.born ≥ l.length))=false:=by
    rw[Array.all_eq_false'];rw[Array.isEmpty_eq_false_iff]at B;obtain⟨e,H⟩:=Array.exists_mem_of_ne_empty _ B;exact⟨e,H,by have:=h e H;simp;omega⟩
   rw[this];simp
 rw[hc];simp only[Bool.false_eq_true,if_false];generalize w:es.filter (λ e=>!seen.contains e.born)=left
 have Q:left.filter (λ x=>decide (x.born<l.length))=left:=Array.filter_eq_self.2 λ e B=>by
  rw[<- w]at B;have:=h e (Array.mem_filter.1 B).1;simpa using this
 have N:left.filter (λ x=>decide (x.born ≥ l.length))=#[]:=Array.filter_eq_empty_iff.2 λ e B=>by
  rw[<- w]at B;have:=h e (Array.mem_filter.1 B).1;simp;omega
 simp only[Q,N,Array.append_empty];cases E:left.isEmpty with
 |true=>
  have T:left=#[]:=by simpa using E
  subst T;simp only[if_true,Array.map_empty,Array.append_empty];refine⟨_,.refl _,h0 λ i G=>?_⟩;have V:l[i]?=some l[i]:=getElem?_eq_getElem G;have I:=mem_of_getElem? (HY enc l 0 i _ V);have W:(⟨enc l[i].1,l[i].2,0+i⟩:MapEntry)∈es:=by rw[<- F];simpa using I
  have:=Array.filter_eq_empty_iff.1 w _ W;simpa using this
 |false=>
  have L:0<left.size:=by
   rw[Array.isEmpty_eq_false_iff]at E;exact Array.size_pos_iff.2 E
  have key:∀j,j<left.size->Qq P (match(#[]++left.map some)[j]? with
    |some (some e)=>do
     setObj r (.mapIter (some b) l.length (seen.push e.born) l.length)
     pure (.tuple #[.bool true,e.key,e.val])
    |some none=>pure (.tuple #[.bool false])
    |none=>stuck "Next: no such candidate") (λ v U'=>∃Z,Qv U' Z/\K v Z) U:=by
   intro j hj;have h2:(#[]++left.map some)[j]?=some (some left[j]):=by simp[hj]
   rw[h2];have z:left[j]∈left:=Array.getElem_mem hj;generalize left[j]=e at z;rw[<- w,Array.mem_filter]at z;obtain⟨z,X⟩:=z;rw[<- F]at z;obtain⟨i,p,G,rfl⟩:=YS enc l 0 e (by simpa using z);simp only[Qd,setObj,Qq,Qi];have h3:=h1 i p G (by simpa using X);rw[<- Nat.zero_add i]at h3;exact⟨_,_,hu _,rfl,rfl,rfl,_,.refl _,h3⟩
  simp only[Bool.false_eq_true,if_false];rw[Qd];show(if(Question.mapNext (#[]++Array.map some left).size).forced then _ else _);have Y:(#[]++Array.map some left).size=left.size:=S1
  split
  .exact key 0 L
  .intro t;refine key _ ?_;show t % (#[]++Array.map some left).size<left.size;rw[Y];exact Nat.mod_lt _ L
def OG{κ:Type}{enc:κ->Value}{N b r i:Nat}{l:List (κ×Value)}{seen:Array Nat}{p:κ×Value}{x:Operand}(hx:Zf f x=.pointer (some ⟨r,0,none⟩))(hm:U.has b (Qt enc l))(M:U.has r (Jx b l.length (seen.push i)))
  (I:l[i]?=some p) (h:K (.tuple #[enc p.1,p.2]) U) :
  OX S (.raw { dst:=none,op:=.entry x,type:=N,pos := "", after:=#[],guard:=none }) f K U:=by
 intro a' ha;simp only[execOp,ha,hx];refine rq ?_;unfold Instr.entry;simp only[Qd,getObj];refine⟨_,M,rfl,rfl,?_⟩;simp only[Qq,Jx,Qi,Qd,Array.back?_push];refine⟨_,hm,rfl,rfl,?_⟩;simp only[Qq,Qt,Qi,Qd,bne_self_eq_false,Bool.false_eq_true,if_false]
 have w:(Qs enc l 0).toArray.find? (λ x=>x.born==i)=some ⟨enc p.1,p.2,i⟩:=by
  rw[find?_toArray,find?_eq_some_iff_getElem];have F:=HY enc l 0 i p I;rw[Nat.zero_add]at F;obtain⟨z,H⟩:=List.getElem?_eq_some_iff.1 F;refine⟨S1,i,z,H,λ j P=>?_⟩;obtain⟨q,L⟩:∃q,l[j]?=some q:=⟨_,getElem?_eq_getElem (by rw[Ea]at z;omega)⟩;have E:=HY enc l 0 j q L;obtain⟨G,B⟩:=List.getElem?_eq_some_iff.1 E;rw[B];simp;omega
 rw[w];exact⟨_,.refl _,h⟩
def X4{κ:Type}[DecidableEq κ](k:κ)(z:Value)(l:List (κ×Value)):List (κ×Value):=if(lk k l).isSome then l else l++[(k,z)]
def XU{κ:Type}[DecidableEq κ](k:κ)(l:List (κ×Value)):Nat:=match QL k l 0 with|some (i,_)=>i|none=>l.length
def Fk{κ:Type}[DecidableEq κ]{enc:κ->Value}{k:κ}:∀{l:List (κ×Value)}{i j n:Nat}{x:Value},QL k l i=some (n,x)->i<=n/\(∃e,(Qs enc l j)[n-i]?=some e/\e.key=enc k/\e.born=j+(n-i)) /\
   (Qs enc l j).modify (n-i) (λ e=>{ e with key:=enc k })=Qs enc l j
 |[],_,_,_,_,h=>by cases h
 |p::l,i,j,n,x,h=>by
  simp only[QL]at h;split at h
  .rename_i e;cases h;refine⟨Nat.le_refl _,?_,?_⟩
   .simp[Qs,e]
   .simp[Qs,e]
  .rename_i e;obtain⟨h1,⟨y,h2,f,w⟩,h5⟩:=Fk (enc:=enc) (j:=j+1) h;have b:n-i=(n-(i+1))+1:=O1
   refine⟨O1,?_,?_⟩
   .rw[b];exact⟨y,by simpa[Qs]using h2,f,by rw[w];omega⟩
   .rw[b];simp only[Qs,modify_succ_cons,h5]
def Ee{κ:Type}[DecidableEq κ]{enc:κ->Value}{t G H Y:TypeId}{b:Nat}{l:List (κ×Value)}{k:κ}{z:Value}{x y:Operand}{M':List Qw}(B:WG T P G enc)(V:P.underlying t=some (.map G H))(W:Xa P H=some z)
  (hx:Zf f x=.map (some b)) (hy:Zf f y=enc k) (hm:J0 b (Qt enc (X4 k z l)) (Qt enc l) U.M M') (h:K (.tuple #[(lk k l).getD z,.int .i64 (XU k l)]) { U with M:=M' }) :
  OX S (.raw { dst:=none,op:=.mapEntry t x y,type:=Y,pos := "", after:=#[],guard:=none }) f K U:=by
 intro a' ha;obtain⟨X,Q,E⟩:=P2 W;simp only[execOp,ha,hx,hy];refine rq ?_;unfold Instr.mapEntry;simp only[Qd,Zb V,getObj];refine⟨_,.inr hm.mem,rfl,rfl,?_⟩;simp only[Qq,Qt,Qi,Qd];refine B.chk _ _ ?_;refine B.find k l ?_;unfold XU lk at h;unfold X4 lk at hm;cases e:QL k l 0 with
 |none=>
  simp only[e,Option.map_none,Option.getD_none,Option.isSome_none,Bool.false_eq_true,if_false]at h hm;simp only[Qd,X7 Q E,setObj,Qq,Qi];refine⟨Qt enc l,M',?_,rfl,rfl,rfl,⟨_,.refl _,h⟩⟩
  have:Obj.map ((Qs enc l 0).toArray.push { key:=enc k,val:=z,born:=l.length }) (l.length+1)=Qt enc (l++[(k,z)]):=by
   simp only[Qt,length_append,length_cons,length_nil,YE,Qs,Nat.zero_add];congr 1;apply Array.ext';simp
  rw[this];exact hm
 |some p=>
  obtain⟨n,w⟩:=p;simp only[e,Option.map_some,Option.getD_some,Option.isSome_some,if_true]at h hm;obtain⟨h1,⟨I,h2,L,F⟩,h5⟩:=Fk (enc:=enc) (j:=0) e;rw[Nat.sub_zero]at h2 F h5;have N:(Qs enc l 0).toArray[n]?=some I:=by simpa using h2
  simp only[N,Option.map_some,Option.getD_some,L,Qd];unfold Instr.keyThatStays;rw[B.bits k];simp only[if_true,Qi,setObj,Qq,F];refine⟨Qt enc l,M',?_,rfl,rfl,rfl,⟨_,.refl _,?_⟩⟩
  .have:Obj.map ((Qs enc l 0).toArray.modify n λ e=>{ e with key:=enc k }) l.length=Qt enc l:=by
    simp only[Qt];congr 1;apply Array.ext';rw[Array.toList_modify];exact h5
   rw[this];exact hm
  .rw[Nat.zero_add];exact h
def Eb{κ:Type}(enc:κ->Value)(v:Value):∀(l:List (κ×Value))(j n:Nat),(Qs enc l j).modify n (λ e=>{ e with val:=v })=Qs enc (l.modify n λ p=>(p.1,v)) j
 |[],_,_=>by simp[Qs]
 |p::l,j,0=>by simp[Qs]
 |p::l,j,n+1=>by
  simp only[Qs,modify_succ_cons];rw[Eb enc v l (j+1) n]
def qT{κ:Type}{enc:κ->Value}{t T:TypeId}{b n:Nat}{l:List (κ×Value)}{v:Value}{x s u:Operand}{M':List Qw}
  (hx:Zf f x=.map (some b)) (P:Zf f s=.int .i64 n) (I:n<l.length) (Q:Zf f u=v) (hm:J0 b (Qt enc (l.modify n λ p=>(p.1,v))) (Qt enc l) U.M M') (h:K undef { U with M:=M' }) :
  OX S (.raw { dst:=none,op:=.entryStore t x s u,type:=T,pos := "", after:=#[],guard:=none }) f K U:=by
 intro a' ha;simp only[execOp,ha,hx,P,Q];refine ru ?_;unfold Instr.entryStore;simp only[Qd,getObj];refine⟨_,.inr hm.mem,rfl,rfl,?_⟩;simp only[Qq,Qt,Qi,Qd,asInt,asIntOf]
 have w:(Qs enc l 0).toArray.findIdx? (λ e=>(e.born:Int)==(n:Int))=some n:=by
  rw[findIdx?_toArray,findIdx?_eq_some_iff_getElem];have L:l[n]?=some l[n]:=getElem?_eq_getElem I;have H:=HY enc l 0 n _ L;obtain⟨E,G⟩:=List.getElem?_eq_some_iff.1 H;refine⟨E,by rw[G];simp,λ j V=>?_⟩;obtain⟨q,N⟩:∃q,l[j]?=some q:=⟨_,getElem?_eq_getElem O1⟩;have B:=HY enc l 0 j q N;obtain⟨F,z⟩:=List.getElem?_eq_some_iff.1 B;rw[z];simp;omega
 rw[w];simp only[setObj,Qq];refine⟨Qt enc l,M',?_,rfl,rfl,rfl,⟨_,.refl _,h⟩⟩
 have:Obj.map ((Qs enc l 0).toArray.modify n λ e=>{ e with val:=v }) l.length=Qt enc (l.modify n λ p=>(p.1,v)):=by
  simp only[Qt,length_modify];congr 1;apply Array.ext';rw[Array.toList_modify];exact Eb enc v l 0 n
 rw[this];exact hm
def kO{κ:Type}[DecidableEq κ](k:κ)(z v:Value)(l:List (κ×Value)):(X4 k z l).modify (XU k l) (λ p=>(p.1,v))=ZA k v l/\XU k l<(X4 k z l).length:=by
 have key:∀(l:List (κ×Value))(i:Nat),(match QL k l i with
   |some (n,_)=>i<=n/\n-i<l.length/\l.modify (n-i) (λ p=>(p.1,v))=ZA k v l
   |none=>ZA k v l=l++[(k,v)]):=by
  intro l
  induction l with
  |nil=>intro i;rfl
  |cons p l F=>
   intro i;simp only[QL];by_cases e:k=p.1
   .simp[e,ZA]
   .rw[if_neg e];have:=F (i+1);cases hl:QL k l (i+1)with
    |none=>
     rw[hl]at this;simp only[ZA,if_neg e]at this ⊢;rw[this];rfl
    |some q=>
     obtain⟨n,w⟩:=q;rw[hl]at this;simp only at this ⊢;obtain⟨h1,h2,B⟩:=this;have E:n-i=(n-(i+1))+1:=O1
     refine⟨O1,S3,?_⟩;rw[E,modify_succ_cons,B];simp only[ZA,if_neg e]
 have h:=key l 0;unfold X4 XU lk;cases hl:QL k l 0 with
 |none=>
  rw[hl]at h;simp only at h;simp only[Option.map_none,Option.isSome_none,Bool.false_eq_true,if_false,length_append,length_cons,length_nil];refine⟨?_,O1⟩;rw[h];apply ext_getElem?;intro i;rw[getElem?_modify];by_cases f:l.length=i
  .subst f;simp
  .simp only[if_neg f];by_cases b:i<l.length
   .rw[getElem?_append_left b,getElem?_append_left b];simp
   .rw[getElem?_eq_none S3,getElem?_eq_none S3];rfl
 |some q=>
  obtain⟨n,w⟩:=q;rw[hl]at h;simp only[Nat.sub_zero]at h;simp only[Option.map_some,Option.isSome_some,if_true];exact⟨h.2.2,h.2.1⟩
end Go.TM
set_option linter.unusedSimpArgs false
namespace Go.TM
variable{T:Type}{P:Program}{S:Sys P T}{fn:FuncId}{ro:Option Nat}
inductive X2(S:Sys P T)(ops:Array Oper)(rl:List Nat)(J:Qa T->Prop)(Fin:Act->Qa T->Prop):List Nat->(Qa T->Prop)->Act->Prop
 |nil {C a}:(∀U',C U'->Fin a U')->X2 S ops rl J Fin [] C a
 |un {i rest C a o}:i∉rl->ops[i]?=some o->Region.wanted o (yielded ops a.tmps)=false->X2 S ops rl J Fin rest C (a.put o.dst undef)->X2 S ops rl J Fin (i::rest) C a
 |det {i rest C a o} (v:Value):i∉rl->ops[i]?=some o->Region.wanted o (yielded ops a.tmps)=true ->
   (∀U',J U'->QK S o a (λ v' U2=>v'=v/\∃U1,Qv U2 U1/\U'.le U1) U')->X2 S ops rl J Fin rest C (a.put o.dst v)->X2 S ops rl J Fin (i::rest) C a
 |rel {i rest C a o} (F:Value->Qa T->Prop):i∈rl->(∀v,Xz (F v))->(∀v U',F v U'->J U')->ops[i]?=some o->Region.wanted o (yielded ops a.tmps)=true ->
   (∀U',C U'->QK S o a (λ v' U2=>∃U1,Qv U2 U1/\F v' U1) U')->(∀v,(∃U',F v U')->X2 S ops rl J Fin rest (F v) (a.put o.dst v))->X2 S ops rl J Fin (i::rest) C a
section sound
variable{ops:Array Oper}{rl qs ts:List Nat}
structure Xf(S:Sys P T)(ops:Array Oper)(rl qs:List Nat)(J:Qa T->Prop)(a_0:Act)(Fin:Act->Qa T->Prop)(listed:Array Bool)(ac:Act)(U:Qa T)
  (pre L:List Nat) (C:Qa T->Prop) (av:Act) (val:Nat->Value):Prop where
 split:qs=pre++L
 der:X2 S ops rl J Fin L C av
 mono:Xz C
 inJ:∀U',C U'->J U'
 c:C U
 av:Jj ops val (·∈pre) a_0 av
 ac:Jj ops val (Li listed) a_0 ac
 sub:∀i,Li listed i->i∈pre
 size:listed.size=ops.size
 down:∀i,Li listed i->∀j∈Wt ops i,Li listed j
 rels:∀i∈pre,i∈rl->Li listed i
 pend:∀i∈pre,¬Li listed i->∃o ai p,qs[p]?=some i/\ops[i]?=some o/\Jj ops val (·∈qs.take p) a_0 ai /\
  ((Region.wanted o (yielded ops ai.tmps)=false/\val i=undef) \/
   (Region.wanted o (yielded ops ai.tmps)=true/\∀U',J U'->QK S o ai (λ v' U2=>v'=val i/\∃U1,Qv U2 U1/\U'.le U1) U'))
variable{J:Qa T->Prop}{a_0:Act}{Fin:Act->Qa T->Prop}{listed:Array Bool}{ac av:Act}{U:Qa T}{pre L:List Nat}{C:Qa T->Prop}{val:Nat->Value}
def Xf.note(hf:Ju ops [] qs ts){x:Nat}{rest:List Nat}(h:Xf S ops rl qs J a_0 Fin listed ac U pre (x::rest) C av val)(v:Value) :
  Jj ops (ZS val x v) (·∈pre) a_0 av/\Jj ops (ZS val x v) (Li listed) a_0 ac /\
  (∀i∈pre,¬Li listed i->∃o f p,qs[p]?=some i/\ops[i]?=some o/\Jj ops (ZS val x v) (·∈qs.take p) a_0 f /\
   ((Region.wanted o (yielded ops f.tmps)=false/\ZS val x v i=undef) \/
    (Region.wanted o (yielded ops f.tmps)=true/\∀U',J U'->QK S o f (λ P L=>P=ZS val x v i/\∃H,Qv L H/\U'.le H) U'))):=by
 have hx:=PO hf h.split;refine⟨h.av.val λ j w=>Hl (λ e=>hx (e▸w)),h.ac.val λ j w=>Hl (λ e=>hx (e▸h.sub j w)),λ i E hl=>?_⟩;obtain⟨o,f,p,I,N,B,M⟩:=h.pend i E hl;have F:i≠x:=λ e=>hx (e▸E);refine⟨o,f,p,I,N,B.val λ j w=>Hl λ e=>?_,by rw[Hl F];exact M⟩;subst e;obtain⟨p',b⟩:=mem_iff_getElem?.1 w;rw[getElem?_take]at b;split at b
 .rename_i hlt;have Q:=HE hf (W9 (ts:=ts) b) (W9 (W7 h.split).2);obtain⟨K,z⟩:=mem_iff_getElem?.1 E;have G:K<pre.length:=(List.getElem?_eq_some_iff.1 z).1;have T:=HE hf (W9 (ts:=ts) I) (W9 (ts:=ts) (p:=K) (i:=i) (by rw[h.split,getElem?_append_left G];exact z));omega
 .cases b
def Xf.adv(hf:Ju ops [] qs ts){x:Nat}{rest:List Nat}(h:Xf S ops rl qs J a_0 Fin listed ac U pre (x::rest) C av val){v:Value}{o:Oper}(B:ops[x]?=some o)(w:x∉rl)
  (G:X2 S ops rl J Fin rest C (av.put o.dst v))
  (H:(Region.wanted o (yielded ops av.tmps)=false/\v=undef)\/(Region.wanted o (yielded ops av.tmps)=true/\∀U',J U'->QK S o av (λ L F=>L=v/\∃z,Qv F z/\U'.le z) U')) :
  Xf S ops rl qs J a_0 Fin listed ac U (pre++[x]) rest C (av.put o.dst v) (ZS val x v):=by
 obtain⟨E,I,K⟩:=h.note hf v;have f:=Jj.put hf E B;rw[HD]at f;refine⟨by rw[h.split];simp,G,h.mono,h.inJ,h.c,?_,I,λ i b=>mem_append_left _ (h.sub i b),h.size,h.down,?_,?_⟩
 .have e:(λ j=>j∈pre\/j=x)=(·∈pre++[x]):=by funext j;simp
  rw[<- e];exact f
 .intro i b hr;rcases mem_append.1 b with b|b
  .exact h.rels i b hr
  .simp at b;subst b;exact absurd hr w
 .intro i b hl;rcases mem_append.1 b with b|b
  .exact K i b hl
  .simp at b;subst b;refine⟨o,av,pre.length,(W7 h.split).2,B,by rw[(W7 h.split).1];exact E,?_⟩;rw[HD];exact H
def Yq(ops:Array Oper)(rl qs:List Nat):Prop:=∀p x,qs[p]?=some x->x∈rl->∀i∈qs.drop (p+1),i∉rl->∃r∈qs.drop p,r∈rl/\Z_ ops r i
def Xf.reach(hf:Ju ops [] qs ts)(E:Yq ops rl qs){i:Nat}(f:i∈qs)(Y:∀j∈Wt ops i,Li listed j) :
  ∀(L pre:List Nat)(C:Qa T->Prop)(av:Act)(val:Nat->Value),Xf S ops rl qs J a_0 Fin listed ac U pre L C av val->(i∈rl->(L.filter λ x=>rl.contains x).head?=some i) ->
   ∃z I X K H,Xf S ops rl qs J a_0 Fin listed ac U z I X K H/\(I.filter λ x=>rl.contains x)=(L.filter λ x=>rl.contains x)/\(i∈z\/∃rest,I=i::rest/\i∈rl):=by
 intro L
 induction L with
 |nil=>
  intro pre C av val h _;exact⟨pre,[],C,av,val,h,rfl,.inl (by have:=h.split;simp at this;exact this▸f)⟩
 |cons x rest W=>
  intro pre C av val h b;by_cases hx:x∈rl
  .by_cases e:x=i
   .subst e;exact⟨pre,_,C,av,val,h,rfl,.inr ⟨rest,rfl,hx⟩⟩
   .by_cases hpre:i∈pre
    .exact⟨pre,_,C,av,val,h,rfl,.inl hpre⟩
    .exfalso
     have hm:i∈rest:=by
      rw[h.split]at f;simp at f;rcases f with f|f|f
      .exact absurd f hpre
      .exact absurd f.symm e
      .exact f
     by_cases w:i∈rl
     .have:=b w;rw[filter_cons,if_pos (by simpa using hx)]at this;simp at this;exact e this
     .obtain⟨r,hr1,hr2,hb⟩:=E pre.length x (W7 h.split).2 hx i (by rw[h.split];simp[hm]) w;have Q:=h.sub r (J9 h.down hb Y);rw[h.split]at hr1;simp at hr1;have G:=(nodup_append.1 hf.nodup).1;rw[h.split]at G;exact(nodup_append.1 G).2.2 r Q r (by simpa using hr1) rfl
  .have hfil:((x::rest).filter λ x=>rl.contains x)=rest.filter λ x=>rl.contains x:=by rw[filter_cons,if_neg (by simpa using hx)]
   rw[hfil]at b ⊢;have B:=h.der;cases B with
   |un _ N V M=>exact W _ _ _ _ (h.adv hf N hx M (.inl ⟨V,rfl⟩)) b
   |det v _ N V P M=>exact W _ _ _ _ (h.adv hf N hx M (.inr ⟨V,P⟩)) b
   |rel F hm=>exact absurd hm hx
def pT(hf:Ju ops [] qs ts)(au:Yq ops rl qs)(a4:∀i∈ts,i∉rl){Q:Ex->Act->Qa T->Prop}:∀(r t:Nat)(listed:Array Bool)(ac:Act)(U:Qa T)(pre L:List Nat)(C:Qa T->Prop)(av:Act)(val:Nat->Value),
  Xf S ops rl qs J a_0 (λ a U=>QU S fn ro ops ts Q a U) listed ac U pre L C av val->(qs.filter λ i=>!listed.getD i false).length=r ->
  ((Region.linearise.go .any ops (r+ts.length) t listed []).filter λ x=>rl.contains x)=(L.filter λ x=>rl.contains x) ->
  QU S fn ro ops (Region.linearise.go .any ops (r+ts.length) t listed []) Q ac U:=by
 intro r
 induction r with
 |zero=>
  intro t listed ac U pre L C av val h hr _
  have Y:∀i∈qs,Li listed i:=by
   intro i hi;have:=filter_eq_nil_iff.1 (length_eq_zero_iff.1 hr) i hi;simpa[Li]using this
  have hL:L=[]:=by
   cases L with
   |nil=>rfl
   |cons x rest=>exact absurd (h.sub x (Y x (by rw[h.split];simp))) (PO hf h.split)
  subst hL;have E:pre=qs:=by have:=h.split;simp at this;exact this.symm
  subst E;have Z:=h.der;cases Z with
  |nil an=>
   have e:av=ac:=h.av.eq h.ac λ j=>⟨Y j,h.sub j⟩;have:=an U h.c;rw[e]at this;rw[Nat.zero_add,Lo hf ts.length 0 t listed O1 h.size λ i=>?_]
   .simpa using this
   .rw[Nat.add_zero,take_left']
    .exact⟨h.sub i,Y i⟩
    .rfl
 |succ r ih=>
  intro t listed ac U pre L C av val h hr B;obtain⟨q,hq⟩:∃q,q∈qs.filter λ i=>!listed.getD i false:=exists_mem_of_length_pos O1;have ay:=(mem_filter.1 hq).1;have ax:¬Li listed q:=by have:=(mem_filter.1 hq).2;simpa[Li]using this
  obtain⟨pq,a2⟩:=mem_iff_getElem?.1 ay;obtain⟨y,hy⟩:=VH hf h.size _ _ (W9 (ts:=ts) a2) ax;obtain⟨i,hi,t',a0⟩:=KT (k:=r+ts.length) (t:=t) (ne_nil_of_mem hy);have aa:=KV hi;have I:=(J2.1 hi).2.2;have aw:=(J2.1 hi).1
  have ap:i∈qs:=by
   rcases mem_append.1 ((hf.mem i).1 aw)with hm|hm
   .exact hm
   .obtain⟨p1,hp1⟩:=mem_iff_getElem?.1 hm;exact absurd (J9 h.down (hf.tail p1 i hp1 q (mem_append_left _ ay)) I) ax
  rw[show r+1+ts.length=(r+ts.length)+1 by omega,a0]at B ⊢;have z:∀j,Li (listed.setIfInBounds i true) j↔Li listed j\/j=i:=λ j=>Yd (by rw[h.size];exact aw)
  have G:(qs.filter λ x=>!(listed.setIfInBounds i true).getD x false).length=r:=by
   have a1:=(nodup_append.1 hf.nodup).1
   have e:(qs.filter λ x=>!(listed.setIfInBounds i true).getD x false)=(qs.filter λ x=>!listed.getD x false).filter (λ x=>x != i):=by
    rw[filter_filter];refine filter_congr λ x _=>?_;have:=z x;simp only[Li]at this;cases hx:(listed.setIfInBounds i true).getD x false <;> cases a5:listed.getD x false <;> by_cases e:x=i <;> simp_all
   rw[e,<- Nodup.erase_eq_filter (a1.filter _),length_erase_of_mem (mem_filter.2 ⟨ap,by simpa[Li]using aa⟩),hr];rfl
  have ad:i∈rl->(L.filter λ x=>rl.contains x).head?=some i:=λ K=>by
   rw[<- B,filter_cons,if_pos (by simpa using K)];rfl
  obtain⟨M,L',C',ae,W,f,am,af⟩:=Xf.reach hf au ap I L pre C av val h ad;rw[<- am]at B
  have P:∀j,Li (listed.setIfInBounds i true) j->∀k∈Wt ops j,Li (listed.setIfInBounds i true) k:=by
   intro j b k hk;rw[z]at b ⊢;rcases b with b|rfl
   .exact .inl (h.down j b k hk)
   .exact .inl (I k hk)
  have V:∀{val:Nat->Value}{o:Oper},ops[i]?=some o->Jj ops val (Li listed) a_0 ac->Jj ops val (Li (listed.setIfInBounds i true)) a_0 (ac.put o.dst (val i)):=by
   intro val o X ha;have:=Jj.put hf ha X;have e:Li (listed.setIfInBounds i true)=λ j=>Li listed j\/j=i:=by funext j;exact propext (z j)
   rw[e];exact this
  by_cases E:i∈M
  .obtain⟨o,ai,p,hp,X,hag,hh⟩:=f.pend i E aa;have aq:i∉rl:=λ K=>aa (f.rels i E K)
   have H:((Region.linearise.go .any ops (r+ts.length) t' (listed.setIfInBounds i true) []).filter λ x=>rl.contains x)=(L'.filter λ x=>rl.contains x):=by
    rw[<- B,filter_cons,if_neg (by simpa using aq)]
   have w:=PQ X (hf.nosel i o X) (a:=ac) (a':=ai) λ s hs=>f.ac.slot hag λ j b=>G_ hf f.down hp aa I hs b
   have next:∀N,U.le N->Xf S ops rl qs J a_0 (λ a U=>QU S fn ro ops ts Q a U) (listed.setIfInBounds i true) (ac.put o.dst (W i)) N M L' C' ae W:=λ N ag=>
    ⟨f.split,f.der,f.mono,f.inJ,f.mono _ _ f.c ag,f.av,V X f.ac,λ j b=>((z j).1 b).elim (f.sub j) (λ e=>e▸E),by simpa using f.size,P,λ j b hr=>(z j).2 (.inl (f.rels j b hr)),
     λ j b hl=>f.pend j b λ hx=>hl ((z j).2 (.inl hx))⟩
   rcases hh with⟨hw,hv⟩|⟨hw,ah⟩
   .refine P0 X (by rw[w.2];exact hw) ?_;have:=ih t' _ _ _ _ _ _ _ _ (next U (.refl U)) G H;rw[hv]at this;exact this
   .have ab:QK S o ac (λ v' U2=>v'=W i/\∃N,Qv U2 N/\U.le N) U:=by have:=ah U (f.inJ U f.c);unfold QK at this ⊢;rw[w.1];exact this
    refine XQ X (by rw[w.2];exact hw) (.inr (Po ab)) (Pp ab λ v U2 hv=>?_);obtain⟨rfl,N,hs,ag⟩:=hv;exact Gf hs (ih t' _ _ _ _ _ _ _ _ (next N ag) G H)
  .obtain⟨rest,rfl,K⟩:=af.resolve_left E
   have H:((Region.linearise.go .any ops (r+ts.length) t' (listed.setIfInBounds i true) []).filter λ x=>rl.contains x)=(rest.filter λ x=>rl.contains x):=by
    rw[filter_cons,if_pos (by simpa using K),filter_cons,if_pos (by simpa using K)]at B;exact(List.cons.inj B).2
   have Z:=f.der;cases Z with
   |un hx _ _ _=>exact absurd K hx
   |det _ hx _ _ _ _=>exact absurd K hx
   |@rel _ _ _ _ o F _ hF az X hw ah hd=>
    obtain⟨a3,ao⟩:=W7 f.split
    have w:=PQ X (hf.nosel i o X) (a:=ac) (a':=ae) λ s hs=>f.ac.slot f.av λ j b=>by
     have:=G_ hf f.down ao aa I hs b;rw[a3]at this;exact this
    have ab:QK S o ac (λ v' U2=>∃N,Qv U2 N/\F v' N) U:=by have:=ah U f.c;unfold QK at this ⊢;rw[w.1];exact this
    refine XQ X (by rw[w.2];exact hw) (.inr (Po ab)) (Pp ab λ v U2 hv=>?_);obtain⟨N,hs,aj⟩:=hv;refine Gf hs ?_;obtain⟨n1,n2,n3⟩:=f.note hf v;have al:=Jj.put hf n1 X;have ak:=V X n2;rw[HD]at al ak;refine ih t' _ _ N (M++[i]) rest (F v) (ae.put o.dst v) (ZS W i v) ⟨by rw[f.split];simp,hd v ⟨N,aj⟩,hF v,az v,aj,?_,ak,?_,by simpa using f.size,P,?_,?_⟩ G H
    .have e:(λ j=>j∈M\/j=i)=(·∈M++[i]):=by funext j;simp
     rw[<- e];exact al
    .intro j b;rcases(z j).1 b with b|rfl
     .exact mem_append_left _ (f.sub j b)
     .simp
    .intro j b hr;rw[z];rcases mem_append.1 b with b|b
     .exact .inl (f.rels j b hr)
     .exact .inr (by simpa using b)
    .intro j b hl;rcases mem_append.1 b with b|b
     .exact n3 j b λ hx=>hl ((z j).2 (.inl hx))
     .exact absurd ((z j).2 (.inr (by simpa using b))) hl
def vF(hf:Ju ops [] qs ts):∀(r t:Nat)(listed:Array Bool),listed.size=ops.size->(∀i,Li listed i->∀j∈Wt ops i,Li listed j)->((qs++ts).filter λ i=>!listed.getD i false).length=r ->
  let g:=Region.linearise.go .any ops r t listed [];(∀i,i∈g↔i<ops.size/\¬Li listed i)/\g.Nodup/\g.Pairwise λ i j=>¬Z_ ops j i:=by
 intro r
 induction r with
 |zero=>
  intro t listed K _ Q
  have G:∀i,i<ops.size->Li listed i:=λ i H=>by
   have:=filter_eq_nil_iff.1 (length_eq_zero_iff.1 Q) i ((hf.mem i).1 H);simpa[Li]using this
  simp only[Region.linearise.go,reverse_nil];exact⟨λ i=>⟨(λ h=>by cases h),λ h=>absurd (G i h.1) h.2⟩,Pairwise.nil,Pairwise.nil⟩
 |succ r X=>
  intro t listed K b Q;obtain⟨q,U⟩:∃q,q∈(qs++ts).filter λ i=>!listed.getD i false:=exists_mem_of_length_pos O1;have P:¬Li listed q:=by have:=(mem_filter.1 U).2;simpa[Li]using this
  obtain⟨pq,N⟩:=mem_iff_getElem?.1 (mem_filter.1 U).1;obtain⟨y,hy⟩:=VH hf K _ _ N P;obtain⟨i,H,V,L⟩:=KT (k:=r) (t:=t) (ne_nil_of_mem hy);have I:=KV H;have B:=(J2.1 H).2.2;have E:=(J2.1 H).1;have f:∀j,Li (listed.setIfInBounds i true) j↔Li listed j\/j=i:=λ j=>Yd (by rw[K];exact E)
  have z:∀j,Li (listed.setIfInBounds i true) j->∀k∈Wt ops j,Li (listed.setIfInBounds i true) k:=by
   intro j F k T;rw[f]at F ⊢;rcases F with F|rfl
   .exact .inl (b j F k T)
   .exact .inl (B k T)
  have w:((qs++ts).filter λ x=>!(listed.setIfInBounds i true).getD x false).length=r:=by
   have e:((qs++ts).filter λ x=>!(listed.setIfInBounds i true).getD x false)=((qs++ts).filter λ x=>!listed.getD x false).filter (λ x=>x != i):=by
    rw[filter_filter];refine filter_congr λ x _=>?_;have:=f x;simp only[Li]at this;cases hx:(listed.setIfInBounds i true).getD x false <;> cases W:listed.getD x false <;> by_cases e:x=i <;> simp_all
   rw[e,<- Nodup.erase_eq_filter (hf.nodup.filter _),length_erase_of_mem (mem_filter.2 ⟨(hf.mem i).1 E,by simpa[Li]using I⟩),Q];rfl
  obtain⟨S,Y,Z⟩:=X V _ (by simpa using K) z w;simp only;rw[L];have M:i∉Region.linearise.go .any ops r V (listed.setIfInBounds i true) []:=λ hm=>((S i).1 hm).2 ((f i).2 (.inr rfl));refine⟨λ j=>?_,nodup_cons.2 ⟨M,Y⟩,pairwise_cons.2 ⟨λ j F hb=>?_,Z⟩⟩
  .rw[mem_cons,S,f];by_cases e:j=i
   .subst e;simp[E,I]
   .simp[e]
  .exact((S j).1 F).2 ((f j).2 (.inl (J9 b hb B)))
end sound
def SX(b:Nat->Nat->Bool)(ok:List Nat->Bool):Nat->List Nat->List Nat->Bool
 |0,_,pre=>ok pre
 |n+1,rem,pre=>rem.all λ i=>(rem.any λ j=>j != i&&b j i)|| SX b ok n (rem.erase i) (pre++[i])
def Ep{G:Nat->Nat->Bool}{ok:List Nat->Bool}:∀(n:Nat)(rem pre ρ:List Nat),SX G ok n rem pre=true->rem.length=n->ρ.Perm rem->ρ.Nodup->(ρ.Pairwise λ i j=>G j i=false)->ok (pre++ρ)=true
 |0,rem,pre,ρ,h,B,b,_,_=>by
  have:ρ=[]:=length_eq_zero_iff.1 (by rw[b.length_eq,B]);subst this;rw[append_nil];exact h
 |n+1,rem,pre,ρ,h,B,b,E,hb=>by
  cases ρ with
  |nil=>have:=b.length_eq;simp at this;omega
  |cons i ρ=>
   have z:i∈rem:=b.subset (mem_cons_self ..);have f:=pairwise_cons.1 hb;have w:=nodup_cons.1 E;have h1:=all_eq_true.1 h i z;rw[Bool.or_eq_true]at h1;rcases h1 with h1|h1
   .obtain⟨j,hj,h2⟩:=any_eq_true.1 h1;rw[Bool.and_eq_true]at h2;have F:j≠i:=by simpa using h2.1
    rcases mem_cons.1 (b.symm.subset hj)with e|hm
    .exact absurd e F
    .rw[f.1 j hm]at h2;cases h2.2
   .have:=Ep n (rem.erase i) (pre++[i]) ρ h1 (by rw[length_erase_of_mem z,B];rfl) ((perm_cons_erase z).symm.trans b.symm|>.cons_inv|>.symm) w.2 f.2
    rwa [append_assoc]at this
def LI(ops:Array Oper)(rl qs:List Nat):Bool:=
 let b:=X1 ops ops.size
 (range qs.length).all λ p=>!rl.contains (qs.getD p 0)|| (qs.drop (p+1)).all λ i=>rl.contains i|| (qs.drop p).any λ r=>rl.contains r&&(b.getD i 0).testBit r
def Nl{ops:Array Oper}{rl qs:List Nat}(h:LI ops rl qs=true):Yq ops rl qs:=λ p x w hx i z b=>by
 have f:=(List.getElem?_eq_some_iff.1 w).1;have h1:=all_eq_true.1 h p (mem_range.2 f);have e:qs.getD p 0=x:=by rw[getD_eq_getElem?_getD,w];rfl
 rw[e]at h1;simp only[Bool.or_eq_true,Bool.not_eq_true']at h1;rcases h1 with h1|h1
 .rw[show rl.contains x=true by simpa using hx]at h1;cases h1
 .have h2:=all_eq_true.1 h1 i z;rw[Bool.or_eq_true]at h2;rcases h2 with h2|h2
  .exact absurd (by simpa using h2) b
  .obtain⟨r,hr,h3⟩:=any_eq_true.1 h2;rw[Bool.and_eq_true]at h3;exact⟨r,hr,by simpa using h3.1,Wm ops _ _ _ h3.2⟩
def SW(ops:Array Oper)(rl:List Nat)(alts:List (List Nat))(ts:List Nat):Bool:=
 !alts.isEmpty&&alts.all (λ qs=>PW ops [] qs ts&&LI ops rl qs)&&ts.all (λ i=>!rl.contains i)&&(decide rl.Nodup&&rl.all λ i=>decide (i<ops.size)) &&
 SX (λ j i=>((X1 ops ops.size).getD i 0).testBit j) (λ ρ=>alts.any λ qs=>(qs.filter λ x=>rl.contains x)==ρ) rl.length rl []
def L5{J:Qa T->Prop}{Q:Ex->Act->Qa T->Prop}{a:Act}{U:Qa T}{id:Nat}{ops:Array Oper}(rl:List Nat)(alts:List (List Nat))(ts:List Nat)(C:Qa T->Prop)(hC:Xz C)(M:∀U',C U'->J U')(N:C U)(hm:P.follows .mixedOrders=true)(E:SW ops rl alts ts=true)
  (h:∀qs∈alts,X2 S ops rl J (λ a U=>QU S fn ro ops ts Q a U) qs C a):Zq S fn ro (.region id ops true) Q a U:=by
 unfold SW at E;simp only[Bool.and_eq_true,Bool.not_eq_true']at E;obtain⟨⟨⟨⟨h1,h2⟩,h3⟩,h4,h5⟩,h6⟩:=E
 have Y:∀i∈ts,i∉rl:=λ i V hr=>by
  have:=all_eq_true.1 h3 i V;rw[show rl.contains i=true by simpa using hr]at this;cases this
 have W:rl.Nodup:=of_decide_eq_true h4;have X:∀i∈rl,i<ops.size:=λ i V=>of_decide_eq_true (all_eq_true.1 h5 i V)
 have w:∀qs∈alts,Ju ops [] qs ts/\Yq ops rl qs:=λ qs G=>by
  have:=all_eq_true.1 h2 qs G;rw[Bool.and_eq_true]at this;exact⟨F9 this.1,Nl this.2⟩
 have f:∀i,¬Li (Array.replicate ops.size false) i:=by
  intro i h;simp only[Li,Array.getD_eq_getD_getElem?,Array.getElem?_replicate]at h;split at h <;> simp at h
 have b:∀l:List Nat,(l.filter λ i=>!(Array.replicate ops.size false).getD i false).length=l.length:=λ l=>by
  congr 1;rw[filter_eq_self];intro x _;have:=f x;simp only[Li]at this;simpa using this
 have z:∀qs∈alts,ops.size=qs.length+ts.length:=λ qs G=>by
  have hf:=(w qs G).1
  have h1:(qs++ts).Perm (range ops.size):=by
   refine(perm_ext_iff_of_nodup hf.nodup nodup_range).2 λ x=>?_;rw[mem_range];exact(hf.mem x).symm
  have:=h1.length_eq;simp at this;omega
 refine L6 λ t=>?_;simp only[Region.schedule,hm,Bool.true_or,if_true,Region.linearise];obtain⟨L,K⟩:∃q,q∈alts:=by cases alts with|nil=>cases h1|cons q _=>exact⟨q,mem_cons_self ..⟩
 obtain⟨g1,Z,g3⟩:=vF (w L K).1 ops.size t (Array.replicate ops.size false) S1 (λ i h=>absurd h (f i)) (by rw[b,length_append,<- z L K])
 have F:((Region.linearise.go .any ops ops.size t (Array.replicate ops.size false) []).filter λ x=>rl.contains x).Perm rl:=by
  refine(perm_ext_iff_of_nodup (Z.filter _) W).2 λ x=>?_;rw[mem_filter,g1];constructor
  .rintro⟨_,h⟩;simpa using h
  .intro h;exact⟨⟨X x h,f x⟩,by simpa using h⟩
 have H:=Ep rl.length rl [] _ h6 rfl F (Z.filter _) ((g3.filter _).imp λ{i j}hb=>by
  cases hx:((X1 ops ops.size).getD i 0).testBit j with
  |false=>rfl
  |true=>exact absurd (Wm ops _ _ _ hx) hb)
 obtain⟨qs,B,G⟩:=any_eq_true.1 H;have G:(qs.filter λ x=>rl.contains x)=(Region.linearise.go .any ops ops.size t (Array.replicate ops.size false) []).filter λ x=>rl.contains x:=by simpa using G
 obtain⟨hf,I⟩:=w qs B
 have:=pT (S:=S) (fn:=fn) (ro:=ro) (Q:=Q) (J:=J) hf I Y qs.length t (Array.replicate ops.size false) a U [] qs C a (λ _=>undef)
  ⟨rfl,h qs B,hC,M,N,⟨rfl,rfl,λ _ _ _ h=>by simp at h,λ _ _=>rfl⟩,⟨rfl,rfl,λ _ j _ h=>absurd h (f j),λ _ _=>rfl⟩,λ i h=>absurd h (f i),S1,λ i h=>absurd h (f i),S1,S1⟩ (b qs) (by rw[<- z qs B,G])
 rw[<- z qs B]at this;exact this
end Go.TM
set_option linter.unusedSimpArgs false
namespace Go.TM
variable{T:Type}{P:Program}{S:Sys P T}{fn:FuncId}{ro:Option Nat}
def V8(S:Sys P T)(w:Qa T)(kd:Nat)(st:St)(z:(Qa T->Prop)->Zj T->Fm->List Deferred->Prop)(C:Qa T->Prop)(K:Zj T)(ds:List Deferred)(f:Fm):Prop:=match kd with
 |0=>OX S st.o f (λ v _=>z C K (ZC f st.dst v) ds) w
 |1=>∃v,(∀U',w.lg U'->OX S st.o f (λ B h=>B=v/\∃b,Qv h b/\U'.le b) U')/\z C K (ZC f st.dst v) ds
 |_=>∃F:Value->Qa T->Prop,(∀v,Xz (F v))/\(∀v U',F v U'->w.lg U')/\(∀U',C U'->OX S st.o f (λ B h=>∃b,Qv h b/\F B b) U')/\∀v,(∃U',F v U')->z (F v) K (ZC f st.dst v) ds
def V7(S:Sys P T)(z:Qa T)(kd:Nat)(st:St)(w:(Qa T->Prop)->Zj T->Fm->List Deferred->Prop)(C:Qa T->Prop)(K:Zj T)(f:Fm)(ds:List Deferred):Prop:=match st.g with
 |some (j,h)=>(match f j with
  |.bool b=>GB b h (V8 S z kd st w C K ds (JG f j (.bool h))) (w C K (ZC (JG f j (.bool !h)) st.dst undef) ds)
  |.tuple _=>w C K (ZC f st.dst undef) ds
  |_=>False)
 |none=>V8 S z kd st w C K ds f
def XW(S:Sys P T)(b:Qa T)(l:List (Nat×St)):(Qa T->Prop)->Zj T->Fm->List Deferred->Prop:=
 List.rec (motive:=λ _=>(Qa T->Prop)->Zj T->Fm->List Deferred->Prop) (λ C K f ds=>∀U',C U'->K f ds U') (λ p _ h=>V7 S b p.1 p.2 h) l
def IL(S:Sys P T)(b:Qa T)(kd:Nat)(st:St)(r:List (Nat×St)):XW S b ((kd,st)::r)=V7 S b kd st (XW S b r):=rfl
def zT{o:O}{f:Fm}{K:Value->Qa T->Prop}{U:Qa T}(z:stable o=true)(h:OX S o f K U):∃v,K v U/\∀(U':Qa T)(w:Value->Qa T->Prop),U.lg U'->w v U'->OX S o f w U':=by
 by_cases hl:Gs o=true
 .cases o with
  |ld x=>
   simp only[OX,Qy]at h;split at h <;> rename_i e
   .obtain⟨v,a,b⟩:=h;exact⟨v,b,λ U' w hl k=>by simp only[OX,Qy,e];exact⟨v,a.lg hl,k⟩⟩
   .exact h.elim
  |ldn n x=>
   simp only[OX]at h;split at h <;> rename_i e
   .obtain⟨v,a,b⟩:=h;exact⟨_,b,λ U' w hl k=>by simp only[OX,Qy,e];exact⟨v,⟨a.1,a.2.lg hl⟩,k⟩⟩
   .exact h.elim
  |_=>cases hl
 .obtain⟨v,a,b⟩:=OX.stable z h;exact⟨v,a,λ U' w _ k=>b U' w (.inl (by simpa using hl)) k⟩
def W_(P:Program)(mu:List Nat)(ops:Array Oper)(rl:List Nat)(i:Nat):Nat:=
 if rl.contains i then 2 else match ops[i]? with
  |some o=>if stable (Q6 P mu o)then 0 else 1
  |none=>1
def L9{N:Nat}{mu:List Nat}{ops:Array Oper}{Fin:Act->Qa T->Prop}{K:Zj T}{Y:Qa T}{rl:List Nat}(aa:∀a f ds U',FR N a f ds->K f ds U'->Fin a U')(hN:∀(i:Nat)(o:Oper),ops[i]?=some o->∀d,o.dst=some d->d<N) :
  ∀(z:List Nat)(l:List (Nat×St)),z.mapM (λ i=>((ops[i]?).bind (Jg P mu ops)).map λ st=>(W_ P mu ops rl i,st))=some l->(l.all λ x=>x.2.dfr.isNone)=true->(∀i∈z,∀o,ops[i]?=some o->o.guard=none\/i∉rl) ->
   ∀(a:Act)(f:Fm)(ds:List Deferred)(C:Qa T->Prop),FR N a f ds->XW S Y l C K f ds->X2 S ops rl (λ U'=>Y.lg U') Fin z C a:=by
 intro z
 induction z with
 |nil=>
  intro l hl _ _ a f ds C hf h;simp at hl;subst hl;exact .nil λ U' hc=>aa a f ds U' hf (h U' hc)
 |cons i z ih=>
  intro l hl E ab a f ds C hf h;simp only[mapM_cons,Option.pure_def,Option.bind_eq_bind,Option.bind_eq_some_iff,Option.map_eq_some_iff]at hl;obtain⟨x,⟨st,⟨o,H,W⟩,rfl⟩,l',hl',e⟩:=hl;cases e;simp only[all_cons,Bool.and_eq_true]at E;have X:=hN i o H;have B:=ih l' hl' E.2 (λ j hj=>ab j (mem_cons_of_mem _ hj))
  have L:(i∈rl/\W_ P mu ops rl i=2)\/(i∉rl/\W_ P mu ops rl i=0/\stable (Q6 P mu o)=true)\/(i∉rl/\W_ P mu ops rl i=1):=by
   unfold W_;by_cases G:i∈rl
   .exact .inl ⟨G,by rw[if_pos (by simpa using G)]⟩
   .rw[if_neg (by simpa using G),H];by_cases V:stable (Q6 P mu o)=true
    .exact .inr (.inl ⟨G,by simp only[V,if_true],V⟩)
    .exact .inr (.inr ⟨G,by simp only[V];rfl⟩)
  have run:∀{f:Fm}{st:St},st.o=Q6 P mu o->st.dst=o.dst->FR N a f ds->Region.wanted o (yielded ops a.tmps)=true->V8 S Y (W_ P mu ops rl i) st (XW S Y l') C K ds f->X2 S ops rl (λ U'=>Y.lg U') Fin (i::z) C a:=by
   intro f st e1 e2 hf I h;unfold V8 at h;rw[e1,e2]at h;rcases L with⟨G,L⟩|⟨G,L,V⟩|⟨G,L⟩
   .rw[L]at h;obtain⟨F,hF,ac,Q,hn⟩:=h;refine .rel F G hF ac H I (λ U' hc=>?_) (λ v hv=>B _ _ _ _ (hf.put o.dst v X) (hn v hv));exact W1 (λ x=>hf.eval x) (λ v' U2 U3 V⟨U1,a,b⟩=>⟨U1,V.trans a,b⟩) (Q U' hc)
   .rw[L]at h;obtain⟨v,hn,W⟩:=zT V h;refine .det v G H I (λ U' M=>?_) (B _ _ _ _ (hf.put o.dst v X) hn);exact W1 (λ x=>hf.eval x) Jq (W U' _ M ⟨rfl,U',.refl _,.refl _⟩)
   .rw[L]at h;obtain⟨v,Q,hn⟩:=h;refine .det v G H I (λ U' M=>?_) (B _ _ _ _ (hf.put o.dst v X) hn);exact W1 (λ x=>hf.eval x) Jq (Q U' M)
  cases Va W with
  |plain ad hg=>simp only[IL,V7]at h;exact run rfl rfl hf (Wl hg) h
  |@guarded j w d ad hg Z=>
   simp only[IL,V7]at h;have U:i∉rl:=(ab i (mem_cons_self ..) o H).resolve_left (by rw[hg];simp);split at h
   .rename_i b hb;have I:=YX (ops:=ops) (o:=o) hg Z (hf.slot hb);have e:JG f d (.bool b)=f:=K_ hb;cases b <;> cases w <;> simp only[GB,Bool.not_true,Bool.not_false]at h <;> rw[e]at h
    .exact run rfl rfl hf (by rw[I];rfl) h
    .exact .un U H (by rw[I];rfl) (B _ _ _ _ (hf.put o.dst undef X) h)
    .exact .un U H (by rw[I];rfl) (B _ _ _ _ (hf.put o.dst undef X) h)
    .exact run rfl rfl hf (by rw[I];rfl) h
   .rename_i vs hb;exact .un U H (Oh hf hg Z hb) (B _ _ _ _ (hf.put o.dst undef X) h)
   .exact h.elim
  |dfr=>simp at E
def Gy(N:Nat)(ops:Array Oper)(rl:List Nat)(alts:List (List Nat))(ts:List Nat):Bool:=
 SW ops rl alts ts&&ops.all (GM N)&&rl.all λ i=>((ops[i]?).map (·.guard.isNone)).getD true
def vp{N:Nat}{mu:List Nat}{c:Code}{id:Nat}{ops:Array Oper}{n:Zj T}{x:Nat->Zj T}{r:Zj T}{f:Fm}{ds:List Deferred}{U:Qa T}(rl:List Nat)(alts:List (List Nat))(ts:List Nat)(I:List (List (Nat×St)))(lt:List St)(hm:P.follows .mixedOrders=true)
  (hc:c=.region id ops true) (b:Gy N ops rl alts ts=true) (G:alts.mapM (λ qs=>qs.mapM λ i=>((ops[i]?).bind (Jg P mu ops)).map λ st=>(W_ P mu ops rl i,st))=some I) (W:ts.mapM (λ i=>(ops[i]?).bind (Jg P mu ops))=some lt)
  (F:(I.all λ l=>l.all λ x=>x.2.dfr.isNone)=true) (E:Zj T) (h:∀l∈I,XW S U.frz l (λ U'=>U.le U') E f ds) (Z:∀B w U',E B w U'->JS S ro lt n B w U'):UA S fn ro N c n x r f ds U:=by
 subst hc;intro a hf;unfold Gy at b;simp only[Bool.and_eq_true]at b;obtain⟨⟨b,V⟩,hg⟩:=b
 have Y:∀(i:Nat)(o:Oper),ops[i]?=some o->∀d,o.dst=some d->d<N:=λ i o H d hd=>by
  have:=(Array.all_eq_true'.1 V) o (Array.mem_of_getElem? H);unfold GM at this;rw[hd]at this;exact of_decide_eq_true this
 have Q:∀i∈rl,∀o,ops[i]?=some o->o.guard=none:=λ i L o H=>by
  have:=all_eq_true.1 hg i L;rw[H]at this;simpa using this
 refine L5 (J:=λ U'=>U.frz.lg U') rl alts ts (λ U'=>U.le U') (λ _ _ h k=>h.trans k) (λ U' h=>⟨h.imm,⟨_,(append_nil _).symm⟩,h.tok⟩) (.refl U) hm b λ qs z=>?_
 obtain⟨l,hl,hl'⟩:∃l,l∈I/\qs.mapM (λ i=>((ops[i]?).bind (Jg P mu ops)).map λ st=>(W_ P mu ops rl i,st))=some l:=by
  clear h F b
  induction alts generalizing I with
  |nil=>cases z
  |cons q alts ih=>
   simp only[mapM_cons,Option.pure_def,Option.bind_eq_bind,Option.bind_eq_some_iff]at G;obtain⟨l,h1,X,h2,e⟩:=G;cases e;rcases mem_cons.1 z with rfl|z
   .exact⟨l,mem_cons_self ..,h1⟩
   .obtain⟨l',h3,h4⟩:=ih X h2 z;exact⟨l',mem_cons_of_mem _ h3,h4⟩
 refine L9 (K:=E) (λ a' B w U' M hk=>?_) Y qs l hl' (all_eq_true.1 F l hl) (λ i _ o H=>?_) a f ds _ hf (h l hl)
 .refine PP (n:=n) (λ a f ds U hf h=>?_) Y ts lt W a' B w U' M (Z B w U' hk);refine⟨by rw[hf.size,‹FR N _ _ _›.size],f,hf.get,?_⟩;rw[hf.ds];exact h
 .by_cases L:i∈rl
  .exact .inl (Q i L o H)
  .exact .inr L
def Sp{N:Nat}{mu:List Nat}{c:Code}{id:Nat}{ops:Array Oper}{Q:Ex->Act->Qa T->Prop}{a:Act}{f:Fm}{ds:List Deferred}{U:Qa T}(hf:FR N a f ds)(rl:List Nat)(alts:List (List Nat))(ts:List Nat)(w:List (List (Nat×St)))(lt:List St)(hm:P.follows .mixedOrders=true)
  (L:c=.region id ops true) (H:Gy N ops rl alts ts=true) (F:alts.mapM (λ qs=>qs.mapM λ i=>((ops[i]?).bind (Jg P mu ops)).map λ st=>(W_ P mu ops rl i,st))=some w) (G:ts.mapM (λ i=>(ops[i]?).bind (Jg P mu ops))=some lt)
  (B:(w.all λ l=>l.all λ x=>x.2.dfr.isNone)=true) (E:Zj T) (h:∀l∈w,XW S U.frz l (λ U'=>U.le U') E f ds) (K:∀z b U',E z b U'->JS S ro lt (λ f ds U=>∀a',FR N a' f ds->Q .normal a' U) z b U'):Zq S fn ro c Q a U:=by
 have:=vp (S:=S) (fn:=fn) (ro:=ro) (n:=λ f ds U=>∀a',FR N a' f ds->Q .normal a' U) (x:=λ _ _ _ _=>False) (r:=λ _ _ _=>False) (U:=U) rl alts ts w lt hm L H F G B E h K a hf;refine Zq.mono this λ e a' U'⟨V,z,M,I⟩=>?_;cases e with
 |normal=>exact I a' ⟨rfl,by rw[V];exact hf.size,M⟩
 |exit i=>exact I.elim
 |ret=>exact I.elim
structure Hy(U:Qa T)(b:Nat)(e:TypeId)(c:Array Value)(U':Qa T):Prop where
 imm:∀x o,U.I x=some o->U'.I x=some o
 own:U'.M=.obj b (.cells c e (0,0))::U.M
 tok:U'.tok=U.tok
 new:U.I b=none
def Hy.le{U U' U'':Qa T}{b:Nat}{e:TypeId}{c:Array Value}(h:Hy U b e c U')(k:U'.le U''):Hy U b e c U'':=⟨λ x o i=>k.imm x o (h.imm x o i),k.own.trans h.own,k.tok.trans h.tok,h.new⟩
def Hy.frz2{U U':Qa T}{b:Nat}{e:TypeId}{c:Array Value}(h:Hy U b e c U'):U.frz.lg U'.frz:=⟨h.imm,⟨[],rfl⟩,h.tok⟩
def Hy.write{U U':Qa T}{b:Nat}{e:TypeId}{c:Array Value}{vs:List Value}{Q:Qa T->Prop}(h:Hy U b e c U')(w:c.size=vs.length)(B:∀v∈vs,v.single=true)(z:∀f,U.le f->Zi f b vs.toArray->Q f):QX ⟨b,0,none⟩ vs 0 (λ U'=>∃f,Qv U' f/\Q f) U':=by
 refine Yc [] vs 0 c U' h.own B O1 ?_;rw[Pj w];refine⟨_,Wa (b:=b) (M':=U.M) (Perm.refl _),z _ ⟨λ x o i=>?_,rfl,h.tok⟩ Zi.new⟩;show JC U'.I b _ x=_;unfold JC;rw[if_neg]
 .exact h.imm x o i
 .rintro rfl;rw[h.new]at i;cases i
end Go.TM
set_option linter.unusedSimpArgs false
namespace Go.TM
variable{T:Type}{P:Program}{S:Sys P T}{fn:FuncId}{ro:Option Nat}
def wY{N:Nat}{mu:List Nat}{c:Code}{id:Nat}{ops:Array Oper}{n:Zj T}{x:Nat->Zj T}{r:Zj T}{f:Fm}{ds:List Deferred}{U:Qa T}(M:Qa T)(Q:M.lg U)(rl:List Nat)(alts:List (List Nat))(ts:List Nat)(I:List (List (Nat×St)))(lt:List St)(hm:P.follows .mixedOrders=true)
  (hc:c=.region id ops true) (b:Gy N ops rl alts ts=true) (G:alts.mapM (λ qs=>qs.mapM λ i=>((ops[i]?).bind (Jg P mu ops)).map λ st=>(W_ P mu ops rl i,st))=some I) (Y:ts.mapM (λ i=>(ops[i]?).bind (Jg P mu ops))=some lt)
  (F:(I.all λ l=>l.all λ x=>x.2.dfr.isNone)=true) (E:Zj T) (h:∀l∈I,XW S M l (λ U'=>U.le U') E f ds) (hE:∀B w U',E B w U'->JS S ro lt n B w U'):UA S fn ro N c n x r f ds U:=by
 subst hc;intro a hf;unfold Gy at b;simp only[Bool.and_eq_true]at b;obtain⟨⟨b,X⟩,hg⟩:=b
 have hN:∀(i:Nat)(o:Oper),ops[i]?=some o->∀d,o.dst=some d->d<N:=λ i o H d hd=>by
  have:=(Array.all_eq_true'.1 X) o (Array.mem_of_getElem? H);unfold GM at this;rw[hd]at this;exact of_decide_eq_true this
 have W:∀i∈rl,∀o,ops[i]?=some o->o.guard=none:=λ i L o H=>by
  have:=all_eq_true.1 hg i L;rw[H]at this;simpa using this
 refine L5 (J:=λ U'=>M.lg U') rl alts ts (λ U'=>U.le U') (λ _ _ h k=>h.trans k) (λ U' h=>Q.trans h.lg) (.refl U) hm b λ qs z=>?_
 obtain⟨l,hl,hl'⟩:∃l,l∈I/\qs.mapM (λ i=>((ops[i]?).bind (Jg P mu ops)).map λ st=>(W_ P mu ops rl i,st))=some l:=by
  clear h F b
  induction alts generalizing I with
  |nil=>cases z
  |cons q alts ih=>
   simp only[mapM_cons,Option.pure_def,Option.bind_eq_bind,Option.bind_eq_some_iff]at G;obtain⟨l,h1,Z,h2,e⟩:=G;cases e;rcases mem_cons.1 z with rfl|z
   .exact⟨l,mem_cons_self ..,h1⟩
   .obtain⟨l',h3,h4⟩:=ih Z h2 z;exact⟨l',mem_cons_of_mem _ h3,h4⟩
 refine L9 (K:=E) (λ a' B w U' V hk=>?_) hN qs l hl' (all_eq_true.1 F l hl) (λ i _ o H=>?_) a f ds _ hf (h l hl)
 .refine PP (n:=n) (λ a f ds U hf h=>?_) hN ts lt Y a' B w U' V (hE B w U' hk);refine⟨by rw[hf.size,‹FR N _ _ _›.size],f,hf.get,?_⟩;rw[hf.ds];exact h
 .by_cases L:i∈rl
  .exact .inl (W i L o H)
  .exact .inr L
def Is{N:Nat}{mu:List Nat}{c:Code}{id:Nat}{ops:Array Oper}{Q:Ex->Act->Qa T->Prop}{a:Act}{f:Fm}{ds:List Deferred}{U:Qa T}(hf:FR N a f ds)(z:Qa T)(F:z.lg U)(rl:List Nat)(alts:List (List Nat))(ts:List Nat)(w:List (List (Nat×St)))(lt:List St)(hm:P.follows .mixedOrders=true)
  (V:c=.region id ops true) (K:Gy N ops rl alts ts=true) (H:alts.mapM (λ qs=>qs.mapM λ i=>((ops[i]?).bind (Jg P mu ops)).map λ st=>(W_ P mu ops rl i,st))=some w) (I:ts.mapM (λ i=>(ops[i]?).bind (Jg P mu ops))=some lt)
  (G:(w.all λ l=>l.all λ x=>x.2.dfr.isNone)=true) (E:Zj T) (h:∀l∈w,XW S z l (λ U'=>U.le U') E f ds) (M:∀B b U',E B b U'->JS S ro lt (λ f ds U=>∀a',FR N a' f ds->Q .normal a' U) B b U'):Zq S fn ro c Q a U:=by
 have:=wY (S:=S) (fn:=fn) (ro:=ro) (n:=λ f ds U=>∀a',FR N a' f ds->Q .normal a' U) (x:=λ _ _ _ _=>False) (r:=λ _ _ _=>False) (U:=U) z F rl alts ts w lt hm V K H I G E h M a hf;refine Zq.mono this λ e a' U'⟨X,B,W,L⟩=>?_;cases e with
 |normal=>exact L a' ⟨rfl,by rw[X];exact hf.size,W⟩
 |exit i=>exact L.elim
 |ret=>exact L.elim
end Go.TM
set_option linter.unusedSimpArgs false
namespace Go.TM
variable{T:Type}{P:Program}{S:Sys P T}{f:Fm}{K:Value->Qa T->Prop}{U:Qa T}
def Nq{t t2 e e2 n ty:Nat}{z v:Value}{F:TypeInfo}{x y:Operand}{ya:Option Addr}{yl yc:Nat}{cs new:List Value}{M₀:List Qw}
  (hu:P.underlying t=some (.slice e)) (am:P.underlying t2=some (.slice e2)) (E:P.info? e=some F) (al:F.size=n) (hz:F.zero=some z) (an:z.cells.size=n) (Y:F.bytes≠0/\F.bytes<=1024)
  (hx:Zf f x=v) (hy:Zf f y=.slice ya yl yc) (ha:Acc e n v cs U.M M₀) (V:Src U ya new) (hl:new.length=yl*n) (hn:0<n) (W:∀w∈new,w.single=true) (ao:cs.length+new.length<=1048576)
  (aj:new≠[]) (h:∀v' M' Z,Acc e n v' (cs++new) M' (Z++M₀)->(∀Q B,Acc e n v' (cs++new) Q (Z++B)->∃M3:List Qw,M3.Sublist Q/\Acc e n v cs M3 B)->K v' { U with M:=M' }) :
  OX S (.raw { dst:=none,op:=.call { callee:=.builtin .append,args:=#[x,y],argTypes:=#[t,t2] },type:=ty,pos := "", after:=#[],guard:=none }) f K U:=by
 intro a' ah;obtain⟨sa,sl,sc,G,I,ak⟩:=ha.src;have hm:(#[x,y]:Array Operand).map a'.eval=#[.slice sa sl sc,.slice ya yl yc]:=by simp[ah,hx,hy,G]
 simp only[execOp,resolve,hm,Qd,Qi,invoke,builtin];show Qq P (Builtin.append_ #[t,t2] ty #[.slice sa sl sc,.slice ya yl yc]) _ U;unfold Builtin.append_;simp only[getElem?_toArray,getElem?_cons_zero,getElem?_cons_succ,Qd,Zb hu,Zb am,Jd E,al,Qi,Bool.false_eq_true,if_false,Builtin.lenOf,We E,false_or,Bool.not_false,if_true];have au:sl<=cs.length:=by rw[I];exact Nat.le_mul_of_pos_right _ hn
 have av:yl<=new.length:=by rw[hl];exact Nat.le_mul_of_pos_right _ hn
 have T:(cs++new).length=(sl+yl)*n:=by rw[length_append,I,hl,Nat.add_mul]
 split
 .rename_i hle;rw[Qd];refine XP V hl ?_;rcases ha with⟨rfl,rfl,X⟩|⟨b,c,len,cap,rfl,h1,h2,h3,X,h4⟩
  .cases G;have:yl=0:=O1
   subst this;have ab:new=[]:=by simpa using hl
   exact absurd ab aj
  .cases G;simp only[Qd];refine Ww _ _ _ ?_;rw[Qo]
   have L:0+sl*n+0+new.length<=c.size:=by
    have:(sl+yl)*n<=sc*n:=Nat.mul_le_mul_right n hle;rw[Nat.add_mul]at this;rw[h3,hl];omega
   refine H5 _ _ c U X W L ?_;refine⟨_,.refl _,h _ _ [] (.inr ⟨b,_,sl+yl,sc,rfl,T,hle,by rw[VG];exact h3,rfl,λ i x E=>?_⟩) λ Q B H=>?_⟩
   .rw[Pk _ _ _ _ _ L];simp only[getElem?_append]at E;split at E
    .rename_i ai;rw[if_neg O1];exact h4 i x E
    .rename_i hge;have ai:=(List.getElem?_eq_some_iff.1 E).1;rw[if_pos O1];rw[show i-(0+sl*n+0)=i-cs.length by omega];exact E
   .rcases H with⟨N,_,_⟩|⟨b',c',ac,cap',N,g1,g2,g3,g4,g5⟩
    .cases N
    .cases N;refine⟨_,.refl _,.inr ⟨b,c',sl,sc,rfl,I,O1,g3,g4,λ i x E=>?_⟩⟩;refine g5 i x ?_;rw[getElem?_append_left (List.getElem?_eq_some_iff.1 E).1];exact E
 .rename_i hgt;have af:¬(((sl+yl:Nat):Int) > IntKind.i64.max/\F.bytes=0):=λ h=>Y.1 h.2
  have ag:¬(Builtin.nextslicecap (sl+yl) sc*F.bytes > 2^48):=by
   have:=QF (need:=sl+yl) (old:=sc) O1;have h2:Builtin.nextslicecap (sl+yl) sc*F.bytes<=(2*(sl+yl)+192)*1024:=Nat.mul_le_mul this Y.2;have ad:(2:Nat)^48=281474976710656:=D1
   rw[ad];omega
  simp only[We E,Qd];rw[if_neg af];simp only[We E,Qd];rw[if_neg ag];simp only[choose,Qd];show ∀tt,Qq P _ _ U;intro tt;show Qq P (typeInfo e) _ U;rw[We E];refine PT ?_;refine XP ak I ?_;refine XP V hl ?_;simp only[X7 E hz];refine Jh λ b' aq=>?_;have aa:sl+yl<=Question.cut (.appendCap (sl+yl) sc e) tt:=by simp only[Question.cut];omega
  obtain⟨Z,hZ,ae⟩:∃Z,U.M=Z++M₀/\∀B,Acc e n (.slice sa sl sc) cs (Z++B) B:=by
   rcases ha with⟨N,e2,X⟩|⟨b,c,len,cap,N,g1,g2,g3,X,g5⟩
   .exact⟨[],X,λ B=>.inl ⟨by rw[<- G];exact N,e2,rfl⟩⟩
   .exact⟨[_],X,λ B=>.inr ⟨b,c,len,cap,by rw[<- G];exact N,g1,g2,g3,rfl,g5⟩⟩
  refine⟨_,.refl _,h _ _ Z (.inr ⟨b',_,sl+yl,Question.cut (.appendCap (sl+yl) sc e) tt,rfl,T,aa,?_,by rw[<- hZ],λ i x E=>?_⟩) λ Q B H=>?_⟩
  .simp only[Array.size_append,size_toArray,I,hl,Builtin.zeroCells,Array.size_map,Array.size_range,an];rw[<- Nat.add_mul,<- Nat.add_mul];congr 1;omega
  .have:(cs.toArray++new.toArray)=(cs++new).toArray:=S1
   rw[this,Array.getElem?_append_left (by simpa using(List.getElem?_eq_some_iff.1 E).1)];simpa using E
  .refine⟨Z++B,?_,by rw[G];exact ae B⟩;rcases H with⟨N,_,_⟩|⟨ap,c',ac,cap',N,g1,g2,g3,g4,g5⟩
   .cases N
   .rw[g4];exact sublist_cons_self _ _
def Dy{t e n X:Nat}{v:Value}{x y:Operand}{N:Option Addr}{yl Y:Nat}{cs new:List Value}{M₀:List Qw}(k:X6 P t e n)
  (hx:Zf f x=v) (hy:Zf f y=.slice N yl Y) (ha:Acc e n v cs U.M M₀) (G:Src U N new) (hl:new.length=yl*n) (b:∀w∈new,w.single=true) (F:cs.length+new.length<=1048576) (H:new≠[])
  (h:∀I M' Z,Acc e n I (cs++new) M' (Z++M₀)->(∀E B,Acc e n I (cs++new) E (Z++B)->∃L:List Qw,L.Sublist E/\Acc e n v cs L B)->K I { U with M:=M' }) :
  OX S (.raw { dst:=none,op:=.call { callee:=.builtin .append,args:=#[x,y],argTypes:=#[t,t] },type:=X,pos := "", after:=#[],guard:=none }) f K U:=by
 obtain⟨W,z,h1,h2,Q,T,h5,V⟩:=k.i;exact Nq k.u k.u h1 h2 Q T ⟨h5,V⟩ hx hy ha G hl k.n b F H h
end Go.TM
namespace Go.TM
section
variable{T:Type}{P:Program}{S:Sys P T}
def Xy(S:Sys P T)(f:FuncId)(args:Array Value)(Q:Qa T->Prop)(U:Qa T):Prop:=
 ∀(Stop:QI T)(m:Bool)(c:Frame)(cs:List Frame),c.mode=.returning->(∀U',Q U'->J S Stop m (Rf c cs) U')->J S Stop m (Rf (Frame.enter P f args .deferred) (c::cs)) U
def Xy.mono{f:FuncId}{args:Array Value}{Q b:Qa T->Prop}{U:Qa T}(h:Xy S f args Q U)(z:∀U',Q U'->b U'):Xy S f args b U:=
 λ Stop m c cs w k=>h Stop m c cs w λ U' q=>k U' (z U' q)
def Uu(S:Sys P T)(rl:List RV)(Q:Value->Qa T->Prop)(f:Fm)(l:List Deferred):Qa T->Prop:=
 List.rec (motive:=λ _=>Qa T->Prop) (λ U=>HA f Q rl [] U) (λ d r _ U=>match d.target with
  |.fn (.func g) b=>r=[]/\(P.funcs[g]?.any λ fd=>fd.body.isSome&&fd.name != "runtime.NumGoroutine")=true/\Xy S g (d.args++b) (λ U'=>HA f Q rl [] U') U
  |_=>False) l
def qH{g:FuncId}(b:(P.funcs[g]?.any λ fd=>fd.body.isSome&&fd.name != "runtime.NumGoroutine")=true)(args:Array Value)(w:World)(es:Array Event):(callFunc g args).runT P w es=(.ok (.enter g args) w,es):=by
 cases hf:P.funcs[g]? with
 |none=>rw[hf]at b;cases b
 |some fd=>
  rw[hf]at b;simp only[Option.any_some,Bool.and_eq_true,bne_iff_ne,ne_eq]at b;obtain⟨h1,h2⟩:=b;have f:(fd.name== "runtime.NumGoroutine")=false:=by simpa using h2
  have z:fd.body.isNone=false:=by cases h:fd.body <;> simp_all
  have h5:callFunc g args=(.program λ P=>match P.funcs[g]? with
   |none=>stuck "call: no such function"
   |some fn=>if fn.name== "runtime.NumGoroutine" then pure .numGoroutine else if fn.body.isNone then(do
     mark (.extern g)
     if let some e:=Extern.findNext fn then return <- e args
     match Extern.find fn with
     |some e=>pure (.value (<- e args))
     |none=>if fn.name.endsWith ".init"&&!fn.name.startsWith "("&&!fn.name.startsWith "gosem." then pure (.value (.tuple #[]))else unsupported (.extern fn.name))else pure (.enter g args)):=rfl
  rw[h5];simp only[Sem.runT,hf,f,z,Bool.false_eq_true,if_false];rfl
def J.defer{b:Frame}{tmps:Array Value}{todo:List Item}{c:Frame}{cs:List Frame}{g:FuncId}{f args:Array Value}{ds:List Deferred}{Stop:QI T}{m:Bool}{U:Qa T}{Q:Qa T->Prop}
  (B:(P.funcs[g]?.any λ fd=>fd.body.isSome&&fd.name != "runtime.NumGoroutine")=true) (h:Xy S g (args++f) Q U)
  (k:∀U',Q U'->J S Stop m (Rf { fr b ⟨tmps,ds⟩ todo with mode:=.returning } (c::cs)) U'):J S Stop m (Rf { fr b ⟨tmps,{ target:=.fn (.func g) f,args:=args }::ds⟩ todo with mode:=.returning } (c::cs)) U:=by
 refine .still rfl (λ w=>?_) (h Stop m { fr b ⟨tmps,ds⟩ todo with mode:=.returning } (c::cs) rfl k);have h1:=qH (P:=P) B (args++f) w #[];have E:Sem.run P (invoke (.fn (.func g) f) args) w=.ok (.enter g (args++f)) w:=by rw[<- Sem.runT_fst P _ w #[]];exact congrArg Prod.fst h1
 have z:Sem.events P (invoke (.fn (.func g) f) args) w #[]=#[]:=congrArg Prod.snd h1;simp[Rf,stepG,unwind,fr,callDeferred,E,z,GStep.after,Su]
def Qb.ofD{g:FuncId}{N:Nat}{cc:C}{rl:List RV}(k:Zl P g N cc rl)(hm:P.follows .mixedOrders=true){args:List Value}(hn:args.length<=N){U:Qa T}{Q:Value->Qa T->Prop}
  (h:ZY S g none cc (λ f ds U=>Uu S rl Q f ds U) (λ _ _ _ _=>False) (λ f ds U=>Uu S rl Q f ds U) (fm args) [] U):Qb S g args.toArray Q U:=by
 obtain⟨fd,mu,dets,hf,hb,Y,rfl,hr,-⟩:=k.ok;intro Stop m w cs hq
 let b:Frame:={ (default:Frame)with fn:=g,kind:=.normal }
 have E:Rf (Frame.enter P g args.toArray .normal) (w::cs)=R b { tmps:=args.toArray++Array.replicate (fd.ntmps-args.toArray.size) undef,defers:=[] } [.code (fd.body.getD .skip)] (w::cs):=by
  simp only[Rf,R,Frame.enter,fr,hf,b,Option.bind_some];rw[hb];rfl
 rw[E]
 have V:FR fd.ntmps { tmps:=args.toArray++Array.replicate (fd.ntmps-args.toArray.size) undef,defers:=[] } (fm args) []:=by
  refine⟨rfl,S3,λ t=>?_⟩;simp only[fm,Array.getD_eq_getD_getElem?,getD_eq_getElem?_getD,Array.getElem?_append,size_toArray,getElem?_toArray];split
  .rfl
  .rename_i hlt;rw[getElem?_eq_none O1,Array.getElem?_replicate];split <;> rfl
 subst Y
 have fin:∀(a':Act)(G:Fm)(z:List Deferred)(U':Qa T),FR fd.ntmps a' G z->Uu S rl Q G z U'->∀todo,J S Stop m (Rf { fr b a' todo with mode:=.returning } (w::cs)) U':=by
  intro a' G z U' B F todo
  have ret:∀H,HA G Q rl [] H->J S Stop m (Rf { fr b ⟨a'.tmps,[]⟩ todo with mode:=.returning } (w::cs)) H:=λ H hx=>
   X3.step hf (.inl rfl) hq [] todo H (VF hr [] H hx a'.tmps B.get)
  obtain⟨tm,X⟩:=a';have M:X=z:=B.ds;subst M;cases X with
  |nil=>exact ret U' F
  |cons d r=>
   obtain⟨tg,K⟩:=d;cases tg with
   |fn L W=>
    cases L with
    |func h'=>
     obtain⟨rfl,I,Z⟩:=F;exact J.defer I Z ret
    |_=>exact F.elim
   |_=>exact F.elim
 refine J.body (fn:=g) ⟨rfl,rfl,by simp[b],S1⟩ (G6 hm _ V h) λ e a' U' q=>?_;obtain⟨G,z,B,F⟩:=q;cases e with
 |normal=>exact⟨.inl rfl,fin a' G z U' B F⟩
 |ret=>exact⟨.inr rfl,fin a' G z U' B F⟩
 |exit id=>exact F.elim
end
section
variable{P:Program}{t:TypeId}{N:Nat}
def Qb.makeM{f:FuncId}{args:Array Value}{Q:Value->Qa Tk->Prop}{U:Qa Tk}{b:Nat}{x:QW}{M₁ M₂:List Qw}(ht:U.tok=⟨0,.par b [] false .run,none⟩)(z:U.M=.obj x.m (.cells #[Zc 0,Qp 0] x.t (0,0))::(M₁++M₂))(w:x.sp false false M₁)
  (h:Qb (Za P t N) f args Q { U with M:=M₂,tok:=⟨0,.par b [] false .run,some (.par x λ _=>false)⟩ }):Qb (Za P t N) f args Q U:=
 λ Stop m c cs k=>.syn (QC.makeM ht z w (h Stop m c cs k))
end
end Go.TM

