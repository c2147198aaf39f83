/- Lemmas. No conditions. -/
import Derived.Test.YtnjljnhoaafkiaaGreatDoorB11
set_option linter.all false
open List
namespace Go.TM
variable{P:Program}{T:Type}{S:Sys P T}{fn:FuncId}{ro:Option Nat}{Q:Ex->Act->Qa T->Prop}{a:Act}{U:Qa T}{ops:Array Oper}{rl:List Nat}{t:TypeId}{N:Nat}{M':List Qw}
def Zm1{c:Code}(h:(∃w,U.ok w)->Zq S fn ro c Q a U):Zq S fn ro c Q a U:=by
 intro Stop m b k cs hb B;by_cases f:∃w,U.ok w
 .exact h f Stop m b k cs hb B
 .exact .priv ⟨rfl,λ w ok=>absurd ⟨w,ok⟩ f⟩
def vY(h:(∃w,U.ok w)->QU S fn ro ops rl Q a U):QU S fn ro ops rl Q a U:=by
 intro Stop m b k cs hb B;by_cases f:∃w,U.ok w
 .exact h f Stop m b k cs hb B
 .exact .priv ⟨rfl,λ w ok=>absurd ⟨w,ok⟩ f⟩
def Qb.make{f:FuncId}{args:Array Value}{Q:Value->Qa Tk->Prop}{U:Qa Tk}{b:Nat}{M₁ M₂:List Qw}(ht:U.tok=⟨0,.out,none⟩)(w:U.M=M₁++.obj b (.cells #[Q0 0 0,Qp 0] t (0,0))::M₂)
  (h:Qb (Za P t N) f args Q { U with M:=M₁++M₂,tok:=⟨0,.par b [] false .run,none⟩ }):Qb (Za P t N) f args Q U:=
 λ Stop m c cs k=>.syn (QC.make ht w (h Stop m c cs k))
def Wp(h:Perm U.M M'):Qv U { U with M:=M' }:=by
 refine⟨rfl,λ w ok=>⟨⟨ok.imm,λ r b=>ok.held r (h.mem_iff.2 b),(h.pairwise_iff (λ{x y}h=>Qw.apart_symm h)).1 ok.apart,λ r b=>ok.sep r (h.mem_iff.2 b)⟩,λ l hl=>?_,λ l hl=>?_⟩⟩
 .rw[Q4]at hl ⊢;obtain⟨r,b,hl⟩:=hl;exact⟨r,h.mem_iff.2 b,hl⟩
 .rw[Qx]at hl ⊢;exact hl.imp (λ⟨r,b,hl⟩=>⟨r,h.mem_iff.2 b,hl⟩) id
def Qa.base(U:Qa Tk):Qa Tk:=⟨U.I,[],⟨0,.out,none⟩⟩
def Qa.sub(U U':Qa Tk):Prop:=∀b o,U.I b=some o->U'.I b=some o
variable{f:Fm}{K:Value->Qa T->Prop}{n yl ty yc len b i:Nat}{d:TypeDesc}{x y:Operand}{vs:List Value}{e:TypeId}{c:Array Value}{v:Value}{M₀:List Qw}{j:Qa T->Prop}
section
attribute [local simp] Nat.mul_one
def SS{m e:Nat}{d:TypeDesc}(E:P.underlying e=some d)(F:WU d=true){xs ys:Array Value}{Q:Option Bool×PUnit->Qa T->Prop}:∀(n j:Nat)(vs ws:List Value),vs.length=n->ws.length=n->(∀v∈vs,X6 d v=true)->(∀v∈ws,X6 d v=true) ->
  (∀i v,vs[i]?=some v->xs[j+i]?=some v)->(∀i v,ws[i]?=some v->ys[j+i]?=some v)->Q (if ZF vs ws then none else some false,()) U ->
  Qq P (forIn (List.range' j n 1) ((none,()):Option Bool×PUnit) λ i _=>do
    let a <- part e xs (i*1)
    let b <- part e ys (i*1)
    let c <- Op.equalIn (m+1) e a b
    if(!c)=true then pure (ForInStep.done (some false,()))else pure (ForInStep.yield (none,()))) Q U
 |0,j,vs,ws,G,H,_,_,_,_,h=>by
  obtain rfl:=length_eq_zero_iff.1 G;obtain rfl:=length_eq_zero_iff.1 H;exact h
 |n+1,j,v::vs,w::ws,G,H,f,B,hx,hy,h=>by
  rw[range'_succ,Vf];simp only[Qd,Nat.mul_one];have I:xs[j]?=some v:=by simpa using hx 0 v rfl
  have K:ys[j]?=some w:=by simpa using hy 0 w rfl
  rw[Gq E F I,Gq E F K,IF E F (f v (mem_cons_self ..)) (B w (mem_cons_self ..))];cases hb:HY v w with
  |false=>simpa[hb,ZF,Qi]using h
  |true=>
   simp only[Bool.not_true,Bool.false_eq_true,if_false,Qi]
   have:=SS E F (m:=m) (xs:=xs) (ys:=ys) (Q:=Q) n (j+1) vs ws (by simpa using G) (by simpa using H) (λ v h=>f v (mem_cons_of_mem _ h)) (λ v h=>B v (mem_cons_of_mem _ h))
    (λ i v hi=>by have:=hx (i+1) v hi;rwa [show j+(i+1)=j+1+i by omega]at this)
    (λ i v hi=>by have:=hy (i+1) v hi;rwa [show j+(i+1)=j+1+i by omega]at this) (by simpa[hb,ZF]using h)
   simpa only[Nat.mul_one,Qd]using this
def pD{b:TypeInfo}(L:P.underlying n=some (.array len yc))(G:P.underlying yc=some d)(I:WU d=true)(hi:P.info? yc=some b)(E:b.size=1)(H:P.eqGuardType P.depth n=false)
   {ws:List Value} (hx:Zf f x=.agg vs.toArray) (hy:Zf f y=.agg ws.toArray) (w:vs.length=len) (B:ws.length=len) (M:∀v∈vs,X6 d v=true) (N:∀v∈ws,X6 d v=true) (h:K (.bool (ZF vs ws)) U) :
  OX S (.rw (.binOp .eql n x y yl) ty) f K U:=by
 intro a' ha;simp only[execOp,ha,hx,hy];refine rq ?_;rw[Qd];refine OB H ?_;simp only[binOp,Qd];have F:Op.equal n (.agg vs.toArray) (.agg ws.toArray)=Op.equalIn (9998+1+1) n (.agg vs.toArray) (.agg ws.toArray):=rfl;rw[F,Op.equalIn];simp only[Qd,Ze L,Jd hi,E,Std.Legacy.Range.forIn_eq_forIn_range'];refine SS G I _ 0 vs ws (by simpa[Std.Legacy.Range.size]using w) (by simpa[Std.Legacy.Range.size]using B) M N (λ i v hi=>by simpa using hi) (λ i v hi=>by simpa using hi) ?_;cases hb:ZF vs ws <;> simpa[hb,Qi]using⟨U,.refl _,by simpa[hb]using h⟩
def Yd{b off:Nat}{e:TypeId}{M₀:List Qw}{Q:Qa T->Prop}(X:List Qw):∀(vs:List Value)(i:Nat)(c:Array Value)(U:Qa T),U.M=X++.obj b (.cells c e (0,0))::M₀->(∀v∈vs,v.single=true)->off+i+vs.length<=c.size ->
  Q { U with M:=X++.obj b (.cells (ZU c off vs i) e (0,0))::M₀ }->QX ⟨b,off,none⟩ vs i Q U
 |[],i,c,U,f,_,_,h=>by
  have:U={ U with M:=X++.obj b (.cells c e (0,0))::M₀ }:=by rw[<- f]
  show Q U;rw[this];exact h
 |v::vs,i,c,U,f,w,hb,h=>by
  simp only[length_cons]at hb;refine⟨w v (mem_cons_self ..),X++.obj b (.cells (c.setIfInBounds (off+i) v) e (0,0))::M₀,?_,?_⟩
  .rw[f,Qo];have B:XH ⟨b,off+i,none⟩ v (.obj b (.cells c e (0,0))::M₀) (.obj b (.cells (c.setIfInBounds (off+i) v) e (0,0))::M₀):=.obj (a:=⟨b,off+i,none⟩) rfl (by show off+i<c.size;omega);clear f h
   induction X with
   |nil=>exact B
   |cons r X F=>exact .there F
  .exact Yd X vs (i+1) _ _ rfl (λ v E=>w v (mem_cons_of_mem _ E)) S3 h
def G_(X:List Qw)(w:U.M=X++.obj b (.cells c e (0,0))::M₀)(hi:i<c.size)(B:v.single=true)
  (h:j { U with M:=X++.obj b (.cells (c.setIfInBounds i v) e (0,0))::M₀ }):QX ((Addr.mk b 0 none).add i) [v] 0 (λ U'=>∃f,Qv U' f/\j f) U:=by
 rw[Qo];refine Yd X [v] 0 c U w (by simpa using B) S3 ?_;simp only[ZU,Nat.zero_add,Nat.add_zero];exact⟨_,.refl _,h⟩
def Yl(X:List Qw)(B:U.M=X++.obj b (.cells c e (0,0))::M₀)(f:c.size=vs.length)(E:∀v∈vs,v.single=true)
  (h:j { U with M:=X++.obj b (.cells vs.toArray e (0,0))::M₀ }):QX ⟨b,0,none⟩ vs 0 (λ U'=>∃w,Qv U' w/\j w) U:=by
 refine Yd X vs 0 c U B E O1 ?_;rw[Pm f];exact⟨_,.refl _,h⟩
def Q9(X:List Qw)(f:U.M=X++.obj b (.cells vs.toArray e (0,0))::M₀):Je U ⟨b,0,none⟩ vs:=by
 intro i v h;rw[Qo];refine⟨rfl,.inl ⟨_,_,_,.inr (by rw[f];simp;exact .inr (.inl ⟨rfl,rfl,rfl⟩)),?_⟩⟩;simpa using h
abbrev setA(s:Nat->Bool):Value:=.agg #[.bool (s 0),.bool (s 1),.bool (s 2),.bool (s 3),.bool (s 4),.bool (s 5),.bool (s 6),.bool (s 7)]
def H1(s:Nat->Bool)(j:Nat)(v:Bool):Nat->Bool:=λ k=>if k=j then v else s k
end
variable{U' Z:Qa T}{args first tmps:Array Value}{cs new:List Value}{ya:Option Addr}{D:List Int}{mu qs ts pre L rest:List Nat}{params:Array Tmp}{as W cc:C}{r:Zk T}{ds:List Deferred}{g:FuncId}{κ:Type}{enc:κ->Value}{l:List (κ×Value)}{seen:Array Nat}{p:κ×Value}{G H X:TypeId}{z:Value}{s u:Operand}{a_0 ac av:Act}{q:Act->Qa T->Prop}{listed:Array Bool}{val:Nat->Value}{o:Oper}{Y:O}{la:List (List (Nat×St))}{lt:List St}{t2:Nat}{E:TypeInfo}{I:Frame}{todo:List Item}{M:List Frame}{Stop:QI T}{m:Bool}
def Qa.frz(U:Qa T):Qa T:=⟨U.I,[],U.tok⟩
def Qa.lg.frz(h:U.lg U'):U.frz.lg U':=⟨h.imm,⟨U'.M,by simp[Qa.frz]⟩,h.tok⟩
def Qr:U.frz.lg U:=(⟨λ _ _ h=>h,⟨[],rfl⟩,rfl⟩:U.lg U).frz
def Uf(h:U.frz.lg U')(k:U'.le Z):U.frz.lg Z:=h.trans k.lg
def Qa.lg.frz2(h:U.lg U'):U.frz.lg U'.frz:=⟨h.imm,⟨[],rfl⟩,h.tok⟩
def Qb.grown{R:Value->Qa T->Prop}(E:∀v w B,w.lg B->R v w->R v B)(h:Qb S fn args (λ v U'=>R v U'.frz/\U.lg U') U):Qb S fn args (λ v U'=>R v U'.frz/\U.le U') U:=
 h.post λ v U'⟨F,hl⟩=>let ⟨U'',h1,h2,h3⟩:=hl.shift;⟨U'',h1,E v _ _ (⟨λ b o h=>by show U''.I b=_;rw[h3];exact h,⟨[],rfl⟩,h2.tok.trans hl.tok.symm⟩:U'.frz.lg U''.frz) F,h2⟩
def Jw(U:Qa T)(v:Value)(l:List Int):Prop:=∃a cap,v=.slice a l.length cap/\Z6 U a l.length l
def Jw.lg{v:Value}{l:List Int}(h:Jw U v l)(hl:U.lg U'):Jw U' v l:=let ⟨a,c,e,h⟩:=h;⟨a,c,e,h.lg hl⟩
def Acc.freeze(G:JS U')(h:Acc N n v cs U'.M U.M)(B:∀x E,U.I x=some E->U'.I x=some E)(ht:U'.tok=U.tok) :
  ∃U'',Qv U' U''/\U.le U''/\∃a len cap,v=.slice a len cap/\cs.length=len*n/\Src U''.frz a cs/\(∀f,a=some f->f.spot=none)/\(∀f,a=some f->f.off=0):=by
 rcases h with⟨rfl,rfl,w⟩|⟨b,c,len,cap,rfl,h1,h2,H,w,F⟩
 .exact⟨U',.refl _,⟨B,w,ht⟩,none,0,0,rfl,S1,.inl ⟨rfl,rfl⟩,S1,S1⟩
 .obtain⟨U'',k1,k2,k3⟩:=Iv G w B rfl ht;refine⟨U'',k1,k2,some ⟨b,0,none⟩,len,cap,rfl,h1,.inr ⟨_,rfl,?_⟩,by rintro _⟨⟩;rfl,by rintro _⟨⟩;rfl⟩;intro i x hx;rw[Qo];exact⟨rfl,.inl ⟨c,N,(0,0),.inl k3,by simpa using F i x hx⟩⟩
def KV(h:Src U ya (D.map λ n=>.int .i64 n))(f:∀b,ya=some b->b.spot=none):Z6 U ya D.length D:=by
 refine⟨rfl,λ i x hx=>?_⟩;rcases h with⟨_,w⟩|⟨b,rfl,B⟩
 .rw[map_eq_nil_iff]at w;subst w;simp at hx
 .exact⟨b,rfl,f b rfl,by rw[Nat.mul_one];exact B i _ (by simp[hx])⟩
def Qb.ints{e:Nat}{l:List Int}(h:Qb S fn args (λ v U'=>Acc e 1 v (l.map λ n=>.int .i64 n) U'.M U.M/\(∀x B,U.I x=some B->U'.I x=some B)/\U'.tok=U.tok) U) :
  Qb S fn args (λ v U'=>Jw U'.frz v l/\U.le U') U:=by
 refine h.sep λ v U' F⟨ha,E,ht⟩=>?_;obtain⟨U'',G,H,a,len,cap,rfl,hl,b,w,_⟩:=ha.freeze F E ht;refine⟨U'',G,⟨a,cap,?_,KV b w⟩,H⟩;simp at hl;rw[hl]
def M5(P:Program)(t len:Nat):Bool:=
 match P.underlying t with
 |some (.array b e)=>decide (b=len)&&(match P.underlying e with|some .bool=>true|_=>false)&&(match P.info? e with|some f=>decide (f.size=1)|none=>false)&&!P.eqGuardType P.depth t
 |_=>false
structure Uy(P:Program)(t len:Nat):Prop where
 h:∃e inf,P.underlying t=some (.array len e)/\P.underlying e=some .bool/\P.info? e=some inf/\inf.size=1/\P.eqGuardType P.depth t=false
def Uy.of(h:M5 P N len=true):Uy P N len:=by
 unfold M5 at h;split at h
 .rename_i len' e hu;simp only[Bool.and_eq_true,decide_eq_true_eq,Bool.not_eq_true']at h;obtain⟨⟨⟨rfl,h1⟩,h2⟩,b⟩:=h;split at h1
  .rename_i hb;split at h2
   .rename_i inf hi;exact⟨e,inf,hu,hb,hi,by simpa using h2,b⟩
   .cases h2
  .cases h1
 .cases h
structure LW(U:Qa T)(I:Nat->Qa T->Prop):Prop where
 le:∀k U1 U2,U1.le U2->I k U1->I k U2
 lg:∀k U1,I k U1->U.frz.lg U1
def vQ(S:Sys P T)(l:Nat)(ps:List (List Value))(I:Nat->Qa T->Prop)(E:Qa T->Prop):Prop:=
 ∀(k:Nat)(p:List Value)(f:Qa T)(K:Value->Qa T->Prop),ps[k]?=some p->I k f->(∀b,I (k+1) b->K (.bool true) b)->(∀b,E b->K (.bool false) b)->Zm S l p K f
def ku(S:Sys P T)(g:FuncId)(args:Array Value)(l:Nat)(ps:List (List Value))(U:Qa T):Prop:=
 ∀(I:Nat->Qa T->Prop)(E:Qa T->Prop),LW U I->vQ S l ps I E->I 0 U->Qb S g args (λ _ U'=>I ps.length U'\/E U') U
def Qa.on(U:Qa T)(A D:Qw):Qa T:={ U with M:=A::D::U.M }
def Zlk(hm:P.follows .mixedOrders=true){n:Zk T}{x:Nat->Zk T}
  (ps:List (List Value)) (Inv:Nat->Qa T->Prop) (X:Nat->Qa T->Prop) (V:Qa T->Prop)
  (hc:Zf f y=.func (.func g) first args) (hp:params.toList.all (λ t=>decide (t<N))=true) (hg:(P.funcs[g]?.any λ fd=>fd.body.isSome&&fd.name != "runtime.NumGoroutine")=true)
  (Z:∀l G,U.frz.lg G->ku S g (first.toList++[Value.func (.yield l) #[] #[]]++args.toList).toArray l ps G)
  (Q:∀p∈ps,p.length=params.size) (hk:LW U Inv) (h0:Inv 0 U)
  (L:∀(l:Nat)(A B D:Qw)(k:Nat)(p:List Value)(U₀:Qa T)(KN:Zk T)(KX:Nat->Zk T)(KR KA:Zk T),ps[k]?=some p->Inv k U₀ ->
   (∀b F w,Inv (k+1) w->KN b F (w.on B D))->(∀i b F w,X i w->KX i b F (w.on B D))->(∀b F w,V w->KR b F (w.on B D)) ->
   (∀b(G:Qa T),ZT S yl (some l) W KN KX KR b [] (G.on B D)->KA b [] (G.on A D)) ->
   ZT S yl (some l) as KA (λ _ _ _ _=>False) (λ _ _ _=>False) (HX f params.toList p) [] (U₀.on A D))
  (hn:∀(d l:Nat)(A:Obj)w,Inv ps.length w->n f (⟨.collected d,#[]⟩::ds) (w.on (.obj l A) (.obj d (.deferred (some [])))))
  (hx:∀(d l:Nat)(A:Obj)i w,X i w->x i f (⟨.collected d,#[]⟩::ds) (w.on (.obj l A) (.obj d (.deferred (some [])))))
  (hr:∀(d l:Nat)(A:Obj)w,V w->r f (⟨.collected d,#[]⟩::ds) (w.on (.obj l A) (.obj d (.deferred (some []))))) :
  Wo S yl none N mu rl y params as W n x r f ds U:=by
 show ZT S yl none (.rng N mu rl y params as W) n x r f ds U;refine Ls hm hc hp hg λ l d lo hd hl aa hR=>?_
 let D:Qw:=.obj d (.deferred (some []))
 let I:Nat->Qa T->Prop:=λ k G=>∃U₀,Inv k U₀/\G=U₀.on (.obj l (lo .ready none)) D
 let E:Qa T->Prop:=λ G=>∃U₀,(∃i,X i U₀/\G=U₀.on (.obj l (lo .done (some (.exit i)))) D)\/(V U₀/\G=U₀.on (.obj l (lo .done (some .ret))) D)
 have Y:U.frz.lg (U.on (.obj l (lo .ready none)) D):=⟨λ _ _ h=>h,Zz3,rfl⟩;refine(Z l _ Y I E ⟨?_,?_⟩ ?_ ⟨U,h0,rfl⟩).mono ?_
 .rintro k _ U2 hle ⟨U₀,hI,rfl⟩;refine⟨{ U2 with M:=U₀.M },hk.le k U₀ _ ⟨hle.imm,rfl,hle.tok⟩ hI,?_⟩;obtain⟨ab,ac,ad⟩:=U2;have:=hle.own;simp only[Qa.on]at this ⊢;rw[this]
 .rintro k _ ⟨U₀,hI,rfl⟩;have:=hk.lg k _ hI;exact⟨this.imm,Zz3,this.tok⟩
 .rintro k p _ K hpk ⟨U₀,hI,rfl⟩ hK1 hK2;refine hR p K _ (Q p (mem_of_getElem? hpk)) (mem_cons_self ..) ?_;refine L l _ (.obj l (lo .busy none)) D k p U₀ _ _ _ _ hpk hI (λ b F w h=>?_) (λ i b F w h=>?_) (λ b F w h=>?_) (λ b G h=>⟨rfl,_,.here,h⟩)
  .exact⟨_,.here,hK1 _ ⟨w,h,rfl⟩⟩
  .exact⟨_,.here,hK2 _ ⟨w,.inl ⟨i,h,rfl⟩⟩⟩
  .exact⟨_,.here,hK2 _ ⟨w,.inr ⟨h,rfl⟩⟩⟩
 .rintro v w (⟨U₀,hI,rfl⟩|⟨U₀,⟨i,hX,rfl⟩|⟨hR',rfl⟩⟩) -
  .exact⟨.ready,none,_,S1,.here,hn d l _ U₀ hI⟩
  .exact⟨.done,some (.exit i),_,S1,.here,hx d l _ i U₀ hX⟩
  .exact⟨.done,some .ret,_,S1,.here,hr d l _ U₀ hR'⟩
def Zi.imI(h:Zi U b c)(f:∀x o,U.I x=some o->U'.I x=some o):Zi U' b c:=let ⟨t,fr,h⟩:=h;⟨t,fr,f _ _ h⟩
def Zi.rdI(h:Zi U b vs.toArray)(f:∀x o,U.I x=some o->U'.I x=some o):Je U' ⟨b,0,none⟩ vs:=(h.imI f).reads λ k v w=>by simpa using w
def G1{κ:Type}(enc:κ->Value):∀(l:List (κ×Value))(j i:Nat)(p:κ×Value),l[i]?=some p->(Qs enc l j)[i]?=some ⟨enc p.1,p.2,j+i⟩
 |[],_,_,_,h=>by simp at h
 |q::l,j,0,p,h=>by
  simp at h;subst h;simp[Qs]
 |q::l,j,i+1,p,h=>by
  simp only[Qs,getElem?_cons_succ];rw[G1 enc l (j+1) i p (by simpa using h)];congr 2;omega
def YX{κ:Type}(enc:κ->Value):∀(l:List (κ×Value))(j:Nat)(e:MapEntry),e∈Qs enc l j->∃i p,l[i]?=some p/\e=⟨enc p.1,p.2,j+i⟩
 |[],_,e,h=>by cases h
 |q::l,j,e,h=>by
  simp only[Qs,mem_cons]at h;rcases h with rfl|h
  .exact⟨0,q,rfl,rfl⟩
  .obtain⟨i,p,h1,rfl⟩:=YX enc l (j+1) e h;exact⟨i+1,p,by simpa using h1,by congr 1;omega⟩
def Jx(b n:Nat)(seen:Array Nat):Obj:=.mapIter (some b) n seen n
def OM(B:P.underlying N=some (.map n i))(hx:Zf f x=.map (some b))(hm:U.has b (Qt enc l))
  (h:∀r,U.free r->K (.pb r) (U.put r (Jx b l.length #[]))) :
  OX S (.rw (.range N x) yl) f K U:=by
 intro a' ha;simp only[execOp,ha,hx];refine rq ?_;simp only[Instr.range,Qd,Ze B,getObj];refine⟨_,hm,rfl,rfl,?_⟩;simp only[Qq,Qt,Qi,Qd,newObj];exact λ r w=>⟨_,.refl _,h r w⟩
def SA{r:Nat}(M':Obj->List Qw)(hx:Zf f x=.pb r)(hm:U.has b (Qt enc l))
  (hu:∀o,J0 r o (Jx b l.length seen) U.M (M' o))
  (h0:(∀i,i<l.length->i∈seen)->K (.tuple #[.bool false]) U)
  (h1:∀(i:Nat)p,l[i]?=some p->i∉seen->K (.tuple #[.bool true,enc p.1,p.2]) { U with M:=M' (Jx b l.length (seen.push i)) }) :
  OX S (.rw (.next x false) ty) f K U:=by
 intro a' ha;simp only[execOp,ha,hx];refine rq ?_;unfold Instr.next;simp only[Qd,getObj];refine⟨_,.inr (hu (Jx b l.length seen)).mem,rfl,rfl,?_⟩;simp only[Qq,Jx,Qi,Qd];refine⟨_,hm,rfl,rfl,?_⟩
 have h:∀e∈(Qs enc l 0).toArray,e.born<l.length:=λ e E=>by
  obtain⟨i,p,hi,rfl⟩:=YX enc l 0 e (by simpa using E);have:=(Zz4 hi);show 0+i<_;omega
 simp only[Qq,Qt,Qi,Qd];generalize G:(Qs enc l 0).toArray=es at h
 have hc:(!seen.isEmpty&&!es.isEmpty&&es.all λ x=>decide (x.born ≥ l.length))=false:=by
  cases E:es.isEmpty with
  |true=>simp
  |false=>
   have:es.all (λ x=>decide (x.born ≥ l.length))=false:=by
    rw[Array.all_eq_false'];rw[Array.isEmpty_eq_false_iff]at E;obtain⟨e,H⟩:=Array.exists_mem_of_ne_empty _ E;exact⟨e,H,by have:=h e H;simp;omega⟩
   rw[this];simp
 rw[hc];simp only[Bool.false_eq_true,if_false];generalize w:es.filter (λ e=>!seen.contains e.born)=left
 have Q:left.filter (λ x=>decide (x.born<l.length))=left:=Array.filter_eq_self.2 λ e E=>by
  rw[<- w]at E;have:=h e (Array.mem_filter.1 E).1;simpa using this
 have N:left.filter (λ x=>decide (x.born ≥ l.length))=#[]:=Array.filter_eq_empty_iff.2 λ e E=>by
  rw[<- w]at E;have:=h e (Array.mem_filter.1 E).1;simp;omega
 simp only[Q,N,Array.append_empty];cases F:left.isEmpty with
 |true=>
  have T:left=#[]:=by simpa using F
  subst T;simp only[if_true,Array.map_empty,Array.append_empty];refine⟨_,.refl _,h0 λ i hi=>?_⟩;have V:l[i]?=some l[i]:=getElem?_eq_getElem hi;have I:=mem_of_getElem? (G1 enc l 0 i _ V);have W:(⟨enc l[i].1,l[i].2,0+i⟩:MapEntry)∈es:=by rw[<- G];simpa using I
  have:=Array.filter_eq_empty_iff.1 w _ W;simpa using this
 |false=>
  have L:0<left.size:=by
   rw[Array.isEmpty_eq_false_iff]at F;exact Array.size_pos_iff.2 F
  have key:∀j,j<left.size->Qq P (match(#[]++left.map some)[j]? with
    |some (some e)=>do
     setObj r (.mapIter (some b) l.length (seen.push e.born) l.length)
     pure (.tuple #[.bool true,e.key,e.val])
    |some none=>pure (.tuple #[.bool false])
    |none=>stuck "Next: no such candidate") (λ v U'=>∃Z,Qv U' Z/\K v Z) U:=by
   intro j hj;have h2:(#[]++left.map some)[j]?=some (some left[j]):=by simp[hj]
   rw[h2];have B:left[j]∈left:=Array.getElem_mem hj;generalize left[j]=e at B;rw[<- w,Array.mem_filter]at B;obtain⟨B,X⟩:=B;rw[<- G]at B;obtain⟨i,p,hi,rfl⟩:=YX enc l 0 e (by simpa using B);simp only[Qd,setObj,Qq,Qi];have h3:=h1 i p hi (by simpa using X);rw[<- Nat.zero_add i]at h3;exact⟨_,_,hu _,rfl,rfl,rfl,_,.refl _,h3⟩
  simp only[Bool.false_eq_true,if_false];rw[Qd];show(if(Question.mapNext (#[]++Array.map some left).size).forced then _ else _);have Y:(#[]++Array.map some left).size=left.size:=S1
  split
  .exact key 0 L
  .intro t;refine key _ ?_;show t % (#[]++Array.map some left).size<left.size;rw[Y];exact Nat.mod_lt _ L
def OL{r:Nat}(hx:Zf f x=.pb r)(hm:U.has b (Qt enc l))(M:U.has r (Jx b l.length (seen.push i)))
  (hp:l[i]?=some p) (h:K (.tuple #[enc p.1,p.2]) U) :
  OX S (.rw (.entry x) N) f K U:=by
 intro a' ha;simp only[execOp,ha,hx];refine rq ?_;unfold Instr.entry;simp only[Qd,getObj];refine⟨_,M,rfl,rfl,?_⟩;simp only[Qq,Jx,Qi,Qd,Array.back?_push];refine⟨_,hm,rfl,rfl,?_⟩;simp only[Qq,Qt,Qi,Qd,bne_self_eq_false,Bool.false_eq_true,if_false]
 have w:(Qs enc l 0).toArray.find? (λ x=>x.born==i)=some ⟨enc p.1,p.2,i⟩:=by
  rw[find?_toArray,find?_eq_some_iff_getElem];have G:=G1 enc l 0 i p hp;rw[Nat.zero_add]at G;obtain⟨B,I⟩:=List.getElem?_eq_some_iff.1 G;refine⟨S1,i,B,I,λ j P=>?_⟩;obtain⟨q,L⟩:∃q,l[j]?=some q:=⟨_,getElem?_eq_getElem (by rw[Eb]at B;omega)⟩;have F:=G1 enc l 0 j q L;obtain⟨H,E⟩:=List.getElem?_eq_some_iff.1 F;rw[E];simp;omega
 rw[w];exact⟨_,.refl _,h⟩
def X5{κ:Type}[DecidableEq κ](k:κ)(z:Value)(l:List (κ×Value)):List (κ×Value):=if(lk k l).isSome then l else l++[(k,z)]
def XW{κ:Type}[DecidableEq κ](k:κ)(l:List (κ×Value)):Nat:=match QL k l 0 with|some (i,_)=>i|none=>l.length
def Fe{κ:Type}[DecidableEq κ]{enc:κ->Value}{k:κ}:∀{l:List (κ×Value)}{i j n:Nat}{x:Value},QL k l i=some (n,x)->i<=n/\(∃e,(Qs enc l j)[n-i]?=some e/\e.key=enc k/\e.born=j+(n-i)) /\
   (Qs enc l j).modify (n-i) (λ e=>{ e with key:=enc k })=Qs enc l j
 |[],_,_,_,_,h=>by cases h
 |p::l,i,j,n,x,h=>by
  simp only[QL]at h;split at h
  .rename_i e;cases h;refine⟨Nat.le_refl _,?_,?_⟩
   .simp[Qs,e]
   .simp[Qs,e]
  .rename_i e;obtain⟨h1,⟨y,h2,f,w⟩,h5⟩:=Fe (enc:=enc) (j:=j+1) h;have b:n-i=(n-(i+1))+1:=O1
   refine⟨O1,?_,?_⟩
   .rw[b];exact⟨y,by simpa[Qs]using h2,f,by rw[w];omega⟩
   .rw[b];simp only[Qs,modify_succ_cons,h5]
def Ef{κ:Type}[DecidableEq κ]{enc:κ->Value}{l:List (κ×Value)}{k:κ}(B:WI T P G enc)(Q:P.underlying t=some (.map G H))(V:Xb P H=some z)
  (hx:Zf f x=.map (some b)) (hy:Zf f y=enc k) (hm:J0 b (Qt enc (X5 k z l)) (Qt enc l) U.M M') (h:K (.tuple #[(lk k l).getD z,.int .i64 (XW k l)]) { U with M:=M' }) :
  OX S (.rw (.mapEntry t x y) X) f K U:=by
 intro a' ha;obtain⟨W,hi,E⟩:=P4 V;simp only[execOp,ha,hx,hy];refine rq ?_;unfold Instr.mapEntry;simp only[Qd,Ze Q,getObj];refine⟨_,.inr hm.mem,rfl,rfl,?_⟩;simp only[Qq,Qt,Qi,Qd];refine B.chk _ _ ?_;refine B.find k l ?_;unfold XW lk at h;unfold X5 lk at hm;cases e:QL k l 0 with
 |none=>
  simp only[e,Option.map_none,Option.getD_none,Option.isSome_none,Bool.false_eq_true,if_false]at h hm;simp only[Qd,X8 hi E,setObj,Qq,Qi];refine⟨Qt enc l,M',?_,rfl,rfl,rfl,⟨_,.refl _,h⟩⟩
  have:Obj.map ((Qs enc l 0).toArray.push { key:=enc k,val:=z,born:=l.length }) (l.length+1)=Qt enc (l++[(k,z)]):=by
   simp only[Qt,length_append,length_cons,length_nil,YK,Qs,Nat.zero_add];congr 1;apply Array.ext';simp
  rw[this];exact hm
 |some p=>
  obtain⟨n,w⟩:=p;simp only[e,Option.map_some,Option.getD_some,Option.isSome_some,if_true]at h hm;obtain⟨h1,⟨I,h2,L,F⟩,h5⟩:=Fe (enc:=enc) (j:=0) e;rw[Nat.sub_zero]at h2 F h5;have N:(Qs enc l 0).toArray[n]?=some I:=by simpa using h2
  simp only[N,Option.map_some,Option.getD_some,L,Qd];unfold Instr.keyThatStays;rw[B.bits k];simp only[if_true,Qi,setObj,Qq,F];refine⟨Qt enc l,M',?_,rfl,rfl,rfl,⟨_,.refl _,?_⟩⟩
  .have:Obj.map ((Qs enc l 0).toArray.modify n λ e=>{ e with key:=enc k }) l.length=Qt enc l:=by
    simp only[Qt];congr 1;apply Array.ext';rw[Array.toList_modify];exact h5
   rw[this];exact hm
  .rw[Nat.zero_add];exact h
def Ec{κ:Type}(enc:κ->Value)(v:Value):∀(l:List (κ×Value))(j n:Nat),(Qs enc l j).modify n (λ e=>{ e with val:=v })=Qs enc (l.modify n λ p=>(p.1,v)) j
 |[],_,_=>by simp[Qs]
 |p::l,j,0=>by simp[Qs]
 |p::l,j,n+1=>by
  simp only[Qs,modify_succ_cons];rw[Ec enc v l (j+1) n]
def zc(hx:Zf f x=.map (some b)) (P:Zf f s=.int .i64 n) (L:n<l.length) (Q:Zf f u=v) (hm:J0 b (Qt enc (l.modify n λ p=>(p.1,v))) (Qt enc l) U.M M') (h:K undef { U with M:=M' }) :
  OX S (.rw (.entryStore t x s u) X) f K U:=by
 intro a' ha;simp only[execOp,ha,hx,P,Q];refine ru ?_;unfold Instr.entryStore;simp only[Qd,getObj];refine⟨_,.inr hm.mem,rfl,rfl,?_⟩;simp only[Qq,Qt,Qi,Qd,asInt,asIntOf]
 have w:(Qs enc l 0).toArray.findIdx? (λ e=>(e.born:Int)==(n:Int))=some n:=by
  rw[findIdx?_toArray,findIdx?_eq_some_iff_getElem];have hp:l[n]?=some l[n]:=getElem?_eq_getElem L;have I:=G1 enc l 0 n _ hp;obtain⟨F,H⟩:=List.getElem?_eq_some_iff.1 I;refine⟨F,by rw[H];simp,λ j V=>?_⟩;obtain⟨q,N⟩:∃q,l[j]?=some q:=⟨_,getElem?_eq_getElem O1⟩;have E:=G1 enc l 0 j q N;obtain⟨G,B⟩:=List.getElem?_eq_some_iff.1 E;rw[B];simp;omega
 rw[w];simp only[setObj,Qq];refine⟨Qt enc l,M',?_,rfl,rfl,rfl,⟨_,.refl _,h⟩⟩
 have:Obj.map ((Qs enc l 0).toArray.modify n λ e=>{ e with val:=v }) l.length=Qt enc (l.modify n λ p=>(p.1,v)):=by
  simp only[Qt,length_modify];congr 1;apply Array.ext';rw[Array.toList_modify];exact Ec enc v l 0 n
 rw[this];exact hm
def vD{κ:Type}[DecidableEq κ](k:κ)(z v:Value)(l:List (κ×Value)):(X5 k z l).modify (XW k l) (λ p=>(p.1,v))=ZA k v l/\XW k l<(X5 k z l).length:=by
 have key:∀(l:List (κ×Value))(i:Nat),(match QL k l i with
   |some (n,_)=>i<=n/\n-i<l.length/\l.modify (n-i) (λ p=>(p.1,v))=ZA k v l
   |none=>ZA k v l=l++[(k,v)]):=by
  intro l
  induction l with
  |nil=>intro i;rfl
  |cons p l E=>
   intro i;simp only[QL];by_cases e:k=p.1
   .simp[e,ZA]
   .rw[if_neg e];have:=E (i+1);cases hl:QL k l (i+1)with
    |none=>
     rw[hl]at this;simp only[ZA,if_neg e]at this ⊢;rw[this];rfl
    |some q=>
     obtain⟨n,w⟩:=q;rw[hl]at this;simp only at this ⊢;obtain⟨h1,h2,f⟩:=this;have B:n-i=(n-(i+1))+1:=O1
     refine⟨O1,S3,?_⟩;rw[B,modify_succ_cons,f];simp only[ZA,if_neg e]
 have h:=key l 0;unfold X5 XW lk;cases hl:QL k l 0 with
 |none=>
  rw[hl]at h;simp only at h;simp only[Option.map_none,Option.isSome_none,Bool.false_eq_true,if_false,length_append,length_cons,length_nil];refine⟨?_,O1⟩;rw[h];apply ext_getElem?;intro i;rw[getElem?_modify];by_cases hi:l.length=i
  .subst hi;simp
  .simp only[if_neg hi];by_cases b:i<l.length
   .rw[getElem?_append_left b,getElem?_append_left b];simp
   .rw[getElem?_eq_none S3,getElem?_eq_none S3];rfl
 |some q=>
  obtain⟨n,w⟩:=q;rw[hl]at h;simp only[Nat.sub_zero]at h;simp only[Option.map_some,Option.isSome_some,if_true];exact⟨h.2.2,h.2.1⟩
inductive X3(S:Sys P T)(ops:Array Oper)(rl:List Nat)(J:Qa T->Prop)(Fin:Act->Qa T->Prop):List Nat->(Qa T->Prop)->Act->Prop
 |nil {C α}:(∀U',C U'->Fin α U')->X3 S ops rl J Fin [] C α
 |un {β δ C α γ}:β∉rl->ops[β]?=some γ->Region.wanted γ (yielded ops α.tmps)=false->X3 S ops rl J Fin δ C (α.put γ.dst undef)->X3 S ops rl J Fin (β::δ) C α
 |det {β δ C α γ} (v:Value):β∉rl->ops[β]?=some γ->Region.wanted γ (yielded ops α.tmps)=true ->
   (∀U',J U'->QK S γ α (λ v' U2=>v'=v/\∃U1,Qv U2 U1/\U'.le U1) U')->X3 S ops rl J Fin δ C (α.put γ.dst v)->X3 S ops rl J Fin (β::δ) C α
 |rel {β δ C α γ} (F:Value->Qa T->Prop):β∈rl->(∀v,XC (F v))->(∀v U',F v U'->J U')->ops[β]?=some γ->Region.wanted γ (yielded ops α.tmps)=true ->
   (∀U',C U'->QK S γ α (λ v' U2=>∃U1,Qv U2 U1/\F v' U1) U')->(∀v,(∃U',F v U')->X3 S ops rl J Fin δ (F v) (α.put γ.dst v))->X3 S ops rl J Fin (β::δ) C α
structure Xg(S:Sys P T)(ops:Array Oper)(rl qs:List Nat)(J:Qa T->Prop)(a_0:Act)(Fin:Act->Qa T->Prop)(listed:Array Bool)(ac:Act)(U:Qa T)
  (pre L:List Nat) (C:Qa T->Prop) (av:Act) (val:Nat->Value):Prop where
 split:qs=pre++L
 der:X3 S ops rl J Fin L C av
 mono:XC C
 inJ:∀U',C U'->J U'
 c:C U
 av:Jj ops val (·∈pre) a_0 av
 ac:Jj ops val (Li listed) a_0 ac
 sub:∀i,Li listed i->i∈pre
 size:listed.size=ops.size
 down:∀i,Li listed i->∀j∈Wt ops i,Li listed j
 rels:∀i∈pre,i∈rl->Li listed i
 pend:∀i∈pre,¬Li listed i->∃o ai p,qs[p]?=some i/\ops[i]?=some o/\Jj ops val (·∈qs.take p) a_0 ai /\
  ((Region.wanted o (yielded ops ai.tmps)=false/\val i=undef) \/
   (Region.wanted o (yielded ops ai.tmps)=true/\∀U',J U'->QK S o ai (λ v' U2=>v'=val i/\∃U1,Qv U2 U1/\U'.le U1) U'))
section
variable{J:Qa T->Prop}{C:Qa T->Prop}
def Xg.note(hf:Ju ops [] qs ts)(h:Xg S ops rl qs J a_0 q listed ac U pre (n::rest) C av val)(v:Value) :
  Jj ops (ZS val n v) (·∈pre) a_0 av/\Jj ops (ZS val n v) (Li listed) a_0 ac /\
  (∀i∈pre,¬Li listed i->∃o f p,qs[p]?=some i/\ops[i]?=some o/\Jj ops (ZS val n v) (·∈qs.take p) a_0 f /\
   ((Region.wanted o (yielded ops f.tmps)=false/\ZS val n v i=undef) \/
    (Region.wanted o (yielded ops f.tmps)=true/\∀U',J U'->QK S o f (λ N K=>N=ZS val n v i/\∃H,Qv K H/\U'.le H) U'))):=by
 have hx:=PQ hf h.split;refine⟨h.av.val λ j w=>Hn (λ e=>hx (e▸w)),h.ac.val λ j w=>Hn (λ e=>hx (e▸h.sub j w)),λ i hi hl=>?_⟩;obtain⟨o,f,p,hp,M,E,L⟩:=h.pend i hi hl;have F:i≠n:=λ e=>hx (e▸hi);refine⟨o,f,p,hp,M,E.val λ j w=>Hn λ e=>?_,by rw[Hn F];exact L⟩;subst e;obtain⟨p',b⟩:=mem_iff_getElem?.1 w;rw[getElem?_take]at b;split at b
 .rename_i hlt;have P:=HI hf (W8 (ts:=ts) b) (W8 (W7 h.split).2);obtain⟨I,B⟩:=mem_iff_getElem?.1 hi;have G:I<pre.length:=(Zz4 B);have Q:=HI hf (W8 (ts:=ts) hp) (W8 (ts:=ts) (p:=I) (i:=i) (by rw[h.split,getElem?_append_left G];exact B));omega
 .cases b
end
section
variable{J:Qa T->Prop}{C:Qa T->Prop}
def Xg.adv(hf:Ju ops [] qs ts)(h:Xg S ops rl qs J a_0 q listed ac U pre (N::rest) C av val)(B:ops[N]?=some o)(f:N∉rl)
  (G:X3 S ops rl J q rest C (av.put o.dst v))
  (H:(Region.wanted o (yielded ops av.tmps)=false/\v=undef)\/(Region.wanted o (yielded ops av.tmps)=true/\∀U',J U'->QK S o av (λ L F=>L=v/\∃w,Qv F w/\U'.le w) U')) :
  Xg S ops rl qs J a_0 q listed ac U (pre++[N]) rest C (av.put o.dst v) (ZS val N v):=by
 obtain⟨E,I,K⟩:=h.note hf v;have b:=Jj.put hf E B;rw[HH]at b;refine⟨by rw[h.split];simp,G,h.mono,h.inJ,h.c,?_,I,λ i hi=>mem_append_left _ (h.sub i hi),h.size,h.down,?_,?_⟩
 .have e:(λ j=>j∈pre\/j=N)=(·∈pre++[N]):=by funext j;simp
  rw[<- e];exact b
 .intro i hi hr;rcases mem_append.1 hi with hi|hi
  .exact h.rels i hi hr
  .simp at hi;subst hi;exact absurd hr f
 .intro i hi hl;rcases mem_append.1 hi with hi|hi
  .exact K i hi hl
  .simp at hi;subst hi;refine⟨o,av,pre.length,(W7 h.split).2,B,by rw[(W7 h.split).1];exact E,?_⟩;rw[HH];exact H
end
def Yr(ops:Array Oper)(rl qs:List Nat):Prop:=∀p x,qs[p]?=some x->x∈rl->∀i∈qs.drop (p+1),i∉rl->∃r∈qs.drop p,r∈rl/\JA ops r i
section
variable{J:Qa T->Prop}{C:Qa T->Prop}
def Xg.reach(hf:Ju ops [] qs ts)(E:Yr ops rl qs)(hi:i∈qs)(Y:∀j∈Wt ops i,Li listed j) :
  ∀(L pre:List Nat)(C:Qa T->Prop)(av:Act)(val:Nat->Value),Xg S ops rl qs J a_0 q listed ac U pre L C av val->(i∈rl->(L.filter λ x=>rl.contains x).head?=some i) ->
   ∃w I X K H,Xg S ops rl qs J a_0 q listed ac U w I X K H/\(I.filter λ x=>rl.contains x)=(L.filter λ x=>rl.contains x)/\(i∈w\/∃rest,I=i::rest/\i∈rl):=by
 intro L
 induction L with
 |nil=>
  intro pre C av val h _;exact⟨pre,[],C,av,val,h,rfl,.inl (by have:=h.split;simp at this;exact this▸hi)⟩
 |cons x rest W=>
  intro pre C av val h b;by_cases hx:x∈rl
  .by_cases e:x=i
   .subst e;exact⟨pre,_,C,av,val,h,rfl,.inr ⟨rest,rfl,hx⟩⟩
   .by_cases hpre:i∈pre
    .exact⟨pre,_,C,av,val,h,rfl,.inl hpre⟩
    .exfalso
     have hm:i∈rest:=by
      rw[h.split]at hi;simp at hi;rcases hi with hi|hi|hi
      .exact absurd hi hpre
      .exact absurd hi.symm e
      .exact hi
     by_cases f:i∈rl
     .have:=b f;rw[filter_cons,if_pos (by simpa using hx)]at this;simp at this;exact e this
     .obtain⟨r,hr1,hr2,hb⟩:=E pre.length x (W7 h.split).2 hx i (by rw[h.split];simp[hm]) f;have Q:=h.sub r (J9 h.down hb Y);rw[h.split]at hr1;simp at hr1;have G:=(nodup_append.1 hf.nodup).1;rw[h.split]at G;exact(nodup_append.1 G).2.2 r Q r (by simpa using hr1) rfl
  .have hfil:((x::rest).filter λ x=>rl.contains x)=rest.filter λ x=>rl.contains x:=by rw[filter_cons,if_neg (by simpa using hx)]
   rw[hfil]at b ⊢;have B:=h.der;cases B with
   |un _ N V M=>exact W _ _ _ _ (h.adv hf N hx M (.inl ⟨V,rfl⟩)) b
   |det v _ N V P M=>exact W _ _ _ _ (h.adv hf N hx M (.inr ⟨V,P⟩)) b
   |rel F hm=>exact absurd hm hx
end
section
variable{J:Qa T->Prop}{C:Qa T->Prop}
def gN(hf:Ju ops [] qs ts)(aw:Yr ops rl qs)(a5:∀i∈ts,i∉rl):∀(r t:Nat)(listed:Array Bool)(ac:Act)(U:Qa T)(pre L:List Nat)(C:Qa T->Prop)(av:Act)(val:Nat->Value),
  Xg S ops rl qs J a_0 (λ a U=>QU S fn ro ops ts Q a U) listed ac U pre L C av val->(qs.filter λ i=>!listed.getD i false).length=r ->
  ((Region.linearise.go .any ops (r+ts.length) t listed []).filter λ x=>rl.contains x)=(L.filter λ x=>rl.contains x) ->
  QU S fn ro ops (Region.linearise.go .any ops (r+ts.length) t listed []) Q ac U:=by
 intro r
 induction r with
 |zero=>
  intro t listed ac U pre L C av val h hr _
  have Z:∀i∈qs,Li listed i:=by
   intro i hi;have:=filter_eq_nil_iff.1 (length_eq_zero_iff.1 hr) i hi;simpa[Li]using this
  have hL:L=[]:=by
   cases L with
   |nil=>rfl
   |cons x rest=>exact absurd (h.sub x (Z x (by rw[h.split];simp))) (PQ hf h.split)
  subst hL;have G:pre=qs:=by have:=h.split;simp at this;exact this.symm
  subst G;have aa:=h.der;cases aa with
  |nil ao=>
   have e:av=ac:=h.av.eq h.ac λ j=>⟨Z j,h.sub j⟩;have:=ao U h.c;rw[e]at this;rw[Nat.zero_add,IV hf ts.length 0 t listed O1 h.size λ i=>?_]
   .simpa using this
   .rw[Nat.add_zero,take_left']
    .exact⟨h.sub i,Z i⟩
    .rfl
 |succ r ih=>
  intro t listed ac U pre L C av val h hr E;obtain⟨q,hq⟩:∃q,q∈qs.filter λ i=>!listed.getD i false:=exists_mem_of_length_pos O1;have az:=(mem_filter.1 hq).1;have ay:¬Li listed q:=by have:=(mem_filter.1 hq).2;simpa[Li]using this
  obtain⟨pq,a3⟩:=mem_iff_getElem?.1 az;obtain⟨y,hy⟩:=VL hf h.size _ _ (W8 (ts:=ts) a3) ay;obtain⟨i,hi,t',a1⟩:=KW (k:=r+ts.length) (t:=t) (ne_nil_of_mem hy);have ab:=KZ hi;have K:=(J2.1 hi).2.2;have ax:=(J2.1 hi).1
  have aq:i∈qs:=by
   rcases mem_append.1 ((hf.mem i).1 ax)with hm|hm
   .exact hm
   .obtain⟨p1,hp1⟩:=mem_iff_getElem?.1 hm;exact absurd (J9 h.down (hf.tail p1 i hp1 q (mem_append_left _ az)) K) ay
  rw[show r+1+ts.length=(r+ts.length)+1 by omega,a1]at E ⊢;have B:∀j,Li (listed.setIfInBounds i true) j↔Li listed j\/j=i:=λ j=>Yg (by rw[h.size];exact ax)
  have H:(qs.filter λ x=>!(listed.setIfInBounds i true).getD x false).length=r:=by
   have a2:=(nodup_append.1 hf.nodup).1
   have e:(qs.filter λ x=>!(listed.setIfInBounds i true).getD x false)=(qs.filter λ x=>!listed.getD x false).filter (λ x=>x != i):=by
    rw[filter_filter];refine filter_congr λ x _=>?_;have:=B x;simp only[Li]at this;cases hx:(listed.setIfInBounds i true).getD x false <;> cases a6:listed.getD x false <;> by_cases e:x=i <;> simp_all
   rw[e,<- Nodup.erase_eq_filter (a2.filter _),length_erase_of_mem (mem_filter.2 ⟨aq,by simpa[Li]using ab⟩),hr];rfl
  have ae:i∈rl->(L.filter λ x=>rl.contains x).head?=some i:=λ M=>by
   rw[<- E,filter_cons,if_pos (by simpa using M)];rfl
  obtain⟨N,L',C',af,X,f,an,ag⟩:=Xg.reach hf aw aq K L pre C av val h ae;rw[<- an]at E
  have V:∀j,Li (listed.setIfInBounds i true) j->∀k∈Wt ops j,Li (listed.setIfInBounds i true) k:=by
   intro j b k hk;rw[B]at b ⊢;rcases b with b|rfl
   .exact .inl (h.down j b k hk)
   .exact .inl (K k hk)
  have W:∀{val:Nat->Value}{o:Oper},ops[i]?=some o->Jj ops val (Li listed) a_0 ac->Jj ops val (Li (listed.setIfInBounds i true)) a_0 (ac.put o.dst (val i)):=by
   intro val o Y ha;have:=Jj.put hf ha Y;have e:Li (listed.setIfInBounds i true)=λ j=>Li listed j\/j=i:=by funext j;exact propext (B j)
   rw[e];exact this
  by_cases G:i∈N
  .obtain⟨o,ai,p,hp,Y,hag,hh⟩:=f.pend i G ab;have au:i∉rl:=λ M=>ab (f.rels i G M)
   have I:((Region.linearise.go .any ops (r+ts.length) t' (listed.setIfInBounds i true) []).filter λ x=>rl.contains x)=(L'.filter λ x=>rl.contains x):=by
    rw[<- E,filter_cons,if_neg (by simpa using au)]
   have w:=PT Y (hf.nosel i o Y) (a:=ac) (a':=ai) λ s hs=>f.ac.slot hag λ j b=>P1 hf f.down hp ab K hs b
   have next:∀P,U.le P->Xg S ops rl qs J a_0 (λ a U=>QU S fn ro ops ts Q a U) (listed.setIfInBounds i true) (ac.put o.dst (X i)) P N L' C' af X:=λ P ah=>
    ⟨f.split,f.der,f.mono,f.inJ,f.mono _ _ f.c ah,f.av,W Y f.ac,λ j b=>((B j).1 b).elim (f.sub j) (λ e=>e▸G),by simpa using f.size,V,λ j b hr=>(B j).2 (.inl (f.rels j b hr)),
     λ j b hl=>f.pend j b λ hx=>hl ((B j).2 (.inl hx))⟩
   rcases hh with⟨hw,hv⟩|⟨hw,aj⟩
   .refine P2 Y (by rw[w.2];exact hw) ?_;have:=ih t' _ _ _ _ _ _ _ _ (next U (.refl U)) H I;rw[hv]at this;exact this
   .have ad:QK S o ac (λ v' U2=>v'=X i/\∃P,Qv U2 P/\U.le P) U:=by have:=aj U (f.inJ U f.c);unfold QK at this ⊢;rw[w.1];exact this
    refine XS Y (by rw[w.2];exact hw) (.inr (Pq ad)) (Pr ad λ v U2 hv=>?_);obtain⟨rfl,P,hs,ah⟩:=hv;exact Gj hs (ih t' _ _ _ _ _ _ _ _ (next P ah) H I)
  .obtain⟨rest,rfl,M⟩:=ag.resolve_left G
   have I:((Region.linearise.go .any ops (r+ts.length) t' (listed.setIfInBounds i true) []).filter λ x=>rl.contains x)=(rest.filter λ x=>rl.contains x):=by
    rw[filter_cons,if_pos (by simpa using M),filter_cons,if_pos (by simpa using M)]at E;exact(List.cons.inj E).2
   have aa:=f.der;cases aa with
   |un hx _ _ _=>exact absurd M hx
   |det _ hx _ _ _ _=>exact absurd M hx
   |@rel _ _ _ _ o F _ hF a0 Y hw aj hd=>
    obtain⟨a4,ap⟩:=W7 f.split
    have w:=PT Y (hf.nosel i o Y) (a:=ac) (a':=af) λ s hs=>f.ac.slot f.av λ j b=>by
     have:=P1 hf f.down ap ab K hs b;rw[a4]at this;exact this
    have ad:QK S o ac (λ v' U2=>∃P,Qv U2 P/\F v' P) U:=by have:=aj U f.c;unfold QK at this ⊢;rw[w.1];exact this
    refine XS Y (by rw[w.2];exact hw) (.inr (Pq ad)) (Pr ad λ v U2 hv=>?_);obtain⟨P,hs,ak⟩:=hv;refine Gj hs ?_;obtain⟨n1,n2,n3⟩:=f.note hf v;have am:=Jj.put hf n1 Y;have al:=W Y n2;rw[HH]at am al;refine ih t' _ _ P (N++[i]) rest (F v) (af.put o.dst v) (ZS X i v) ⟨by rw[f.split];simp,hd v ⟨P,ak⟩,hF v,a0 v,ak,?_,al,?_,by simpa using f.size,V,?_,?_⟩ H I
    .have e:(λ j=>j∈N\/j=i)=(·∈N++[i]):=by funext j;simp
     rw[<- e];exact am
    .intro j b;rcases(B j).1 b with b|rfl
     .exact mem_append_left _ (f.sub j b)
     .simp
    .intro j b hr;rw[B];rcases mem_append.1 b with b|b
     .exact .inl (f.rels j b hr)
     .exact .inr (by simpa using b)
    .intro j b hl;rcases mem_append.1 b with b|b
     .exact n3 j b λ hx=>hl ((B j).2 (.inl hx))
     .exact absurd ((B j).2 (.inr (by simpa using b))) hl
end
def gV(hf:Ju ops [] qs ts):∀(r t:Nat)(listed:Array Bool),listed.size=ops.size->(∀i,Li listed i->∀j∈Wt ops i,Li listed j)->((qs++ts).filter λ i=>!listed.getD i false).length=r ->
  let g:=Region.linearise.go .any ops r t listed [];(∀i,i∈g↔i<ops.size/\¬Li listed i)/\g.Nodup/\g.Pairwise λ i j=>¬JA ops j i:=by
 intro r
 induction r with
 |zero=>
  intro t listed K _ Q
  have H:∀i,i<ops.size->Li listed i:=λ i hi=>by
   have:=filter_eq_nil_iff.1 (length_eq_zero_iff.1 Q) i ((hf.mem i).1 hi);simpa[Li]using this
  simp only[Region.linearise.go,reverse_nil];exact⟨λ i=>⟨(λ h=>by cases h),λ h=>absurd (H i h.1) h.2⟩,Pairwise.nil,Pairwise.nil⟩
 |succ r X=>
  intro t listed K b Q;obtain⟨q,U⟩:∃q,q∈(qs++ts).filter λ i=>!listed.getD i false:=exists_mem_of_length_pos O1;have P:¬Li listed q:=by have:=(mem_filter.1 U).2;simpa[Li]using this
  obtain⟨pq,N⟩:=mem_iff_getElem?.1 (mem_filter.1 U).1;obtain⟨y,hy⟩:=VL hf K _ _ N P;obtain⟨i,hi,V,L⟩:=KW (k:=r) (t:=t) (ne_nil_of_mem hy);have I:=KZ hi;have E:=(J2.1 hi).2.2;have F:=(J2.1 hi).1;have f:∀j,Li (listed.setIfInBounds i true) j↔Li listed j\/j=i:=λ j=>Yg (by rw[K];exact F)
  have B:∀j,Li (listed.setIfInBounds i true) j->∀k∈Wt ops j,Li (listed.setIfInBounds i true) k:=by
   intro j G k T;rw[f]at G ⊢;rcases G with G|rfl
   .exact .inl (b j G k T)
   .exact .inl (E k T)
  have w:((qs++ts).filter λ x=>!(listed.setIfInBounds i true).getD x false).length=r:=by
   have e:((qs++ts).filter λ x=>!(listed.setIfInBounds i true).getD x false)=((qs++ts).filter λ x=>!listed.getD x false).filter (λ x=>x != i):=by
    rw[filter_filter];refine filter_congr λ x _=>?_;have:=f x;simp only[Li]at this;cases hx:(listed.setIfInBounds i true).getD x false <;> cases W:listed.getD x false <;> by_cases e:x=i <;> simp_all
   rw[e,<- Nodup.erase_eq_filter (hf.nodup.filter _),length_erase_of_mem (mem_filter.2 ⟨(hf.mem i).1 F,by simpa[Li]using I⟩),Q];rfl
  obtain⟨S,Y,Z⟩:=X V _ (by simpa using K) B w;simp only;rw[L];have M:i∉Region.linearise.go .any ops r V (listed.setIfInBounds i true) []:=λ hm=>((S i).1 hm).2 ((f i).2 (.inr rfl));refine⟨λ j=>?_,nodup_cons.2 ⟨M,Y⟩,pairwise_cons.2 ⟨λ j G hb=>?_,Z⟩⟩
  .rw[mem_cons,S,f];by_cases e:j=i
   .subst e;simp[F,I]
   .simp[e]
  .exact((S j).1 G).2 ((f j).2 (.inl (J9 b hb E)))
def YI(b:Nat->Nat->Bool)(ok:List Nat->Bool):Nat->List Nat->List Nat->Bool
 |0,_,pre=>ok pre
 |n+1,rem,pre=>rem.all λ i=>(rem.any λ j=>j != i&&b j i)|| YI b ok n (rem.erase i) (pre++[i])
def Eo{F:Nat->Nat->Bool}{ok:List Nat->Bool}:∀(n:Nat)(rem pre ρ:List Nat),YI F ok n rem pre=true->rem.length=n->ρ.Perm rem->ρ.Nodup->(ρ.Pairwise λ i j=>F j i=false)->ok (pre++ρ)=true
 |0,rem,pre,ρ,h,w,hp,_,_=>by
  have:ρ=[]:=length_eq_zero_iff.1 (by rw[hp.length_eq,w]);subst this;rw[append_nil];exact h
 |n+1,rem,pre,ρ,h,w,hp,B,hb=>by
  cases ρ with
  |nil=>have:=hp.length_eq;simp at this;omega
  |cons i ρ=>
   have hi:i∈rem:=hp.subset (mem_cons_self ..);have b:=pairwise_cons.1 hb;have f:=nodup_cons.1 B;have h1:=all_eq_true.1 h i hi;rw[Bool.or_eq_true]at h1;rcases h1 with h1|h1
   .obtain⟨j,hj,h2⟩:=any_eq_true.1 h1;rw[Bool.and_eq_true]at h2;have E:j≠i:=by simpa using h2.1
    rcases mem_cons.1 (hp.symm.subset hj)with e|hm
    .exact absurd e E
    .rw[b.1 j hm]at h2;cases h2.2
   .have:=Eo n (rem.erase i) (pre++[i]) ρ h1 (by rw[length_erase_of_mem hi,w];rfl) ((perm_cons_erase hi).symm.trans hp.symm|>.cons_inv|>.symm) f.2 b.2
    rwa [append_assoc]at this
def Lx(ops:Array Oper)(rl qs:List Nat):Bool:=
 let b:=X2 ops ops.size
 (range qs.length).all λ p=>!rl.contains (qs.getD p 0)|| (qs.drop (p+1)).all λ i=>rl.contains i|| (qs.drop p).any λ r=>rl.contains r&&(b.getD i 0).testBit r
def N7(h:Lx ops rl qs=true):Yr ops rl qs:=λ p x hp hx i hi b=>by
 have f:=(Zz4 hp);have h1:=all_eq_true.1 h p (mem_range.2 f);have e:qs.getD p 0=x:=by rw[getD_eq_getElem?_getD,hp];rfl
 rw[e]at h1;simp only[Bool.or_eq_true,Bool.not_eq_true']at h1;rcases h1 with h1|h1
 .rw[show rl.contains x=true by simpa using hx]at h1;cases h1
 .have h2:=all_eq_true.1 h1 i hi;rw[Bool.or_eq_true]at h2;rcases h2 with h2|h2
  .exact absurd (by simpa using h2) b
  .obtain⟨r,hr,h3⟩:=any_eq_true.1 h2;rw[Bool.and_eq_true]at h3;exact⟨r,hr,by simpa using h3.1,Wm ops _ _ _ h3.2⟩
def YH(ops:Array Oper)(rl:List Nat)(alts:List (List Nat))(ts:List Nat):Bool:=
 !alts.isEmpty&&alts.all (λ qs=>PY ops [] qs ts&&Lx ops rl qs)&&ts.all (λ i=>!rl.contains i)&&(decide rl.Nodup&&rl.all λ i=>decide (i<ops.size)) &&
 YI (λ j i=>((X2 ops ops.size).getD i 0).testBit j) (λ ρ=>alts.any λ qs=>(qs.filter λ x=>rl.contains x)==ρ) rl.length rl []
def L4{J:Qa T->Prop}(rl:List Nat)(alts:List (List Nat))(ts:List Nat)(C:Qa T->Prop)(hC:XC C)(N:∀U',C U'->J U')(V:C U)(hm:P.follows .mixedOrders=true)(F:YH ops rl alts ts=true)
  (h:∀qs∈alts,X3 S ops rl J (λ a U=>QU S fn ro ops ts Q a U) qs C a):Zq S fn ro (.region n ops true) Q a U:=by
 unfold YH at F;simp only[Bool.and_eq_true,Bool.not_eq_true']at F;obtain⟨⟨⟨⟨h1,h2⟩,h3⟩,h4,h5⟩,h6⟩:=F
 have Y:∀i∈ts,i∉rl:=λ i hi hr=>by
  have:=all_eq_true.1 h3 i hi;rw[show rl.contains i=true by simpa using hr]at this;cases this
 have W:rl.Nodup:=of_decide_eq_true h4;have X:∀i∈rl,i<ops.size:=λ i hi=>of_decide_eq_true (all_eq_true.1 h5 i hi)
 have w:∀qs∈alts,Ju ops [] qs ts/\Yr ops rl qs:=λ qs H=>by
  have:=all_eq_true.1 h2 qs H;rw[Bool.and_eq_true]at this;exact⟨Fj this.1,N7 this.2⟩
 have f:∀i,¬Li (Array.replicate ops.size false) i:=by
  intro i h;simp only[Li,Array.getD_eq_getD_getElem?,Array.getElem?_replicate]at h;split at h <;> simp at h
 have b:∀l:List Nat,(l.filter λ i=>!(Array.replicate ops.size false).getD i false).length=l.length:=λ l=>by
  congr 1;rw[filter_eq_self];intro x _;have:=f x;simp only[Li]at this;simpa using this
 have B:∀qs∈alts,ops.size=qs.length+ts.length:=λ qs H=>by
  have hf:=(w qs H).1
  have h1:(qs++ts).Perm (range ops.size):=by
   refine(perm_ext_iff_of_nodup hf.nodup nodup_range).2 λ x=>?_;rw[mem_range];exact(hf.mem x).symm
  have:=h1.length_eq;simp at this;omega
 refine L5 λ t=>?_;simp only[Region.schedule,hm,Bool.true_or,if_true,Region.linearise];obtain⟨M,L⟩:∃q,q∈alts:=by cases alts with|nil=>cases h1|cons q _=>exact⟨q,mem_cons_self ..⟩
 obtain⟨g1,Z,g3⟩:=gV (w M L).1 ops.size t (Array.replicate ops.size false) S1 (λ i h=>absurd h (f i)) (by rw[b,length_append,<- B M L])
 have G:((Region.linearise.go .any ops ops.size t (Array.replicate ops.size false) []).filter λ x=>rl.contains x).Perm rl:=by
  refine(perm_ext_iff_of_nodup (Z.filter _) W).2 λ x=>?_;rw[mem_filter,g1];constructor
  .rintro⟨_,h⟩;simpa using h
  .intro h;exact⟨⟨X x h,f x⟩,by simpa using h⟩
 have I:=Eo rl.length rl [] _ h6 rfl G (Z.filter _) ((g3.filter _).imp λ{i j}hb=>by
  cases hx:((X2 ops ops.size).getD i 0).testBit j with
  |false=>rfl
  |true=>exact absurd (Wm ops _ _ _ hx) hb)
 obtain⟨qs,E,H⟩:=any_eq_true.1 I;have H:(qs.filter λ x=>rl.contains x)=(Region.linearise.go .any ops ops.size t (Array.replicate ops.size false) []).filter λ x=>rl.contains x:=by simpa using H
 obtain⟨hf,K⟩:=w qs E
 have:=gN (S:=S) (fn:=fn) (ro:=ro) (Q:=Q) (J:=J) hf K Y qs.length t (Array.replicate ops.size false) a U [] qs C a (λ _=>undef)
  ⟨rfl,h qs E,hC,N,V,⟨rfl,rfl,λ _ _ _ h=>by simp at h,λ _ _=>rfl⟩,⟨rfl,rfl,λ _ j _ h=>absurd h (f j),λ _ _=>rfl⟩,λ i h=>absurd h (f i),S1,λ i h=>absurd h (f i),S1,S1⟩ (b qs) (by rw[<- B qs E,H])
 rw[<- B qs E]at this;exact this
def Vb(S:Sys P T)(w:Qa T)(kd:Nat)(st:St)(B:(Qa T->Prop)->Zk T->Fm->List Deferred->Prop)(C:Qa T->Prop)(K:Zk T)(ds:List Deferred)(f:Fm):Prop:=match kd with
 |0=>OX S st.o f (λ v _=>B C K (ZC f st.dst v) ds) w
 |1=>∃v,(∀U',w.lg U'->OX S st.o f (λ E h=>E=v/\∃b,Qv h b/\U'.le b) U')/\B C K (ZC f st.dst v) ds
 |_=>∃F:Value->Qa T->Prop,(∀v,XC (F v))/\(∀v U',F v U'->w.lg U')/\(∀U',C U'->OX S st.o f (λ E h=>∃b,Qv h b/\F E b) U')/\∀v,(∃U',F v U')->B (F v) K (ZC f st.dst v) ds
def Va(S:Sys P T)(B:Qa T)(kd:Nat)(st:St)(w:(Qa T->Prop)->Zk T->Fm->List Deferred->Prop)(C:Qa T->Prop)(K:Zk T)(f:Fm)(ds:List Deferred):Prop:=match st.g with
 |some (j,h)=>(match f j with
  |.bool b=>GB b h (Vb S B kd st w C K ds (JH f j (.bool h))) (w C K (ZC (JH f j (.bool !h)) st.dst undef) ds)
  |.tuple _=>w C K (ZC f st.dst undef) ds
  |_=>False)
 |none=>Vb S B kd st w C K ds f
def XY(S:Sys P T)(b:Qa T)(l:List (Nat×St)):(Qa T->Prop)->Zk T->Fm->List Deferred->Prop:=
 List.rec (motive:=λ _=>(Qa T->Prop)->Zk T->Fm->List Deferred->Prop) (λ C K f ds=>∀U',C U'->K f ds U') (λ p _ h=>Va S b p.1 p.2 h) l
def IL(S:Sys P T)(b:Qa T)(kd:Nat)(st:St)(r:List (Nat×St)):XY S b ((kd,st)::r)=Va S b kd st (XY S b r):=rfl
def zE(B:stable Y=true)(h:OX S Y f K U):∃v,K v U/\∀(U':Qa T)(w:Value->Qa T->Prop),U.lg U'->w v U'->OX S Y f w U':=by
 by_cases hl:HQ Y=true
 .cases Y with
  |ld x=>
   simp only[OX,Qy]at h;split at h <;> rename_i e
   .obtain⟨v,a,b⟩:=h;exact⟨v,b,λ U' w hl k=>by simp only[OX,Qy,e];exact⟨v,a.lg hl,k⟩⟩
   .exact h.elim
  |ldn n x=>
   simp only[OX]at h;split at h <;> rename_i e
   .obtain⟨v,a,b⟩:=h;exact⟨_,b,λ U' w hl k=>by simp only[OX,Qy,e];exact⟨v,⟨a.1,a.2.lg hl⟩,k⟩⟩
   .exact h.elim
  |_=>cases hl
 .obtain⟨v,a,b⟩:=OX.stable B h;exact⟨v,a,λ U' w _ k=>b U' w (.inl (by simpa using hl)) k⟩
def X0(P:Program)(mu:List Nat)(ops:Array Oper)(rl:List Nat)(i:Nat):Nat:=
 if rl.contains i then 2 else match ops[i]? with
  |some o=>if stable (Q5 P mu o)then 0 else 1
  |none=>1
def L8{K:Zk T}(ab:∀a f ds U',FR N a f ds->K f ds U'->q a U')(hN:∀(i:Nat)(o:Oper),ops[i]?=some o->∀d,o.dst=some d->d<N) :
  ∀(B:List Nat)(l:List (Nat×St)),B.mapM (λ i=>((ops[i]?).bind (Jg P mu ops)).map λ st=>(X0 P mu ops rl i,st))=some l->(l.all λ x=>x.2.dfr.isNone)=true->(∀i∈B,∀o,ops[i]?=some o->o.guard=none\/i∉rl) ->
   ∀(a:Act)(f:Fm)(ds:List Deferred)(C:Qa T->Prop),FR N a f ds->XY S Z l C K f ds->X3 S ops rl (λ U'=>Z.lg U') q B C a:=by
 intro B
 induction B with
 |nil=>
  intro l hl _ _ a f ds C hf h;simp at hl;subst hl;exact .nil λ U' hc=>ab a f ds U' hf (h U' hc)
 |cons i B ih=>
  intro l hl G ac a f ds C hf h;simp only[mapM_cons,Option.pure_def,Option.bind_eq_bind,Option.bind_eq_some_iff,Option.map_eq_some_iff]at hl;obtain⟨x,⟨st,⟨o,I,X⟩,rfl⟩,l',hl',e⟩:=hl;cases e;simp only[all_cons,Bool.and_eq_true]at G;have Y:=hN i o I;have E:=ih l' hl' G.2 (λ j hj=>ac j (mem_cons_of_mem _ hj))
  have M:(i∈rl/\X0 P mu ops rl i=2)\/(i∉rl/\X0 P mu ops rl i=0/\stable (Q5 P mu o)=true)\/(i∉rl/\X0 P mu ops rl i=1):=by
   unfold X0;by_cases H:i∈rl
   .exact .inl ⟨H,by rw[if_pos (by simpa using H)]⟩
   .rw[if_neg (by simpa using H),I];by_cases W:stable (Q5 P mu o)=true
    .exact .inr (.inl ⟨H,by simp only[W,if_true],W⟩)
    .exact .inr (.inr ⟨H,by simp only[W];rfl⟩)
  have run:∀{f:Fm}{st:St},st.o=Q5 P mu o->st.dst=o.dst->FR N a f ds->Region.wanted o (yielded ops a.tmps)=true->Vb S Z (X0 P mu ops rl i) st (XY S Z l') C K ds f->X3 S ops rl (λ U'=>Z.lg U') q (i::B) C a:=by
   intro f st e1 e2 hf L h;unfold Vb at h;rw[e1,e2]at h;rcases M with⟨H,M⟩|⟨H,M,W⟩|⟨H,M⟩
   .rw[M]at h;obtain⟨F,hF,ad,U,hn⟩:=h;refine .rel F H hF ad I L (λ U' hc=>?_) (λ v hv=>E _ _ _ _ (hf.put o.dst v Y) (hn v hv));exact W1 (λ x=>hf.eval x) (λ v' U2 U3 W⟨U1,a,b⟩=>⟨U1,W.trans a,b⟩) (U U' hc)
   .rw[M]at h;obtain⟨v,hn,X⟩:=zE W h;refine .det v H I L (λ U' Q=>?_) (E _ _ _ _ (hf.put o.dst v Y) hn);exact W1 (λ x=>hf.eval x) Jq (X U' _ Q ⟨rfl,U',.refl _,.refl _⟩)
   .rw[M]at h;obtain⟨v,U,hn⟩:=h;refine .det v H I L (λ U' Q=>?_) (E _ _ _ _ (hf.put o.dst v Y) hn);exact W1 (λ x=>hf.eval x) Jq (U U' Q)
  cases Vd X with
  |plain ae hg=>simp only[IL,Va]at h;exact run rfl rfl hf (Wl hg) h
  |@guarded j w d ae hg aa=>
   simp only[IL,Va]at h;have V:i∉rl:=(ac i (mem_cons_self ..) o I).resolve_left (by rw[hg];simp);split at h
   .rename_i b hb;have L:=O4 (ops:=ops) (o:=o) hg aa (hf.slot hb);have e:JH f d (.bool b)=f:=Y4 hb;cases b <;> cases w <;> simp only[GB,Bool.not_true,Bool.not_false]at h <;> rw[e]at h
    .exact run rfl rfl hf (by rw[L];rfl) h
    .exact .un V I (by rw[L];rfl) (E _ _ _ _ (hf.put o.dst undef Y) h)
    .exact .un V I (by rw[L];rfl) (E _ _ _ _ (hf.put o.dst undef Y) h)
    .exact run rfl rfl hf (by rw[L];rfl) h
   .rename_i vs hb;exact .un V I (On hf hg aa hb) (E _ _ _ _ (hf.put o.dst undef Y) h)
   .exact h.elim
  |dfr=>simp at G
def GC(N:Nat)(ops:Array Oper)(rl:List Nat)(alts:List (List Nat))(ts:List Nat):Bool:=
 YH ops rl alts ts&&ops.all (GO N)&&rl.all λ i=>((ops[i]?).map (·.guard.isNone)).getD true
def xU{c:Code}{n:Zk T}{x:Nat->Zk T}(rl:List Nat)(alts:List (List Nat))(ts:List Nat)(la:List (List (Nat×St)))(lt:List St)(hm:P.follows .mixedOrders=true)
  (Z:c=.region yl ops true) (b:GC N ops rl alts ts=true) (H:alts.mapM (λ qs=>qs.mapM λ i=>((ops[i]?).bind (Jg P mu ops)).map λ st=>(X0 P mu ops rl i,st))=some la) (V:ts.mapM (λ i=>(ops[i]?).bind (Jg P mu ops))=some lt)
  (G:(la.all λ l=>l.all λ x=>x.2.dfr.isNone)=true) (E:Zk T) (h:∀l∈la,XY S U.frz l (λ U'=>U.le U') E f ds) (Y:∀F w U',E F w U'->JV S ro lt n F w U'):UF S fn ro N c n x r f ds U:=by
 subst Z;intro a hf;unfold GC at b;simp only[Bool.and_eq_true]at b;obtain⟨⟨b,Q⟩,hg⟩:=b
 have X:∀(i:Nat)(o:Oper),ops[i]?=some o->∀d,o.dst=some d->d<N:=λ i o I d hd=>by
  have:=(Array.all_eq_true'.1 Q) o (Array.mem_of_getElem? I);unfold GO at this;rw[hd]at this;exact of_decide_eq_true this
 have M:∀i∈rl,∀o,ops[i]?=some o->o.guard=none:=λ i hi o I=>by
  have:=all_eq_true.1 hg i hi;rw[I]at this;simpa using this
 refine L4 (J:=λ U'=>U.frz.lg U') rl alts ts (λ U'=>U.le U') (λ _ _ h k=>h.trans k) (λ U' h=>⟨h.imm,Zz3,h.tok⟩) (.refl U) hm b λ qs B=>?_
 obtain⟨l,hl,hl'⟩:∃l,l∈la/\qs.mapM (λ i=>((ops[i]?).bind (Jg P mu ops)).map λ st=>(X0 P mu ops rl i,st))=some l:=by
  clear h G b
  induction alts generalizing la with
  |nil=>cases B
  |cons q alts ih=>
   simp only[mapM_cons,Option.pure_def,Option.bind_eq_bind,Option.bind_eq_some_iff]at H;obtain⟨l,h1,W,h2,e⟩:=H;cases e;rcases mem_cons.1 B with rfl|B
   .exact⟨l,mem_cons_self ..,h1⟩
   .obtain⟨l',h3,h4⟩:=ih W h2 B;exact⟨l',mem_cons_of_mem _ h3,h4⟩
 refine L8 (K:=E) (λ a' F w U' L hk=>?_) X qs l hl' (all_eq_true.1 G l hl) (λ i _ o I=>?_) a f ds _ hf (h l hl)
 .refine PR (n:=n) (λ a f ds U hf h=>?_) X ts lt V a' F w U' L (Y F w U' hk);refine⟨by rw[hf.size,‹FR N _ _ _›.size],f,hf.get,?_⟩;rw[hf.ds];exact h
 .by_cases hi:i∈rl
  .exact .inl (M i hi o I)
  .exact .inr hi
def Sx{c:Code}{id:Nat}(hf:FR N a f ds)(rl:List Nat)(alts:List (List Nat))(ts:List Nat)(hm:P.follows .mixedOrders=true)(E:Zk T)(h:∀l∈la,XY S U.frz l (λ U'=>U.le U') E f ds)(I:∀w b U',E w b U'->JV S ro lt (λ f ds U=>∀a',FR N a' f ds->Q .normal a' U) w b U')
  (K:c=.region id ops true:=by kernel_rfl) (H:GC N ops rl alts ts=true:=by kernel_rfl) (F:alts.mapM (λ qs=>qs.mapM λ i=>((ops[i]?).bind (Jg P mu ops)).map λ st=>(X0 P mu ops rl i,st))=some la:=by conv=>lhs;cbv) (G:ts.mapM (λ i=>(ops[i]?).bind (Jg P mu ops))=some lt:=by conv=>lhs;cbv)
  (B:(la.all λ l=>l.all λ x=>x.2.dfr.isNone)=true:=by kernel_rfl):Zq S fn ro c Q a U:=by
 have:=xU (S:=S) (fn:=fn) (ro:=ro) (n:=λ f ds U=>∀a',FR N a' f ds->Q .normal a' U) (x:=λ _ _ _ _=>False) (r:=λ _ _ _=>False) (U:=U) rl alts ts la lt hm K H F G B E h I a hf;refine Zq.mono this λ e a' U'⟨M,w,L,hp⟩=>?_;cases e with
 |normal=>exact hp a' ⟨rfl,by rw[M];exact hf.size,L⟩
 |exit i=>exact hp.elim
 |ret=>exact hp.elim
structure HB(U:Qa T)(b:Nat)(e:TypeId)(c:Array Value)(U':Qa T):Prop where
 imm:∀x o,U.I x=some o->U'.I x=some o
 own:U'.M=.obj b (.cells c e (0,0))::U.M
 tok:U'.tok=U.tok
 new:U.I b=none
def HB.le{U U' U'':Qa T}{b:Nat}{e:TypeId}{c:Array Value}(h:HB U b e c U')(k:U'.le U''):HB U b e c U'':=⟨λ x o i=>k.imm x o (h.imm x o i),k.own.trans h.own,k.tok.trans h.tok,h.new⟩
def HB.frz2(h:HB U b e c U'):U.frz.lg U'.frz:=⟨h.imm,⟨[],rfl⟩,h.tok⟩
def HB.write(h:HB U b e c U')(w:c.size=vs.length)(E:∀v∈vs,v.single=true)(B:∀f,U.le f->Zi f b vs.toArray->j f):QX ⟨b,0,none⟩ vs 0 (λ U'=>∃f,Qv U' f/\j f) U':=by
 refine Yd [] vs 0 c U' h.own E O1 ?_;rw[Pm w];refine⟨_,Wa (b:=b) (M':=U.M) (Perm.refl _),B _ ⟨λ x o i=>?_,rfl,h.tok⟩ Zi.new⟩;show JD U'.I b _ x=_;unfold JD;rw[if_neg]
 .exact h.imm x o i
 .rintro rfl;rw[h.new]at i;cases i
def wv{c:Code}{n:Zk T}{x:Nat->Zk T}(L:Qa T)(M:L.lg U)(rl:List Nat)(alts:List (List Nat))(ts:List Nat)(la:List (List (Nat×St)))(lt:List St)(hm:P.follows .mixedOrders=true)
  (hc:c=.region yl ops true) (b:GC N ops rl alts ts=true) (H:alts.mapM (λ qs=>qs.mapM λ i=>((ops[i]?).bind (Jg P mu ops)).map λ st=>(X0 P mu ops rl i,st))=some la) (X:ts.mapM (λ i=>(ops[i]?).bind (Jg P mu ops))=some lt)
  (G:(la.all λ l=>l.all λ x=>x.2.dfr.isNone)=true) (E:Zk T) (h:∀l∈la,XY S L l (λ U'=>U.le U') E f ds) (hE:∀F w U',E F w U'->JV S ro lt n F w U'):UF S fn ro N c n x r f ds U:=by
 subst hc;intro a hf;unfold GC at b;simp only[Bool.and_eq_true]at b;obtain⟨⟨b,W⟩,hg⟩:=b
 have Z:∀(i:Nat)(o:Oper),ops[i]?=some o->∀d,o.dst=some d->d<N:=λ i o I d hd=>by
  have:=(Array.all_eq_true'.1 W) o (Array.mem_of_getElem? I);unfold GO at this;rw[hd]at this;exact of_decide_eq_true this
 have V:∀i∈rl,∀o,ops[i]?=some o->o.guard=none:=λ i hi o I=>by
  have:=all_eq_true.1 hg i hi;rw[I]at this;simpa using this
 refine L4 (J:=λ U'=>L.lg U') rl alts ts (λ U'=>U.le U') (λ _ _ h k=>h.trans k) (λ U' h=>M.trans h.lg) (.refl U) hm b λ qs B=>?_
 obtain⟨l,hl,hl'⟩:∃l,l∈la/\qs.mapM (λ i=>((ops[i]?).bind (Jg P mu ops)).map λ st=>(X0 P mu ops rl i,st))=some l:=by
  clear h G b
  induction alts generalizing la with
  |nil=>cases B
  |cons q alts ih=>
   simp only[mapM_cons,Option.pure_def,Option.bind_eq_bind,Option.bind_eq_some_iff]at H;obtain⟨l,h1,Y,h2,e⟩:=H;cases e;rcases mem_cons.1 B with rfl|B
   .exact⟨l,mem_cons_self ..,h1⟩
   .obtain⟨l',h3,h4⟩:=ih Y h2 B;exact⟨l',mem_cons_of_mem _ h3,h4⟩
 refine L8 (K:=E) (λ a' F w U' Q hk=>?_) Z qs l hl' (all_eq_true.1 G l hl) (λ i _ o I=>?_) a f ds _ hf (h l hl)
 .refine PR (n:=n) (λ a f ds U hf h=>?_) Z ts lt X a' F w U' Q (hE F w U' hk);refine⟨by rw[hf.size,‹FR N _ _ _›.size],f,hf.get,?_⟩;rw[hf.ds];exact h
 .by_cases hi:i∈rl
  .exact .inl (V i hi o I)
  .exact .inr hi
def Io{c:Code}{id:Nat}(hf:FR N a f ds)(w:Qa T)(F:w.lg U)(rl:List Nat)(alts:List (List Nat))(ts:List Nat)(hm:P.follows .mixedOrders=true)(E:Zk T)(h:∀l∈la,XY S w l (λ U'=>U.le U') E f ds)(L:∀B b U',E B b U'->JV S ro lt (λ f ds U=>∀a',FR N a' f ds->Q .normal a' U) B b U')
  (M:c=.region id ops true:=by kernel_rfl) (K:GC N ops rl alts ts=true:=by kernel_rfl) (H:alts.mapM (λ qs=>qs.mapM λ i=>((ops[i]?).bind (Jg P mu ops)).map λ st=>(X0 P mu ops rl i,st))=some la:=by conv=>lhs;cbv) (I:ts.mapM (λ i=>(ops[i]?).bind (Jg P mu ops))=some lt:=by conv=>lhs;cbv)
  (G:(la.all λ l=>l.all λ x=>x.2.dfr.isNone)=true:=by kernel_rfl):Zq S fn ro c Q a U:=by
 have:=wv (S:=S) (fn:=fn) (ro:=ro) (n:=λ f ds U=>∀a',FR N a' f ds->Q .normal a' U) (x:=λ _ _ _ _=>False) (r:=λ _ _ _=>False) (U:=U) w F rl alts ts la lt hm M K H I G E h L a hf;refine Zq.mono this λ e a' U'⟨W,B,V,hp⟩=>?_;cases e with
 |normal=>exact hp a' ⟨rfl,by rw[W];exact hf.size,V⟩
 |exit i=>exact hp.elim
 |ret=>exact hp.elim
def Nt{t e e2:Nat}
  (hu:P.underlying t=some (.slice e)) (al:P.underlying t2=some (.slice e2)) (hi:P.info? e=some E) (ak:E.size=n) (hz:E.zero=some z) (am:z.cells.size=n) (X:E.bytes≠0/\E.bytes<=1024)
  (hx:Zf f x=v) (hy:Zf f y=.slice ya yl yc) (ha:Acc e n v cs U.M M₀) (T:Src U ya new) (hl:new.length=yl*n) (hn:0<n) (V:∀w∈new,w.single=true) (an:cs.length+new.length<=1048576)
  (ai:new≠[]) (h:∀v' M' Z,Acc e n v' (cs++new) M' (Z++M₀)->(∀N B,Acc e n v' (cs++new) N (Z++B)->∃M3:List Qw,M3.Sublist N/\Acc e n v cs M3 B)->K v' { U with M:=M' }) :
  OX S (.rw (.call { callee:=.builtin .append,args:=#[x,y],argTypes:=#[t,t2] }) ty) f K U:=by
 intro a' ag;obtain⟨sa,sl,sc,F,H,aj⟩:=ha.src;have hm:(#[x,y]:Array Operand).map a'.eval=#[.slice sa sl sc,.slice ya yl yc]:=by simp[ag,hx,hy,F]
 simp only[execOp,resolve,hm,Qd,Qi,invoke,builtin];show Qq P (Builtin.append_ #[t,t2] ty #[.slice sa sl sc,.slice ya yl yc]) _ U;unfold Builtin.append_;simp only[getElem?_toArray,getElem?_cons_zero,getElem?_cons_succ,Qd,Ze hu,Ze al,Jd hi,ak,Qi,Bool.false_eq_true,if_false,Builtin.lenOf,We hi,false_or,Bool.not_false,if_true];have aq:sl<=cs.length:=by rw[H];exact Nat.le_mul_of_pos_right _ hn
 have au:yl<=new.length:=by rw[hl];exact Nat.le_mul_of_pos_right _ hn
 have Q:(cs++new).length=(sl+yl)*n:=by rw[length_append,H,hl,Nat.add_mul]
 split
 .rename_i hle;rw[Qd];refine XR T hl ?_;rcases ha with⟨rfl,rfl,W⟩|⟨b,c,len,cap,rfl,h1,h2,h3,W,h4⟩
  .cases F;have:yl=0:=O1
   subst this;have aa:new=[]:=by simpa using hl
   exact absurd aa ai
  .cases F;simp only[Qd];refine Ww _ _ _ ?_;rw[Qo]
   have I:0+sl*n+0+new.length<=c.size:=by
    have:(sl+yl)*n<=sc*n:=Nat.mul_le_mul_right n hle;rw[Nat.add_mul]at this;rw[h3,hl];omega
   refine H7 _ _ c U W V I ?_;refine⟨_,.refl _,h _ _ [] (.inr ⟨b,_,sl+yl,sc,rfl,Q,hle,by rw[VK];exact h3,rfl,λ i x hi=>?_⟩) λ N B G=>?_⟩
   .rw[Po _ _ _ _ _ I];simp only[getElem?_append]at hi;split at hi
    .rename_i ah;rw[if_neg O1];exact h4 i x hi
    .rename_i hge;have ah:=(Zz4 hi);rw[if_pos O1];rw[show i-(0+sl*n+0)=i-cs.length by omega];exact hi
   .rcases G with⟨L,_,_⟩|⟨b',c',ab,cap',L,g1,g2,g3,g4,g5⟩
    .cases L
    .cases L;refine⟨_,.refl _,.inr ⟨b,c',sl,sc,rfl,H,O1,g3,g4,λ i x hi=>?_⟩⟩;refine g5 i x ?_;rw[getElem?_append_left (Zz4 hi)];exact hi
 .rename_i hgt;have ae:¬(((sl+yl:Nat):Int) > IntKind.i64.max/\E.bytes=0):=λ h=>X.1 h.2
  have af:¬(Builtin.nextslicecap (sl+yl) sc*E.bytes > 2^48):=by
   have:=QF (need:=sl+yl) (old:=sc) O1;have h2:Builtin.nextslicecap (sl+yl) sc*E.bytes<=(2*(sl+yl)+192)*1024:=Nat.mul_le_mul this X.2;have ac:(2:Nat)^48=281474976710656:=D1
   rw[ac];omega
  simp only[We hi,Qd];rw[if_neg ae];simp only[We hi,Qd];rw[if_neg af];simp only[choose,Qd];show ∀tt,Qq P _ _ U;intro tt;show Qq P (typeInfo e) _ U;rw[We hi];refine PV ?_;refine XR aj H ?_;refine XR T hl ?_;simp only[X8 hi hz];refine Jh λ b' ap=>?_;have Y:sl+yl<=Question.cut (.appendCap (sl+yl) sc e) tt:=by simp only[Question.cut];omega
  obtain⟨Z,hZ,ad⟩:∃Z,U.M=Z++M₀/\∀B,Acc e n (.slice sa sl sc) cs (Z++B) B:=by
   rcases ha with⟨L,e2,W⟩|⟨b,c,len,cap,L,g1,g2,g3,W,g5⟩
   .exact⟨[],W,λ B=>.inl ⟨by rw[<- F];exact L,e2,rfl⟩⟩
   .exact⟨[_],W,λ B=>.inr ⟨b,c,len,cap,by rw[<- F];exact L,g1,g2,g3,rfl,g5⟩⟩
  refine⟨_,.refl _,h _ _ Z (.inr ⟨b',_,sl+yl,Question.cut (.appendCap (sl+yl) sc e) tt,rfl,Q,Y,?_,by rw[<- hZ],λ i x hi=>?_⟩) λ N B G=>?_⟩
  .simp only[Array.size_append,size_toArray,H,hl,Builtin.zeroCells,Array.size_map,Array.size_range,am];rw[<- Nat.add_mul,<- Nat.add_mul];congr 1;omega
  .have:(cs.toArray++new.toArray)=(cs++new).toArray:=S1
   rw[this,Array.getElem?_append_left (by simpa using(Zz4 hi))];simpa using hi
  .refine⟨Z++B,?_,by rw[F];exact ad B⟩;rcases G with⟨L,_,_⟩|⟨ao,c',ab,cap',L,g1,g2,g3,g4,g5⟩
   .cases L
   .rw[g4];exact sublist_cons_self _ _
def Dv(k:X7 P i ty n)
  (hx:Zf f x=v) (hy:Zf f y=.slice ya yl yc) (ha:Acc ty n v cs U.M M₀) (G:Src U ya new) (hl:new.length=yl*n) (b:∀w∈new,w.single=true) (F:cs.length+new.length<=1048576) (H:new≠[])
  (h:∀I M' Z,Acc ty n I (cs++new) M' (Z++M₀)->(∀E B,Acc ty n I (cs++new) E (Z++B)->∃L:List Qw,L.Sublist E/\Acc ty n v cs L B)->K I { U with M:=M' }) :
  OX S (.rw (.call { callee:=.builtin .append,args:=#[x,y],argTypes:=#[i,i] }) len) f K U:=by
 obtain⟨W,z,h1,h2,Q,T,h5,V⟩:=k.i;exact Nt k.u k.u h1 h2 Q T ⟨h5,V⟩ hx hy ha G hl k.n b F H h
def XB(S:Sys P T)(f:FuncId)(args:Array Value)(Q:Qa T->Prop)(U:Qa T):Prop:=
 ∀(Stop:QI T)(m:Bool)(c:Frame)(cs:List Frame),c.mode=.returning->(∀U',Q U'->J S Stop m (Rf c cs) U')->J S Stop m (Rf (Frame.enter P f args .deferred) (c::cs)) U
def XB.mono{b:Qa T->Prop}(h:XB S fn args j U)(B:∀U',j U'->b U'):XB S fn args b U:=
 λ Stop m c cs w k=>h Stop m c cs w λ U' q=>k U' (B U' q)
def UC(S:Sys P T)(rl:List RV)(Q:Value->Qa T->Prop)(f:Fm)(l:List Deferred):Qa T->Prop:=
 List.rec (motive:=λ _=>Qa T->Prop) (λ U=>HD f Q rl [] U) (λ d r _ U=>match d.target with
  |.fn (.func g) b=>r=[]/\(P.funcs[g]?.any λ fd=>fd.body.isSome&&fd.name != "runtime.NumGoroutine")=true/\XB S g (d.args++b) (λ U'=>HD f Q rl [] U') U
  |_=>False) l
def qR(b:(P.funcs[g]?.any λ fd=>fd.body.isSome&&fd.name != "runtime.NumGoroutine")=true)(args:Array Value)(w:World)(es:Array Event):(callFunc g args).runT P w es=(.ok (.enter g args) w,es):=by
 cases hf:P.funcs[g]? with
 |none=>rw[hf]at b;cases b
 |some fd=>
  rw[hf]at b;simp only[Option.any_some,Bool.and_eq_true,bne_iff_ne,ne_eq]at b;obtain⟨h1,h2⟩:=b;have f:(fd.name== "runtime.NumGoroutine")=false:=by simpa using h2
  have B:fd.body.isNone=false:=by cases h:fd.body <;> simp_all
  have h5:callFunc g args=(.program λ P=>match P.funcs[g]? with
   |none=>stuck "call: no such function"
   |some fn=>if fn.name== "runtime.NumGoroutine" then pure .numGoroutine else if fn.body.isNone then(do
     mark (.extern g)
     if let some e:=Extern.findNext fn then return <- e args
     match Extern.find fn with
     |some e=>pure (.value (<- e args))
     |none=>if fn.name.endsWith ".init"&&!fn.name.startsWith "("&&!fn.name.startsWith "gosem." then pure (.value (.tuple #[]))else unsupported (.extern fn.name))else pure (.enter g args)):=rfl
  rw[h5];simp only[Sem.runT,hf,f,B,Bool.false_eq_true,if_false];rfl
def J.defer{c:Frame}
  (E:(P.funcs[g]?.any λ fd=>fd.body.isSome&&fd.name != "runtime.NumGoroutine")=true) (h:XB S g (args++first) j U)
  (k:∀U',j U'->J S Stop m (Rf { fr I ⟨tmps,ds⟩ todo with mode:=.returning } (c::M)) U'):J S Stop m (Rf { fr I ⟨tmps,{ target:=.fn (.func g) first,args:=args }::ds⟩ todo with mode:=.returning } (c::M)) U:=by
 refine .still rfl (λ w=>?_) (h Stop m { fr I ⟨tmps,ds⟩ todo with mode:=.returning } (c::M) rfl k);have h1:=qR (P:=P) E (args++first) w #[];have F:Sem.run P (invoke (.fn (.func g) first) args) w=.ok (.enter g (args++first)) w:=by rw[<- Sem.runT_fst P _ w #[]];exact congrArg Prod.fst h1
 have B:Sem.events P (invoke (.fn (.func g) first) args) w #[]=#[]:=congrArg Prod.snd h1;simp[Rf,stepG,unwind,fr,callDeferred,F,B,GStep.after,SD]
def Qb.ofD{rl:List RV}(k:Zj P g N cc rl)(hm:P.follows .mixedOrders=true){args:List Value}(hn:args.length<=N){Q:Value->Qa T->Prop}
  (h:ZT S g none as (λ f ds U=>UC S rl Q f ds U) (λ _ _ _ _=>False) (λ f ds U=>UC S rl Q f ds U) (fm args) [] U) (L:cc=as:=by first|(conv=>lhs;cbv)|rfl):Qb S g args.toArray Q U:=by
 subst L;obtain⟨fd,mu,dets,hf,hb,hc,rfl,hr,-⟩:=k.ok;intro Stop m w cs hq
 let b:Frame:={ (default:Frame)with fn:=g,kind:=.normal }
 have F:Rf (Frame.enter P g args.toArray .normal) (w::cs)=R b { tmps:=args.toArray++Array.replicate (fd.ntmps-args.toArray.size) undef,defers:=[] } [.code (fd.body.getD .skip)] (w::cs):=by
  simp only[Rf,R,Frame.enter,fr,hf,b,Option.bind_some];rw[hb];rfl
 rw[F]
 have X:FR fd.ntmps { tmps:=args.toArray++Array.replicate (fd.ntmps-args.toArray.size) undef,defers:=[] } (fm args) []:=by
  refine⟨rfl,S3,λ t=>?_⟩;simp only[fm,Array.getD_eq_getD_getElem?,getD_eq_getElem?_getD,Array.getElem?_append,size_toArray,getElem?_toArray];split
  .rfl
  .rename_i hlt;rw[getElem?_eq_none O1,Array.getElem?_replicate];split <;> rfl
 subst hc
 have fin:∀(a':Act)(G:Fm)(B:List Deferred)(U':Qa T),FR fd.ntmps a' G B->UC S rl Q G B U'->∀todo,J S Stop m (Rf { fr b a' todo with mode:=.returning } (w::cs)) U':=by
  intro a' G B U' E hp todo
  have ret:∀H,HD G Q rl [] H->J S Stop m (Rf { fr b ⟨a'.tmps,[]⟩ todo with mode:=.returning } (w::cs)) H:=λ H hx=>
   X4.step hf (.inl rfl) hq [] todo H (VJ hr [] H hx a'.tmps E.get)
  obtain⟨tm,Z⟩:=a';have W:Z=B:=E.ds;subst W;cases Z with
  |nil=>exact ret U' hp
  |cons d r=>
   obtain⟨tg,M⟩:=d;cases tg with
   |fn V Y=>
    cases V with
    |func h'=>
     obtain⟨rfl,K,hd⟩:=hp;exact J.defer K hd ret
    |_=>exact hp.elim
   |_=>exact hp.elim
 refine J.body (fn:=g) ⟨rfl,rfl,by simp[b],S1⟩ (Ga hm _ X h) λ e a' U' q=>?_;obtain⟨G,B,E,hp⟩:=q;cases e with
 |normal=>exact⟨.inl rfl,fin a' G B U' E hp⟩
 |ret=>exact⟨.inr rfl,fin a' G B U' E hp⟩
 |exit id=>exact hp.elim
def Qb.makeM{f:FuncId}{args:Array Value}{Q:Value->Qa Tk->Prop}{U:Qa Tk}{b:Nat}{x:QW}{M₁ M₂:List Qw}(ht:U.tok=⟨0,.par b [] false .run,none⟩)(B:U.M=.obj x.m (.cells #[Zb 0,Qp 0] x.t (0,0))::(M₁++M₂))(w:x.sp false false M₁)
  (h:Qb (Za P t N) f args Q { U with M:=M₂,tok:=⟨0,.par b [] false .run,some (.par x λ _=>false)⟩ }):Qb (Za P t N) f args Q U:=
 λ Stop m c cs k=>.syn (QC.makeM ht B w (h Stop m c cs k))
