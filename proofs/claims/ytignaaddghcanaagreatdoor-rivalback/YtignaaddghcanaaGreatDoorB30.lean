/- Lemmas. No conditions. -/
import Derived.Test.YtignaaddghcanaaGreatDoorB10
set_option linter.all false
open List
namespace Go.TM
variable{P:Program}{T:Type}{S:Sys P T}{fn:FuncId}{ro:Option Nat}{ops:Array Oper}{rl:List Nat}{Q:Ex->Act->Qa T->Prop}{a:Act}{U:Qa T}{t:TypeId}{N:Nat}{M':List Qw}
def kY(h:(∃w,U.ok w)->QT S fn ro ops rl Q a U):QT S fn ro ops rl Q a U:=by
 intro Stop m b k cs z B;by_cases f:∃w,U.ok w
 .exact h f Stop m b k cs z B
 .exact .priv ⟨rfl,λ w ok=>absurd ⟨w,ok⟩ f⟩
def Qb.make{f:FuncId}{args:Array Value}{Q:Value->Qa Tk->Prop}{U:Qa Tk}{b:Nat}{M₁ M₂:List Qw}(z:U.tok=⟨0,.out,none⟩)(w:U.M=M₁++.obj b (.cells #[Q0 0 0,Qp 0] t (0,0))::M₂)
  (h:Qb (Za P t N) f args Q { U with M:=M₁++M₂,tok:=⟨0,.par b [] false .run,none⟩ }):Qb (Za P t N) f args Q U:=
 λ Stop m c cs k=>.syn (QB.make z w (h Stop m c cs k))
def W3(h:Perm U.M M'):Qv U { U with M:=M' }:=by
 refine⟨rfl,λ w ok=>⟨⟨ok.imm,λ r f=>ok.held r (h.mem_iff.2 f),(h.pairwise_iff (λ{x y}h=>Qw.apart_symm h)).1 ok.apart,λ r f=>ok.sep r (h.mem_iff.2 f)⟩,λ l b=>?_,λ l b=>?_⟩⟩
 .rw[Q4]at b ⊢;obtain⟨r,f,b⟩:=b;exact⟨r,h.mem_iff.2 f,b⟩
 .rw[Qx]at b ⊢;exact b.imp (λ⟨r,f,b⟩=>⟨r,h.mem_iff.2 f,b⟩) id
def Qa.base(U:Qa Tk):Qa Tk:=⟨U.I,[],⟨0,.out,none⟩⟩
def Qa.sub(U U':Qa Tk):Prop:=∀b o,U.I b=some o->U'.I b=some o
variable{f:Fm}{K:Value->Qa T->Prop}{n ty yl yc len b i:Nat}{d:TypeDesc}{w:TypeInfo}{x y:Operand}{vs:List Value}{e:TypeId}{c:Array Value}{v:Value}{M₀:List Qw}{j:Qa T->Prop}
section
attribute [local simp] Nat.mul_one
def Sy{m e:Nat}{d:TypeDesc}(B:P.underlying e=some d)(E:WR d=true){xs ys:Array Value}{Q:Option Bool×PUnit->Qa T->Prop}:∀(n j:Nat)(vs ws:List Value),vs.length=n->ws.length=n->(∀v∈vs,X2 d v=true)->(∀v∈ws,X2 d v=true) ->
  (∀i v,vs[i]?=some v->xs[j+i]?=some v)->(∀i v,ws[i]?=some v->ys[j+i]?=some v)->Q (if ZE vs ws then none else some false,()) U ->
  Qq P (forIn (List.range' j n 1) ((none,()):Option Bool×PUnit) λ i _=>do
    let a <- part e xs (i*1)
    let b <- part e ys (i*1)
    let c <- Op.equalIn (m+1) e a b
    if(!c)=true then pure (ForInStep.done (some false,()))else pure (ForInStep.yield (none,()))) Q U
 |0,j,vs,ws,G,H,_,_,_,_,h=>by
  obtain rfl:=length_eq_zero_iff.1 G;obtain rfl:=length_eq_zero_iff.1 H;exact h
 |n+1,j,v::vs,w::ws,G,H,f,z,N,S,h=>by
  rw[range'_succ,PZ];simp only[Qd,Nat.mul_one];have I:xs[j]?=some v:=by simpa using N 0 v rfl
  have K:ys[j]?=some w:=by simpa using S 0 w rfl
  rw[Gc B E I,Gc B E K,Iq B E (f v (mem_cons_self ..)) (z w (mem_cons_self ..))];cases L:HM v w with
  |false=>simpa[L,ZE,Qk]using h
  |true=>
   simp only[Bool.not_true,Bool.false_eq_true,if_false,Qk]
   have:=Sy B E (m:=m) (xs:=xs) (ys:=ys) (Q:=Q) n (j+1) vs ws (by simpa using G) (by simpa using H) (λ v h=>f v (mem_cons_of_mem _ h)) (λ v h=>z v (mem_cons_of_mem _ h))
    (λ i v F=>by have:=N (i+1) v F;rwa [show j+(i+1)=j+1+i by omega]at this)
    (λ i v F=>by have:=S (i+1) v F;rwa [show j+(i+1)=j+1+i by omega]at this) (by simpa[L,ZE]using h)
   simpa only[Nat.mul_one,Qd]using this
def vD(Q:P.underlying n=some (.array len yc))(I:P.underlying yc=some d)(N:WR d=true)(b:P.info? yc=some w)(E:w.size=1)(L:P.eqGuardType P.depth n=false)
   {ws:List Value} (W:Zg f x=.agg vs.toArray) (X:Zg f y=.agg ws.toArray) (z:vs.length=len) (B:ws.length=len) (T:∀v∈vs,X2 d v=true) (V:∀v∈ws,X2 d v=true) (h:K (.bool (ZE vs ws)) U) :
  OX S (.rw (.binOp .eql n x y ty) yl) f K U:=by
 intro a' H;simp only[execOp,H,W,X];refine rq ?_;rw[Qd];refine Ov L ?_;simp only[binOp,Qd];have G:Op.equal n (.agg vs.toArray) (.agg ws.toArray)=Op.equalIn (9998+1+1) n (.agg vs.toArray) (.agg ws.toArray):=rfl;rw[G,Op.equalIn];simp only[Qd,Ze Q,Je b,E,Std.Legacy.Range.forIn_eq_forIn_range'];refine Sy I N _ 0 vs ws (by simpa[Std.Legacy.Range.size]using z) (by simpa[Std.Legacy.Range.size]using B) T V (λ i v b=>by simpa using b) (λ i v b=>by simpa using b) ?_;cases F:ZE vs ws <;> simpa[F,Qk]using⟨U,.refl _,by simpa[F]using h⟩
def KU{b off:Nat}{e:TypeId}{M₀:List Qw}{Q:Qa T->Prop}(X:List Qw):∀(vs:List Value)(i:Nat)(c:Array Value)(U:Qa T),U.M=X++.obj b (.cells c e (0,0))::M₀->(∀v∈vs,v.single=true)->off+i+vs.length<=c.size ->
  Q { U with M:=X++.obj b (.cells (JS c off vs i) e (0,0))::M₀ }->QZ ⟨b,off,none⟩ vs i Q U
 |[],i,c,U,f,_,_,h=>by
  have:U={ U with M:=X++.obj b (.cells c e (0,0))::M₀ }:=by rw[<- f]
  show Q U;rw[this];exact h
 |v::vs,i,c,U,f,w,B,h=>by
  simp only[length_cons]at B;refine⟨w v (mem_cons_self ..),X++.obj b (.cells (c.setIfInBounds (off+i) v) e (0,0))::M₀,?_,?_⟩
  .rw[f,Qo];have z:XD ⟨b,off+i,none⟩ v (.obj b (.cells c e (0,0))::M₀) (.obj b (.cells (c.setIfInBounds (off+i) v) e (0,0))::M₀):=.obj (a:=⟨b,off+i,none⟩) rfl (by show off+i<c.size;omega);clear f h
   induction X with
   |nil=>exact z
   |cons r X F=>exact .there F
  .exact KU X vs (i+1) _ _ rfl (λ v E=>w v (mem_cons_of_mem _ E)) S3 h
def GP(X:List Qw)(w:U.M=X++.obj b (.cells c e (0,0))::M₀)(B:i<c.size)(z:v.single=true)
  (h:j { U with M:=X++.obj b (.cells (c.setIfInBounds i v) e (0,0))::M₀ }):QZ ((Addr.mk b 0 none).add i) [v] 0 (λ U'=>∃f,Qv U' f/\j f) U:=by
 rw[Qo];refine KU X [v] 0 c U w (by simpa using z) S3 ?_;simp only[JS,Nat.zero_add,Nat.add_zero];exact⟨_,.refl _,h⟩
def Y8(X:List Qw)(z:U.M=X++.obj b (.cells c e (0,0))::M₀)(f:c.size=vs.length)(B:∀v∈vs,v.single=true)
  (h:j { U with M:=X++.obj b (.cells vs.toArray e (0,0))::M₀ }):QZ ⟨b,0,none⟩ vs 0 (λ U'=>∃w,Qv U' w/\j w) U:=by
 refine KU X vs 0 c U z B O1 ?_;rw[VQ f];exact⟨_,.refl _,h⟩
def Q9(X:List Qw)(f:U.M=X++.obj b (.cells vs.toArray e (0,0))::M₀):Jj U ⟨b,0,none⟩ vs:=by
 intro i v h;rw[Qo];refine⟨rfl,.inl ⟨_,_,_,.inr (by rw[f];simp;exact .inr (.inl ⟨rfl,rfl,rfl⟩)),?_⟩⟩;simpa using h
abbrev setA(s:Nat->Bool):Value:=.agg #[.bool (s 0),.bool (s 1),.bool (s 2),.bool (s 3),.bool (s 4),.bool (s 5),.bool (s 6),.bool (s 7)]
def XY(s:Nat->Bool)(j:Nat)(v:Bool):Nat->Bool:=λ k=>if k=j then v else s k
end
variable{U' Ub:Qa T}{args tmps:Array Value}{cs new:List Value}{ya:Option Addr}{G:List Int}{κ:Type}{enc:κ->Value}{l:List (κ×Value)}{seen:Array Nat}{p:κ×Value}{q X:TypeId}{z:Value}{s u:Operand}{qs ts pre L rest mu:List Nat}{a_0 ac av:Act}{A:Act->Qa T->Prop}{listed:Array Bool}{val:Nat->Value}{o:Oper}{W:O}{D:Code}{r:Zl T}{ds:List Deferred}{t2:Nat}{F:TypeInfo}{g:FuncId}{H I:Frame}{todo:List Item}{M:List Frame}{Stop:QH T}{m:Bool}{cc:C}
def Qa.frz(U:Qa T):Qa T:=⟨U.I,[],U.tok⟩
def Qa.lg.frz(h:U.lg U'):U.frz.lg U':=⟨h.imm,⟨U'.M,by simp[Qa.frz]⟩,h.tok⟩
def Qr:U.frz.lg U:=(⟨λ _ _ h=>h,⟨[],rfl⟩,rfl⟩:U.lg U).frz
def SI(h:U.frz.lg U')(k:U'.le Ub):U.frz.lg Ub:=h.trans k.lg
def Qa.lg.frz2(h:U.lg U'):U.frz.lg U'.frz:=⟨h.imm,⟨[],rfl⟩,h.tok⟩
def Qb.grown{R:Value->Qa T->Prop}(E:∀v w z,w.lg z->R v w->R v z)(h:Qb S fn args (λ v U'=>R v U'.frz/\U.lg U') U):Qb S fn args (λ v U'=>R v U'.frz/\U.le U') U:=
 h.post λ v U'⟨F,B⟩=>let ⟨U'',h1,h2,h3⟩:=B.shift;⟨U'',h1,E v _ _ (⟨λ b o h=>by show U''.I b=_;rw[h3];exact h,⟨[],rfl⟩,h2.tok.trans B.tok.symm⟩:U'.frz.lg U''.frz) F,h2⟩
def Jw(U:Qa T)(v:Value)(l:List Int):Prop:=∃a cap,v=.slice a l.length cap/\Z3 U a l.length l
def Jw.lg{v:Value}{l:List Int}(h:Jw U v l)(b:U.lg U'):Jw U' v l:=let ⟨a,c,e,h⟩:=h;⟨a,c,e,h.lg b⟩
def Acc.freeze(H:JP U')(h:Acc ty n v cs U'.M U.M)(z:∀x E,U.I x=some E->U'.I x=some E)(B:U'.tok=U.tok) :
  ∃U'',Qv U' U''/\U.le U''/\∃a len cap,v=.slice a len cap/\cs.length=len*n/\Src U''.frz a cs/\(∀f,a=some f->f.spot=none)/\(∀f,a=some f->f.off=0):=by
 rcases h with⟨rfl,rfl,w⟩|⟨b,c,len,cap,rfl,F,L,N,w,G⟩
 .exact⟨U',.refl _,⟨z,w,B⟩,none,0,0,rfl,S1,.inl ⟨rfl,rfl⟩,S1,S1⟩
 .obtain⟨U'',k1,k2,k3⟩:=Ig H w z rfl B;refine⟨U'',k1,k2,some ⟨b,0,none⟩,len,cap,rfl,F,.inr ⟨_,rfl,?_⟩,by rintro _⟨⟩;rfl,by rintro _⟨⟩;rfl⟩;intro i x K;rw[Qo];exact⟨rfl,.inl ⟨c,ty,(0,0),.inl k3,by simpa using G i x K⟩⟩
def Kf(h:Src U ya (G.map λ n=>.int .i64 n))(f:∀b,ya=some b->b.spot=none):Z3 U ya G.length G:=by
 refine⟨rfl,λ i x z=>?_⟩;rcases h with⟨_,w⟩|⟨b,rfl,B⟩
 .rw[map_eq_nil_iff]at w;subst w;simp at z
 .exact⟨b,rfl,f b rfl,by rw[Nat.mul_one];exact B i _ (by simp[z])⟩
def Qb.ints{e:Nat}{l:List Int}(h:Qb S fn args (λ v U'=>Acc e 1 v (l.map λ n=>.int .i64 n) U'.M U.M/\(∀x B,U.I x=some B->U'.I x=some B)/\U'.tok=U.tok) U) :
  Qb S fn args (λ v U'=>Jw U'.frz v l/\U.le U') U:=by
 refine h.sep λ v U' G⟨F,E,H⟩=>?_;obtain⟨U'',K,L,a,len,cap,rfl,z,b,w,_⟩:=F.freeze G E H;refine⟨U'',K,⟨a,cap,?_,Kf b w⟩,L⟩;simp at z;rw[z]
def LQ(P:Program)(t len:Nat):Bool:=
 match P.underlying t with
 |some (.array b e)=>decide (b=len)&&(match P.underlying e with|some .bool=>true|_=>false)&&(match P.info? e with|some f=>decide (f.size=1)|none=>false)&&!P.eqGuardType P.depth t
 |_=>false
structure SW(P:Program)(t len:Nat):Prop where
 h:∃e inf,P.underlying t=some (.array len e)/\P.underlying e=some .bool/\P.info? e=some inf/\inf.size=1/\P.eqGuardType P.depth t=false
def SW.of(h:LQ P N len=true):SW P N len:=by
 unfold LQ at h;split at h
 .rename_i len' e hu;simp only[Bool.and_eq_true,decide_eq_true_eq,Bool.not_eq_true']at h;obtain⟨⟨⟨rfl,f⟩,b⟩,w⟩:=h;split at f
  .rename_i hb;split at b
   .rename_i inf hi;exact⟨e,inf,hu,hb,hi,by simpa using b,w⟩
   .cases b
  .cases f
 .cases h
structure Zov(U:Qa T)(I:Nat->Qa T->Prop):Prop where
 le:∀k U1 U2,U1.le U2->I k U1->I k U2
 lg:∀k U1,I k U1->U.frz.lg U1
def Qa.on(U:Qa T)(A D:Qw):Qa T:={ U with M:=A::D::U.M }
def Zj.imI(h:Zj U b c)(f:∀x o,U.I x=some o->U'.I x=some o):Zj U' b c:=let ⟨t,fr,h⟩:=h;⟨t,fr,f _ _ h⟩
def HQ{κ:Type}(enc:κ->Value):∀(l:List (κ×Value))(j i:Nat)(p:κ×Value),l[i]?=some p->(Qs enc l j)[i]?=some ⟨enc p.1,p.2,j+i⟩
 |[],_,_,_,h=>by simp at h
 |q::l,j,0,p,h=>by
  simp at h;subst h;simp[Qs]
 |q::l,j,i+1,p,h=>by
  simp only[Qs,getElem?_cons_succ];rw[HQ enc l (j+1) i p (by simpa using h)];congr 2;omega
def Yz{κ:Type}(enc:κ->Value):∀(l:List (κ×Value))(j:Nat)(e:MapEntry),e∈Qs enc l j->∃i p,l[i]?=some p/\e=⟨enc p.1,p.2,j+i⟩
 |[],_,e,h=>by cases h
 |q::l,j,e,h=>by
  simp only[Qs,mem_cons]at h;rcases h with rfl|h
  .exact⟨0,q,rfl,rfl⟩
  .obtain⟨i,p,h1,rfl⟩:=Yz enc l (j+1) e h;exact⟨i+1,p,by simpa using h1,by congr 1;omega⟩
def Jx(b n:Nat)(seen:Array Nat):Obj:=.mapIter (some b) n seen n
def Oo(E:P.underlying N=some (.map n ty))(F:Zg f x=.map (some b))(z:U.has b (Qt enc l))
  (h:∀r,U.free r->K (.pb r) (U.put r (Jx b l.length #[]))) :
  OX S (.rw (.range N x) i) f K U:=by
 intro a' w;simp only[execOp,w,F];refine rq ?_;simp only[Instr.range,Qd,Ze E,getObj];refine⟨_,z,rfl,rfl,?_⟩;simp only[Qq,Qt,Qk,Qd,newObj];exact λ r B=>⟨_,.refl _,h r B⟩
def S7{r:Nat}(M':Obj->List Qw)(hx:Zg f x=.pb r)(hm:U.has b (Qt enc l))
  (hu:∀o,J1 r o (Jx b l.length seen) U.M (M' o))
  (h0:(∀i,i<l.length->i∈seen)->K (.tuple #[.bool false]) U)
  (h1:∀(i:Nat)p,l[i]?=some p->i∉seen->K (.tuple #[.bool true,enc p.1,p.2]) { U with M:=M' (Jx b l.length (seen.push i)) }) :
  OX S (.rw (.next x false) ty) f K U:=by
 intro a' ha;simp only[execOp,ha,hx];refine rq ?_;unfold Instr.next;simp only[Qd,getObj];refine⟨_,.inr (hu (Jx b l.length seen)).mem,rfl,rfl,?_⟩;simp only[Qq,Jx,Qk,Qd];refine⟨_,hm,rfl,rfl,?_⟩
 have h:∀e∈(Qs enc l 0).toArray,e.born<l.length:=λ e B=>by
  obtain⟨i,p,G,rfl⟩:=Yz enc l 0 e (by simpa using B);have:=(List.getElem?_eq_some_iff.1 G).1;show 0+i<_;omega
 simp only[Qq,Qt,Qk,Qd];generalize F:(Qs enc l 0).toArray=es at h
 have hc:(!seen.isEmpty&&!es.isEmpty&&es.all λ x=>decide (x.born ≥ l.length))=false:=by
  cases B:es.isEmpty with
  |true=>simp
  |false=>
   have:es.all (λ x=>decide (x.born ≥ l.length))=false:=by
    rw[Array.all_eq_false'];rw[Array.isEmpty_eq_false_iff]at B;obtain⟨e,H⟩:=Array.exists_mem_of_ne_empty _ B;exact⟨e,H,by have:=h e H;simp;omega⟩
   rw[this];simp
 rw[hc];simp only[Bool.false_eq_true,if_false];generalize w:es.filter (λ e=>!seen.contains e.born)=left
 have Q:left.filter (λ x=>decide (x.born<l.length))=left:=Array.filter_eq_self.2 λ e B=>by
  rw[<- w]at B;have:=h e (Array.mem_filter.1 B).1;simpa using this
 have N:left.filter (λ x=>decide (x.born ≥ l.length))=#[]:=Array.filter_eq_empty_iff.2 λ e B=>by
  rw[<- w]at B;have:=h e (Array.mem_filter.1 B).1;simp;omega
 simp only[Q,N,Array.append_empty];cases E:left.isEmpty with
 |true=>
  have T:left=#[]:=by simpa using E
  subst T;simp only[if_true,Array.map_empty,Array.append_empty];refine⟨_,.refl _,h0 λ i G=>?_⟩;have V:l[i]?=some l[i]:=getElem?_eq_getElem G;have I:=mem_of_getElem? (HQ enc l 0 i _ V);have W:(⟨enc l[i].1,l[i].2,0+i⟩:MapEntry)∈es:=by rw[<- F];simpa using I
  have:=Array.filter_eq_empty_iff.1 w _ W;simpa using this
 |false=>
  have L:0<left.size:=by
   rw[Array.isEmpty_eq_false_iff]at E;exact Array.size_pos_iff.2 E
  have key:∀j,j<left.size->Qq P (match(#[]++left.map some)[j]? with
    |some (some e)=>do
     setObj r (.mapIter (some b) l.length (seen.push e.born) l.length)
     pure (.tuple #[.bool true,e.key,e.val])
    |some none=>pure (.tuple #[.bool false])
    |none=>stuck "Next: no such candidate") (λ v U'=>∃Z,Qv U' Z/\K v Z) U:=by
   intro j hj;have h2:(#[]++left.map some)[j]?=some (some left[j]):=by simp[hj]
   rw[h2];have z:left[j]∈left:=Array.getElem_mem hj;generalize left[j]=e at z;rw[<- w,Array.mem_filter]at z;obtain⟨z,X⟩:=z;rw[<- F]at z;obtain⟨i,p,G,rfl⟩:=Yz enc l 0 e (by simpa using z);simp only[Qd,setObj,Qq,Qk];have h3:=h1 i p G (by simpa using X);rw[<- Nat.zero_add i]at h3;exact⟨_,_,hu _,rfl,rfl,rfl,_,.refl _,h3⟩
  simp only[Bool.false_eq_true,if_false];rw[Qd];show(if(Question.mapNext (#[]++Array.map some left).size).forced then _ else _);have Y:(#[]++Array.map some left).size=left.size:=S1
  split
  .exact key 0 L
  .intro t;refine key _ ?_;show t % (#[]++Array.map some left).size<left.size;rw[Y];exact Nat.mod_lt _ L
def On{r:Nat}(T:Zg f x=.pb r)(L:U.has b (Qt enc l))(Q:U.has r (Jx b l.length (seen.push i)))
  (N:l[i]?=some p) (h:K (.tuple #[enc p.1,p.2]) U) :
  OX S (.rw (.entry x) n) f K U:=by
 intro a' H;simp only[execOp,H,T];refine rq ?_;unfold Instr.entry;simp only[Qd,getObj];refine⟨_,Q,rfl,rfl,?_⟩;simp only[Qq,Jx,Qk,Qd,Array.back?_push];refine⟨_,L,rfl,rfl,?_⟩;simp only[Qq,Qt,Qk,Qd,bne_self_eq_false,Bool.false_eq_true,if_false]
 have w:(Qs enc l 0).toArray.find? (λ x=>x.born==i)=some ⟨enc p.1,p.2,i⟩:=by
  rw[find?_toArray,find?_eq_some_iff_getElem];have F:=HQ enc l 0 i p N;rw[Nat.zero_add]at F;obtain⟨z,I⟩:=List.getElem?_eq_some_iff.1 F;refine⟨S1,i,z,I,λ j W=>?_⟩;obtain⟨q,P⟩:∃q,l[j]?=some q:=⟨_,getElem?_eq_getElem (by rw[DS]at z;omega)⟩;have E:=HQ enc l 0 j q P;obtain⟨G,B⟩:=List.getElem?_eq_some_iff.1 E;rw[B];simp;omega
 rw[w];exact⟨_,.refl _,h⟩
def X1{κ:Type}[DecidableEq κ](k:κ)(z:Value)(l:List (κ×Value)):List (κ×Value):=if(lk k l).isSome then l else l++[(k,z)]
def XT{κ:Type}[DecidableEq κ](k:κ)(l:List (κ×Value)):Nat:=match QK k l 0 with|some (i,_)=>i|none=>l.length
def EU{κ:Type}[DecidableEq κ]{enc:κ->Value}{k:κ}:∀{l:List (κ×Value)}{i j n:Nat}{x:Value},QK k l i=some (n,x)->i<=n/\(∃e,(Qs enc l j)[n-i]?=some e/\e.key=enc k/\e.born=j+(n-i)) /\
   (Qs enc l j).modify (n-i) (λ e=>{ e with key:=enc k })=Qs enc l j
 |[],_,_,_,_,h=>by cases h
 |p::l,i,j,n,x,h=>by
  simp only[QK]at h;split at h
  .rename_i e;cases h;refine⟨Nat.le_refl _,?_,?_⟩
   .simp[Qs,e]
   .simp[Qs,e]
  .rename_i e;obtain⟨E,⟨y,f,w,z⟩,B⟩:=EU (enc:=enc) (j:=j+1) h;have b:n-i=(n-(i+1))+1:=O1
   refine⟨O1,?_,?_⟩
   .rw[b];exact⟨y,by simpa[Qs]using f,w,by rw[z];omega⟩
   .rw[b];simp only[Qs,modify_succ_cons,B]
def DW{κ:Type}[DecidableEq κ]{enc:κ->Value}{N ty:TypeId}{l:List (κ×Value)}{k:κ}(E:WG T P q enc)(Z:P.underlying t=some (.map q N))(hz:X5 P N=some z)
  (hx:Zg f x=.map (some b)) (hy:Zg f y=enc k) (B:J1 b (Qt enc (X1 k z l)) (Qt enc l) U.M M') (h:K (.tuple #[(lk k l).getD z,.int .i64 (XT k l)]) { U with M:=M' }) :
  OX S (.rw (.mapEntry t x y) ty) f K U:=by
 intro a' W;obtain⟨aa,Y,F⟩:=GU hz;simp only[execOp,W,hx,hy];refine rq ?_;unfold Instr.mapEntry;simp only[Qd,Ze Z,getObj];refine⟨_,.inr B.mem,rfl,rfl,?_⟩;simp only[Qq,Qt,Qk,Qd];refine E.chk _ _ ?_;refine E.find k l ?_;unfold XT lk at h;unfold X1 lk at B;cases e:QK k l 0 with
 |none=>
  simp only[e,Option.map_none,Option.getD_none,Option.isSome_none,Bool.false_eq_true,if_false]at h B;simp only[Qd,Xk Y F,setObj,Qq,Qk];refine⟨Qt enc l,M',?_,rfl,rfl,rfl,⟨_,.refl _,h⟩⟩
  have:Obj.map ((Qs enc l 0).toArray.push { key:=enc k,val:=z,born:=l.length }) (l.length+1)=Qt enc (l++[(k,z)]):=by
   simp only[Qt,length_append,length_cons,length_nil,Yu,Qs,Nat.zero_add];congr 1;apply Array.ext';simp
  rw[this];exact B
 |some p=>
  obtain⟨n,w⟩:=p;simp only[e,Option.map_some,Option.getD_some,Option.isSome_some,if_true]at h B;obtain⟨h1,⟨Q,G,V,H⟩,I⟩:=EU (enc:=enc) (j:=0) e;rw[Nat.sub_zero]at G H I;have X:(Qs enc l 0).toArray[n]?=some Q:=by simpa using G
  simp only[X,Option.map_some,Option.getD_some,V,Qd];unfold Instr.keyThatStays;rw[E.bits k];simp only[if_true,Qk,setObj,Qq,H];refine⟨Qt enc l,M',?_,rfl,rfl,rfl,⟨_,.refl _,?_⟩⟩
  .have:Obj.map ((Qs enc l 0).toArray.modify n λ e=>{ e with key:=enc k }) l.length=Qt enc l:=by
    simp only[Qt];congr 1;apply Array.ext';rw[Array.toList_modify];exact I
   rw[this];exact B
  .rw[Nat.zero_add];exact h
def DT{κ:Type}(enc:κ->Value)(v:Value):∀(l:List (κ×Value))(j n:Nat),(Qs enc l j).modify n (λ e=>{ e with val:=v })=Qs enc (l.modify n λ p=>(p.1,v)) j
 |[],_,_=>by simp[Qs]
 |p::l,j,0=>by simp[Qs]
 |p::l,j,n+1=>by
  simp only[Qs,modify_succ_cons];rw[DT enc v l (j+1) n]
def qr(W:Zg f x=.map (some b)) (T:Zg f s=.int .i64 n) (N:n<l.length) (V:Zg f u=v) (G:J1 b (Qt enc (l.modify n λ p=>(p.1,v))) (Qt enc l) U.M M') (h:K undef { U with M:=M' }) :
  OX S (.rw (.entryStore t x s u) X) f K U:=by
 intro a' H;simp only[execOp,H,W,T,V];refine ru ?_;unfold Instr.entryStore;simp only[Qd,getObj];refine⟨_,.inr G.mem,rfl,rfl,?_⟩;simp only[Qq,Qt,Qk,Qd,asInt,asIntOf]
 have w:(Qs enc l 0).toArray.findIdx? (λ e=>(e.born:Int)==(n:Int))=some n:=by
  rw[findIdx?_toArray,findIdx?_eq_some_iff_getElem];have P:l[n]?=some l[n]:=getElem?_eq_getElem N;have L:=HQ enc l 0 n _ P;obtain⟨E,I⟩:=List.getElem?_eq_some_iff.1 L;refine⟨E,by rw[I];simp,λ j Y=>?_⟩;obtain⟨q,Q⟩:∃q,l[j]?=some q:=⟨_,getElem?_eq_getElem O1⟩;have B:=HQ enc l 0 j q Q;obtain⟨F,z⟩:=List.getElem?_eq_some_iff.1 B;rw[z];simp;omega
 rw[w];simp only[setObj,Qq];refine⟨Qt enc l,M',?_,rfl,rfl,rfl,⟨_,.refl _,h⟩⟩
 have:Obj.map ((Qs enc l 0).toArray.modify n λ e=>{ e with val:=v }) l.length=Qt enc (l.modify n λ p=>(p.1,v)):=by
  simp only[Qt,length_modify];congr 1;apply Array.ext';rw[Array.toList_modify];exact DT enc v l 0 n
 rw[this];exact G
def kC{κ:Type}[DecidableEq κ](k:κ)(z v:Value)(l:List (κ×Value)):(X1 k z l).modify (XT k l) (λ p=>(p.1,v))=Q_ k v l/\XT k l<(X1 k z l).length:=by
 have key:∀(l:List (κ×Value))(i:Nat),(match QK k l i with
   |some (n,_)=>i<=n/\n-i<l.length/\l.modify (n-i) (λ p=>(p.1,v))=Q_ k v l
   |none=>Q_ k v l=l++[(k,v)]):=by
  intro l
  induction l with
  |nil=>intro i;rfl
  |cons p l G=>
   intro i;simp only[QK];by_cases e:k=p.1
   .simp[e,Q_]
   .rw[if_neg e];have:=G (i+1);cases b:QK k l (i+1)with
    |none=>
     rw[b]at this;simp only[Q_,if_neg e]at this ⊢;rw[this];rfl
    |some q=>
     obtain⟨n,w⟩:=q;rw[b]at this;simp only at this ⊢;obtain⟨H,I,E⟩:=this;have F:n-i=(n-(i+1))+1:=O1
     refine⟨O1,S3,?_⟩;rw[F,modify_succ_cons,E];simp only[Q_,if_neg e]
 have h:=key l 0;unfold X1 XT lk;cases b:QK k l 0 with
 |none=>
  rw[b]at h;simp only at h;simp only[Option.map_none,Option.isSome_none,Bool.false_eq_true,if_false,length_append,length_cons,length_nil];refine⟨?_,O1⟩;rw[h];apply ext_getElem?;intro i;rw[getElem?_modify];by_cases B:l.length=i
  .subst B;simp
  .simp only[if_neg B];by_cases f:i<l.length
   .rw[getElem?_append_left f,getElem?_append_left f];simp
   .rw[getElem?_eq_none S3,getElem?_eq_none S3];rfl
 |some q=>
  obtain⟨n,w⟩:=q;rw[b]at h;simp only[Nat.sub_zero]at h;simp only[Option.map_some,Option.isSome_some,if_true];exact⟨h.2.2,h.2.1⟩
inductive WY(S:Sys P T)(ops:Array Oper)(rl:List Nat)(J:Qa T->Prop)(Fin:Act->Qa T->Prop):List Nat->(Qa T->Prop)->Act->Prop
 |nil {C Y}:(∀U',C U'->Fin Y U')->WY S ops rl J Fin [] C Y
 |un {Z β C Y α}:Z∉rl->ops[Z]?=some α->Region.wanted α (yielded ops Y.tmps)=false->WY S ops rl J Fin β C (Y.put α.dst undef)->WY S ops rl J Fin (Z::β) C Y
 |det {Z β C Y α} (v:Value):Z∉rl->ops[Z]?=some α->Region.wanted α (yielded ops Y.tmps)=true ->
   (∀U',J U'->QJ S α Y (λ v' U2=>v'=v/\∃U1,Qv U2 U1/\U'.le U1) U')->WY S ops rl J Fin β C (Y.put α.dst v)->WY S ops rl J Fin (Z::β) C Y
 |rel {Z β C Y α} (F:Value->Qa T->Prop):Z∈rl->(∀v,Xz (F v))->(∀v U',F v U'->J U')->ops[Z]?=some α->Region.wanted α (yielded ops Y.tmps)=true ->
   (∀U',C U'->QJ S α Y (λ v' U2=>∃U1,Qv U2 U1/\F v' U1) U')->(∀v,(∃U',F v U')->WY S ops rl J Fin β (F v) (Y.put α.dst v))->WY S ops rl J Fin (Z::β) C Y
structure Xc(S:Sys P T)(ops:Array Oper)(rl qs:List Nat)(J:Qa T->Prop)(a_0:Act)(Fin:Act->Qa T->Prop)(listed:Array Bool)(ac:Act)(U:Qa T)
  (pre L:List Nat) (C:Qa T->Prop) (av:Act) (val:Nat->Value):Prop where
 split:qs=pre++L
 der:WY S ops rl J Fin L C av
 mono:Xz C
 inJ:∀U',C U'->J U'
 c:C U
 av:Ji ops val (·∈pre) a_0 av
 ac:Ji ops val (Li listed) a_0 ac
 sub:∀i,Li listed i->i∈pre
 size:listed.size=ops.size
 down:∀i,Li listed i->∀j∈Wr ops i,Li listed j
 rels:∀i∈pre,i∈rl->Li listed i
 pend:∀i∈pre,¬Li listed i->∃o ai p,qs[p]?=some i/\ops[i]?=some o/\Ji ops val (·∈qs.take p) a_0 ai /\
  ((Region.wanted o (yielded ops ai.tmps)=false/\val i=undef) \/
   (Region.wanted o (yielded ops ai.tmps)=true/\∀U',J U'->QJ S o ai (λ v' U2=>v'=val i/\∃U1,Qv U2 U1/\U'.le U1) U'))
section
variable{J:Qa T->Prop}{C:Qa T->Prop}
def Xc.note(E:Ju ops [] qs ts)(h:Xc S ops rl qs J a_0 A listed ac U pre (n::rest) C av val)(v:Value) :
  Ji ops (ZR val n v) (·∈pre) a_0 av/\Ji ops (ZR val n v) (Li listed) a_0 ac /\
  (∀i∈pre,¬Li listed i->∃o f p,qs[p]?=some i/\ops[i]?=some o/\Ji ops (ZR val n v) (·∈qs.take p) a_0 f /\
   ((Region.wanted o (yielded ops f.tmps)=false/\ZR val n v i=undef) \/
    (Region.wanted o (yielded ops f.tmps)=true/\∀U',J U'->QJ S o f (λ W P=>W=ZR val n v i/\∃K,Qv P K/\U'.le K) U'))):=by
 have I:=PA E h.split;refine⟨h.av.val λ j w=>Hc (λ e=>I (e▸w)),h.ac.val λ j w=>Hc (λ e=>I (e▸h.sub j w)),λ i F T=>?_⟩;obtain⟨o,f,p,L,V,B,Q⟩:=h.pend i F T;have G:i≠n:=λ e=>I (e▸F);refine⟨o,f,p,L,V,B.val λ j w=>Hc λ e=>?_,by rw[Hc G];exact Q⟩;subst e;obtain⟨p',b⟩:=mem_iff_getElem?.1 w;rw[getElem?_take]at b;split at b
 .rename_i hlt;have X:=Hx E (W7 (ts:=ts) b) (W7 (W5 h.split).2);obtain⟨N,z⟩:=mem_iff_getElem?.1 F;have H:N<pre.length:=(List.getElem?_eq_some_iff.1 z).1;have Y:=Hx E (W7 (ts:=ts) L) (W7 (ts:=ts) (p:=N) (i:=i) (by rw[h.split,getElem?_append_left H];exact z));omega
 .cases b
end
section
variable{J:Qa T->Prop}{C:Qa T->Prop}
def Xc.adv(B:Ju ops [] qs ts)(h:Xc S ops rl qs J a_0 A listed ac U pre (n::rest) C av val)(E:ops[n]?=some o)(w:n∉rl)
  (H:WY S ops rl J A rest C (av.put o.dst v))
  (I:(Region.wanted o (yielded ops av.tmps)=false/\v=undef)\/(Region.wanted o (yielded ops av.tmps)=true/\∀U',J U'->QJ S o av (λ N G=>N=v/\∃z,Qv G z/\U'.le z) U')) :
  Xc S ops rl qs J a_0 A listed ac U (pre++[n]) rest C (av.put o.dst v) (ZR val n v):=by
 obtain⟨F,K,L⟩:=h.note B v;have f:=Ji.put B F E;rw[Hw]at f;refine⟨by rw[h.split];simp,H,h.mono,h.inJ,h.c,?_,K,λ i b=>mem_append_left _ (h.sub i b),h.size,h.down,?_,?_⟩
 .have e:(λ j=>j∈pre\/j=n)=(·∈pre++[n]):=by funext j;simp
  rw[<- e];exact f
 .intro i b hr;rcases mem_append.1 b with b|b
  .exact h.rels i b hr
  .simp at b;subst b;exact absurd hr w
 .intro i b hl;rcases mem_append.1 b with b|b
  .exact L i b hl
  .simp at b;subst b;refine⟨o,av,pre.length,(W5 h.split).2,E,by rw[(W5 h.split).1];exact F,?_⟩;rw[Hw];exact I
end
def Yd(ops:Array Oper)(rl qs:List Nat):Prop:=∀p x,qs[p]?=some x->x∈rl->∀i∈qs.drop (p+1),i∉rl->∃r∈qs.drop p,r∈rl/\ZX ops r i
section
variable{J:Qa T->Prop}{C:Qa T->Prop}
def Xc.reach(Q:Ju ops [] qs ts)(G:Yd ops rl qs)(f:i∈qs)(hr:∀j∈Wr ops i,Li listed j) :
  ∀(L pre:List Nat)(C:Qa T->Prop)(av:Act)(val:Nat->Value),Xc S ops rl qs J a_0 A listed ac U pre L C av val->(i∈rl->(L.filter λ x=>rl.contains x).head?=some i) ->
   ∃z K C' N I,Xc S ops rl qs J a_0 A listed ac U z K C' N I/\(K.filter λ x=>rl.contains x)=(L.filter λ x=>rl.contains x)/\(i∈z\/∃rest,K=i::rest/\i∈rl):=by
 intro L
 induction L with
 |nil=>
  intro pre C av val h _;exact⟨pre,[],C,av,val,h,rfl,.inl (by have:=h.split;simp at this;exact this▸f)⟩
 |cons x rest ih=>
  intro pre C av val h b;by_cases B:x∈rl
  .by_cases e:x=i
   .subst e;exact⟨pre,_,C,av,val,h,rfl,.inr ⟨rest,rfl,B⟩⟩
   .by_cases hpre:i∈pre
    .exact⟨pre,_,C,av,val,h,rfl,.inl hpre⟩
    .exfalso
     have V:i∈rest:=by
      rw[h.split]at f;simp at f;rcases f with f|f|f
      .exact absurd f hpre
      .exact absurd f.symm e
      .exact f
     by_cases w:i∈rl
     .have:=b w;rw[filter_cons,if_pos (by simpa using B)]at this;simp at this;exact e this
     .obtain⟨r,hr1,hr2,hb⟩:=G pre.length x (W5 h.split).2 B i (by rw[h.split];simp[V]) w;have Y:=h.sub r (J9 h.down hb hr);rw[h.split]at hr1;simp at hr1;have H:=(nodup_append.1 Q.nodup).1;rw[h.split]at H;exact(nodup_append.1 H).2.2 r Y r (by simpa using hr1) rfl
  .have hfil:((x::rest).filter λ x=>rl.contains x)=rest.filter λ x=>rl.contains x:=by rw[filter_cons,if_neg (by simpa using B)]
   rw[hfil]at b ⊢;have E:=h.der;cases E with
   |un _ W Z P=>exact ih _ _ _ _ (h.adv Q W B P (.inl ⟨Z,rfl⟩)) b
   |det v _ W Z X P=>exact ih _ _ _ _ (h.adv Q W B P (.inr ⟨Z,X⟩)) b
   |rel F V=>exact absurd V B
end
section
variable{J:Qa T->Prop}{C:Qa T->Prop}
def pM(W:Ju ops [] qs ts)(ay:Yd ops rl qs)(a7:∀i∈ts,i∉rl):∀(r t:Nat)(listed:Array Bool)(ac:Act)(U:Qa T)(pre L:List Nat)(C:Qa T->Prop)(av:Act)(val:Nat->Value),
  Xc S ops rl qs J a_0 (λ a U=>QT S fn ro ops ts Q a U) listed ac U pre L C av val->(qs.filter λ i=>!listed.getD i false).length=r ->
  ((Region.linearise.go .any ops (r+ts.length) t listed []).filter λ x=>rl.contains x)=(L.filter λ x=>rl.contains x) ->
  QT S fn ro ops (Region.linearise.go .any ops (r+ts.length) t listed []) Q ac U:=by
 intro r
 induction r with
 |zero=>
  intro t listed ac U pre L C av val h hr _
  have aa:∀i∈qs,Li listed i:=by
   intro i hi;have:=filter_eq_nil_iff.1 (length_eq_zero_iff.1 hr) i hi;simpa[Li]using this
  have hL:L=[]:=by
   cases L with
   |nil=>rfl
   |cons x rest=>exact absurd (h.sub x (aa x (by rw[h.split];simp))) (PA W h.split)
  subst hL;have E:pre=qs:=by have:=h.split;simp at this;exact this.symm
  subst E;have ab:=h.der;cases ab with
  |nil aq=>
   have e:av=ac:=h.av.eq h.ac λ j=>⟨aa j,h.sub j⟩;have:=aq U h.c;rw[e]at this;rw[Nat.zero_add,II W ts.length 0 t listed O1 h.size λ i=>?_]
   .simpa using this
   .rw[Nat.add_zero,take_left']
    .exact⟨h.sub i,aa i⟩
    .rfl
 |succ r ih=>
  intro t listed ac U pre L C av val h hr B;obtain⟨q,hq⟩:∃q,q∈qs.filter λ i=>!listed.getD i false:=exists_mem_of_length_pos O1;have a1:=(mem_filter.1 hq).1;have a0:¬Li listed q:=by have:=(mem_filter.1 hq).2;simpa[Li]using this
  obtain⟨pq,a5⟩:=mem_iff_getElem?.1 a1;obtain⟨y,hy⟩:=Vv W h.size _ _ (W7 (ts:=ts) a5) a0;obtain⟨i,hi,t',a3⟩:=Kg (k:=r+ts.length) (t:=t) (ne_nil_of_mem hy);have ad:=KH hi;have I:=(J2.1 hi).2.2;have az:=(J2.1 hi).1
  have aw:i∈qs:=by
   rcases mem_append.1 ((W.mem i).1 az)with hm|hm
   .exact hm
   .obtain⟨p1,hp1⟩:=mem_iff_getElem?.1 hm;exact absurd (J9 h.down (W.tail p1 i hp1 q (mem_append_left _ a1)) I) a0
  rw[show r+1+ts.length=(r+ts.length)+1 by omega,a3]at B ⊢;have z:∀j,Li (listed.setIfInBounds i true) j↔Li listed j\/j=i:=λ j=>Y0 (by rw[h.size];exact az)
  have G:(qs.filter λ x=>!(listed.setIfInBounds i true).getD x false).length=r:=by
   have a4:=(nodup_append.1 W.nodup).1
   have e:(qs.filter λ x=>!(listed.setIfInBounds i true).getD x false)=(qs.filter λ x=>!listed.getD x false).filter (λ x=>x != i):=by
    rw[filter_filter];refine filter_congr λ x _=>?_;have:=z x;simp only[Li]at this;cases hx:(listed.setIfInBounds i true).getD x false <;> cases a8:listed.getD x false <;> by_cases e:x=i <;> simp_all
   rw[e,<- Nodup.erase_eq_filter (a4.filter _),length_erase_of_mem (mem_filter.2 ⟨aw,by simpa[Li]using ad⟩),hr];rfl
  have ag:i∈rl->(L.filter λ x=>rl.contains x).head?=some i:=λ K=>by
   rw[<- B,filter_cons,if_pos (by simpa using K)];rfl
  obtain⟨N,L',C',ah,Y,f,ap,aj⟩:=Xc.reach W ay aw I L pre C av val h ag;rw[<- ap]at B
  have V:∀j,Li (listed.setIfInBounds i true) j->∀k∈Wr ops j,Li (listed.setIfInBounds i true) k:=by
   intro j b k hk;rw[z]at b ⊢;rcases b with b|rfl
   .exact .inl (h.down j b k hk)
   .exact .inl (I k hk)
  have X:∀{val:Nat->Value}{o:Oper},ops[i]?=some o->Ji ops val (Li listed) a_0 ac->Ji ops val (Li (listed.setIfInBounds i true)) a_0 (ac.put o.dst (val i)):=by
   intro val o Z ha;have:=Ji.put W ha Z;have e:Li (listed.setIfInBounds i true)=λ j=>Li listed j\/j=i:=by funext j;exact propext (z j)
   rw[e];exact this
  by_cases E:i∈N
  .obtain⟨o,ai,p,hp,Z,hag,hh⟩:=f.pend i E ad;have ax:i∉rl:=λ K=>ad (f.rels i E K)
   have H:((Region.linearise.go .any ops (r+ts.length) t' (listed.setIfInBounds i true) []).filter λ x=>rl.contains x)=(L'.filter λ x=>rl.contains x):=by
    rw[<- B,filter_cons,if_neg (by simpa using ax)]
   have w:=PE Z (W.nosel i o Z) (a:=ac) (a':=ai) λ s hs=>f.ac.slot hag λ j b=>GX W f.down hp ad I hs b
   have next:∀P,U.le P->Xc S ops rl qs J a_0 (λ a U=>QT S fn ro ops ts Q a U) (listed.setIfInBounds i true) (ac.put o.dst (Y i)) P N L' C' ah Y:=λ P ak=>
    ⟨f.split,f.der,f.mono,f.inJ,f.mono _ _ f.c ak,f.av,X Z f.ac,λ j b=>((z j).1 b).elim (f.sub j) (λ e=>e▸E),by simpa using f.size,V,λ j b hr=>(z j).2 (.inl (f.rels j b hr)),
     λ j b hl=>f.pend j b λ hx=>hl ((z j).2 (.inl hx))⟩
   rcases hh with⟨hw,hv⟩|⟨hw,al⟩
   .refine GS Z (by rw[w.2];exact hw) ?_;have:=ih t' _ _ _ _ _ _ _ _ (next U (.refl U)) G H;rw[hv]at this;exact this
   .have ae:QJ S o ac (λ v' U2=>v'=Y i/\∃P,Qv U2 P/\U.le P) U:=by have:=al U (f.inJ U f.c);unfold QJ at this ⊢;rw[w.1];exact this
    refine XP Z (by rw[w.2];exact hw) (.inr (P9 ae)) (Pa ae λ v U2 hv=>?_);obtain⟨rfl,P,hs,ak⟩:=hv;exact G0 hs (ih t' _ _ _ _ _ _ _ _ (next P ak) G H)
  .obtain⟨rest,rfl,K⟩:=aj.resolve_left E
   have H:((Region.linearise.go .any ops (r+ts.length) t' (listed.setIfInBounds i true) []).filter λ x=>rl.contains x)=(rest.filter λ x=>rl.contains x):=by
    rw[filter_cons,if_pos (by simpa using K),filter_cons,if_pos (by simpa using K)]at B;exact(List.cons.inj B).2
   have ab:=f.der;cases ab with
   |un hx _ _ _=>exact absurd K hx
   |det _ hx _ _ _ _=>exact absurd K hx
   |@rel _ _ _ _ o F _ hF a2 Z hw al hd=>
    obtain⟨a6,au⟩:=W5 f.split
    have w:=PE Z (W.nosel i o Z) (a:=ac) (a':=ah) λ s hs=>f.ac.slot f.av λ j b=>by
     have:=GX W f.down au ad I hs b;rw[a6]at this;exact this
    have ae:QJ S o ac (λ v' U2=>∃P,Qv U2 P/\F v' P) U:=by have:=al U f.c;unfold QJ at this ⊢;rw[w.1];exact this
    refine XP Z (by rw[w.2];exact hw) (.inr (P9 ae)) (Pa ae λ v U2 hv=>?_);obtain⟨P,hs,am⟩:=hv;refine G0 hs ?_;obtain⟨n1,n2,n3⟩:=f.note W v;have ao:=Ji.put W n1 Z;have an:=X Z n2;rw[Hw]at ao an;refine ih t' _ _ P (N++[i]) rest (F v) (ah.put o.dst v) (ZR Y i v) ⟨by rw[f.split];simp,hd v ⟨P,am⟩,hF v,a2 v,am,?_,an,?_,by simpa using f.size,V,?_,?_⟩ G H
    .have e:(λ j=>j∈N\/j=i)=(·∈N++[i]):=by funext j;simp
     rw[<- e];exact ao
    .intro j b;rcases(z j).1 b with b|rfl
     .exact mem_append_left _ (f.sub j b)
     .simp
    .intro j b hr;rw[z];rcases mem_append.1 b with b|b
     .exact .inl (f.rels j b hr)
     .exact .inr (by simpa using b)
    .intro j b hl;rcases mem_append.1 b with b|b
     .exact n3 j b λ hx=>hl ((z j).2 (.inl hx))
     .exact absurd ((z j).2 (.inr (by simpa using b))) hl
end
def pU(K:Ju ops [] qs ts):∀(r t:Nat)(listed:Array Bool),listed.size=ops.size->(∀i,Li listed i->∀j∈Wr ops i,Li listed j)->((qs++ts).filter λ i=>!listed.getD i false).length=r ->
  let g:=Region.linearise.go .any ops r t listed [];(∀i,i∈g↔i<ops.size/\¬Li listed i)/\g.Nodup/\g.Pairwise λ i j=>¬ZX ops j i:=by
 intro r
 induction r with
 |zero=>
  intro t listed L _ T
  have G:∀i,i<ops.size->Li listed i:=λ i H=>by
   have:=filter_eq_nil_iff.1 (length_eq_zero_iff.1 T) i ((K.mem i).1 H);simpa[Li]using this
  simp only[Region.linearise.go,reverse_nil];exact⟨λ i=>⟨(λ h=>by cases h),λ h=>absurd (G i h.1) h.2⟩,Pairwise.nil,Pairwise.nil⟩
 |succ r ih=>
  intro t listed L b T;obtain⟨q,W⟩:∃q,q∈(qs++ts).filter λ i=>!listed.getD i false:=exists_mem_of_length_pos O1;have S:¬Li listed q:=by have:=(mem_filter.1 W).2;simpa[Li]using this
  obtain⟨pq,Q⟩:=mem_iff_getElem?.1 (mem_filter.1 W).1;obtain⟨y,hy⟩:=Vv K L _ _ Q S;obtain⟨i,H,t',N⟩:=Kg (k:=r) (t:=t) (ne_nil_of_mem hy);have I:=KH H;have B:=(J2.1 H).2.2;have E:=(J2.1 H).1;have f:∀j,Li (listed.setIfInBounds i true) j↔Li listed j\/j=i:=λ j=>Y0 (by rw[L];exact E)
  have z:∀j,Li (listed.setIfInBounds i true) j->∀k∈Wr ops j,Li (listed.setIfInBounds i true) k:=by
   intro j F k V;rw[f]at F ⊢;rcases F with F|rfl
   .exact .inl (b j F k V)
   .exact .inl (B k V)
  have w:((qs++ts).filter λ x=>!(listed.setIfInBounds i true).getD x false).length=r:=by
   have e:((qs++ts).filter λ x=>!(listed.setIfInBounds i true).getD x false)=((qs++ts).filter λ x=>!listed.getD x false).filter (λ x=>x != i):=by
    rw[filter_filter];refine filter_congr λ x _=>?_;have:=f x;simp only[Li]at this;cases hx:(listed.setIfInBounds i true).getD x false <;> cases Z:listed.getD x false <;> by_cases e:x=i <;> simp_all
   rw[e,<- Nodup.erase_eq_filter (K.nodup.filter _),length_erase_of_mem (mem_filter.2 ⟨(K.mem i).1 E,by simpa[Li]using I⟩),T];rfl
  obtain⟨U,k2,k3⟩:=ih t' _ (by simpa using L) z w;simp only;rw[N];have P:i∉Region.linearise.go .any ops r t' (listed.setIfInBounds i true) []:=λ Y=>((U i).1 Y).2 ((f i).2 (.inr rfl));refine⟨λ j=>?_,nodup_cons.2 ⟨P,k2⟩,pairwise_cons.2 ⟨λ j F X=>?_,k3⟩⟩
  .rw[mem_cons,U,f];by_cases e:j=i
   .subst e;simp[E,I]
   .simp[e]
  .exact((U j).1 F).2 ((f j).2 (.inl (J9 b X B)))
def Ys(b:Nat->Nat->Bool)(ok:List Nat->Bool):Nat->List Nat->List Nat->Bool
 |0,_,pre=>ok pre
 |n+1,rem,pre=>rem.all λ i=>(rem.any λ j=>j != i&&b j i)|| Ys b ok n (rem.erase i) (pre++[i])
def E9{H:Nat->Nat->Bool}{ok:List Nat->Bool}:∀(n:Nat)(rem pre ρ:List Nat),Ys H ok n rem pre=true->rem.length=n->ρ.Perm rem->ρ.Nodup->(ρ.Pairwise λ i j=>H j i=false)->ok (pre++ρ)=true
 |0,rem,pre,ρ,h,E,f,_,_=>by
  have:ρ=[]:=length_eq_zero_iff.1 (by rw[f.length_eq,E]);subst this;rw[append_nil];exact h
 |n+1,rem,pre,ρ,h,E,f,F,I=>by
  cases ρ with
  |nil=>have:=f.length_eq;simp at this;omega
  |cons i ρ=>
   have B:i∈rem:=f.subset (mem_cons_self ..);have w:=pairwise_cons.1 I;have z:=nodup_cons.1 F;have b:=all_eq_true.1 h i B;rw[Bool.or_eq_true]at b;rcases b with b|b
   .obtain⟨j,hj,h2⟩:=any_eq_true.1 b;rw[Bool.and_eq_true]at h2;have G:j≠i:=by simpa using h2.1
    rcases mem_cons.1 (f.symm.subset hj)with e|K
    .exact absurd e G
    .rw[w.1 j K]at h2;cases h2.2
   .have:=E9 n (rem.erase i) (pre++[i]) ρ b (by rw[length_erase_of_mem B,E];rfl) ((perm_cons_erase B).symm.trans f.symm|>.cons_inv|>.symm) z.2 w.2
    rwa [append_assoc]at this
def Ls(ops:Array Oper)(rl qs:List Nat):Bool:=
 let b:=W_ ops ops.size
 (range qs.length).all λ p=>!rl.contains (qs.getD p 0)|| (qs.drop (p+1)).all λ i=>rl.contains i|| (qs.drop p).any λ r=>rl.contains r&&(b.getD i 0).testBit r
def MU(h:Ls ops rl qs=true):Yd ops rl qs:=λ p x B F i E w=>by
 have z:=(List.getElem?_eq_some_iff.1 B).1;have b:=all_eq_true.1 h p (mem_range.2 z);have e:qs.getD p 0=x:=by rw[getD_eq_getElem?_getD,B];rfl
 rw[e]at b;simp only[Bool.or_eq_true,Bool.not_eq_true']at b;rcases b with b|b
 .rw[show rl.contains x=true by simpa using F]at b;cases b
 .have f:=all_eq_true.1 b i E;rw[Bool.or_eq_true]at f;rcases f with f|f
  .exact absurd (by simpa using f) w
  .obtain⟨r,hr,h3⟩:=any_eq_true.1 f;rw[Bool.and_eq_true]at h3;exact⟨r,hr,by simpa using h3.1,Wm ops _ _ _ h3.2⟩
def Yr(ops:Array Oper)(rl:List Nat)(alts:List (List Nat))(ts:List Nat):Bool:=
 !alts.isEmpty&&alts.all (λ qs=>PK ops [] qs ts&&Ls ops rl qs)&&ts.all (λ i=>!rl.contains i)&&(decide rl.Nodup&&rl.all λ i=>decide (i<ops.size)) &&
 Ys (λ j i=>((W_ ops ops.size).getD i 0).testBit j) (λ ρ=>alts.any λ qs=>(qs.filter λ x=>rl.contains x)==ρ) rl.length rl []
def IS{J:Qa T->Prop}(rl:List Nat)(alts:List (List Nat))(ts:List Nat)(C:Qa T->Prop)(hC:Xz C)(W:∀U',C U'->J U')(X:C U)(hm:P.follows .mixedOrders=true)(E:Yr ops rl alts ts=true)
  (h:∀qs∈alts,WY S ops rl J (λ a U=>QT S fn ro ops ts Q a U) qs C a):Zs S fn ro (.region n ops true) Q a U:=by
 unfold Yr at E;simp only[Bool.and_eq_true,Bool.not_eq_true']at E;obtain⟨⟨⟨⟨V,h2⟩,h3⟩,h4,h5⟩,h6⟩:=E
 have ab:∀i∈ts,i∉rl:=λ i Y hr=>by
  have:=all_eq_true.1 h3 i Y;rw[show rl.contains i=true by simpa using hr]at this;cases this
 have Z:rl.Nodup:=of_decide_eq_true h4;have aa:∀i∈rl,i<ops.size:=λ i Y=>of_decide_eq_true (all_eq_true.1 h5 i Y)
 have w:∀qs∈alts,Ju ops [] qs ts/\Yd ops rl qs:=λ qs G=>by
  have:=all_eq_true.1 h2 qs G;rw[Bool.and_eq_true]at this;exact⟨E_ this.1,MU this.2⟩
 have f:∀i,¬Li (Array.replicate ops.size false) i:=by
  intro i h;simp only[Li,Array.getD_eq_getD_getElem?,Array.getElem?_replicate]at h;split at h <;> simp at h
 have b:∀l:List Nat,(l.filter λ i=>!(Array.replicate ops.size false).getD i false).length=l.length:=λ l=>by
  congr 1;rw[filter_eq_self];intro x _;have:=f x;simp only[Li]at this;simpa using this
 have z:∀qs∈alts,ops.size=qs.length+ts.length:=λ qs G=>by
  have N:=(w qs G).1
  have V:(qs++ts).Perm (range ops.size):=by
   refine(perm_ext_iff_of_nodup N.nodup nodup_range).2 λ x=>?_;rw[mem_range];exact(N.mem x).symm
  have:=V.length_eq;simp at this;omega
 refine IT λ t=>?_;simp only[Region.schedule,hm,Bool.true_or,if_true,Region.linearise];obtain⟨L,K⟩:∃q,q∈alts:=by cases alts with|nil=>cases V|cons q _=>exact⟨q,mem_cons_self ..⟩
 obtain⟨g1,g2,g3⟩:=pU (w L K).1 ops.size t (Array.replicate ops.size false) S1 (λ i h=>absurd h (f i)) (by rw[b,length_append,<- z L K])
 have F:((Region.linearise.go .any ops ops.size t (Array.replicate ops.size false) []).filter λ x=>rl.contains x).Perm rl:=by
  refine(perm_ext_iff_of_nodup (g2.filter _) Z).2 λ x=>?_;rw[mem_filter,g1];constructor
  .rintro⟨_,h⟩;simpa using h
  .intro h;exact⟨⟨aa x h,f x⟩,by simpa using h⟩
 have H:=E9 rl.length rl [] _ h6 rfl F (g2.filter _) ((g3.filter _).imp λ{i j}hb=>by
  cases hx:((W_ ops ops.size).getD i 0).testBit j with
  |false=>rfl
  |true=>exact absurd (Wm ops _ _ _ hx) hb)
 obtain⟨qs,B,G⟩:=any_eq_true.1 H;have G:(qs.filter λ x=>rl.contains x)=(Region.linearise.go .any ops ops.size t (Array.replicate ops.size false) []).filter λ x=>rl.contains x:=by simpa using G
 obtain⟨N,I⟩:=w qs B
 have:=pM (S:=S) (fn:=fn) (ro:=ro) (Q:=Q) (J:=J) N I ab qs.length t (Array.replicate ops.size false) a U [] qs C a (λ _=>undef)
  ⟨rfl,h qs B,hC,W,X,⟨rfl,rfl,λ _ _ _ h=>by simp at h,λ _ _=>rfl⟩,⟨rfl,rfl,λ _ j _ h=>absurd h (f j),λ _ _=>rfl⟩,λ i h=>absurd h (f i),S1,λ i h=>absurd h (f i),S1,S1⟩ (b qs) (by rw[<- z qs B,G])
 rw[<- z qs B]at this;exact this
def PV(S:Sys P T)(w:Qa T)(kd:Nat)(st:St)(z:(Qa T->Prop)->Zl T->Fm->List Deferred->Prop)(C:Qa T->Prop)(K:Zl T)(ds:List Deferred)(f:Fm):Prop:=match kd with
 |0=>OX S st.o f (λ v _=>z C K (ZB f st.dst v) ds) w
 |1=>∃v,(∀U',w.lg U'->OX S st.o f (λ B h=>B=v/\∃b,Qv h b/\U'.le b) U')/\z C K (ZB f st.dst v) ds
 |_=>∃F:Value->Qa T->Prop,(∀v,Xz (F v))/\(∀v U',F v U'->w.lg U')/\(∀U',C U'->OX S st.o f (λ B h=>∃b,Qv h b/\F B b) U')/\∀v,(∃U',F v U')->z (F v) K (ZB f st.dst v) ds
def PU(S:Sys P T)(z:Qa T)(kd:Nat)(st:St)(w:(Qa T->Prop)->Zl T->Fm->List Deferred->Prop)(C:Qa T->Prop)(K:Zl T)(f:Fm)(ds:List Deferred):Prop:=match st.g with
 |some (j,h)=>(match f j with
  |.bool b=>GB b h (PV S z kd st w C K ds (JE f j (.bool h))) (w C K (ZB (JE f j (.bool !h)) st.dst undef) ds)
  |.tuple _=>w C K (ZB f st.dst undef) ds
  |_=>False)
 |none=>PV S z kd st w C K ds f
def XE(S:Sys P T)(b:Qa T)(l:List (Nat×St)):(Qa T->Prop)->Zl T->Fm->List Deferred->Prop:=
 List.rec (motive:=λ _=>(Qa T->Prop)->Zl T->Fm->List Deferred->Prop) (λ C K f ds=>∀U',C U'->K f ds U') (λ p _ h=>PU S b p.1 p.2 h) l
def Iz(S:Sys P T)(b:Qa T)(kd:Nat)(st:St)(r:List (Nat×St)):XE S b ((kd,st)::r)=PU S b kd st (XE S b r):=rfl
def zj(B:stable W=true)(h:OX S W f K U):∃v,K v U/\∀(U':Qa T)(w:Value->Qa T->Prop),U.lg U'->w v U'->OX S W f w U':=by
 by_cases z:Gi W=true
 .cases W with
  |ld x=>
   simp only[OX,Qy]at h;split at h <;> rename_i e
   .obtain⟨v,a,b⟩:=h;exact⟨v,b,λ U' w z k=>by simp only[OX,Qy,e];exact⟨v,a.lg z,k⟩⟩
   .exact h.elim
  |ldn n x=>
   simp only[OX]at h;split at h <;> rename_i e
   .obtain⟨v,a,b⟩:=h;exact⟨_,b,λ U' w z k=>by simp only[OX,Qy,e];exact⟨v,⟨a.1,a.2.lg z⟩,k⟩⟩
   .exact h.elim
  |_=>cases z
 .obtain⟨v,a,b⟩:=OX.stable B h;exact⟨v,a,λ U' w _ k=>b U' w (.inl (by simpa using z)) k⟩
def WS(P:Program)(mu:List Nat)(ops:Array Oper)(rl:List Nat)(i:Nat):Nat:=
 if rl.contains i then 2 else match ops[i]? with
  |some o=>if stable (Q5 P mu o)then 0 else 1
  |none=>1
def IW{K:Zl T}(ab:∀a f ds U',FR N a f ds->K f ds U'->A a U')(hN:∀(i:Nat)(o:Oper),ops[i]?=some o->∀d,o.dst=some d->d<N) :
  ∀(z:List Nat)(l:List (Nat×St)),z.mapM (λ i=>((ops[i]?).bind (Z9 P mu ops)).map λ st=>(WS P mu ops rl i,st))=some l->(l.all λ x=>x.2.dfr.isNone)=true->(∀i∈z,∀o,ops[i]?=some o->o.guard=none\/i∉rl) ->
   ∀(a:Act)(f:Fm)(ds:List Deferred)(C:Qa T->Prop),FR N a f ds->XE S Ub l C K f ds->WY S ops rl (λ U'=>Ub.lg U') A z C a:=by
 intro z
 induction z with
 |nil=>
  intro l hl _ _ a f ds C B h;simp at hl;subst hl;exact .nil λ U' hc=>ab a f ds U' B (h U' hc)
 |cons i z ih=>
  intro l hl G ac a f ds C B h;simp only[mapM_cons,Option.pure_def,Option.bind_eq_bind,Option.bind_eq_some_iff,Option.map_eq_some_iff]at hl;obtain⟨x,⟨st,⟨o,I,Y⟩,rfl⟩,l',ae,e⟩:=hl;cases e;simp only[all_cons,Bool.and_eq_true]at G;have Z:=hN i o I;have E:=ih l' ae G.2 (λ j hj=>ac j (mem_cons_of_mem _ hj))
  have Q:(i∈rl/\WS P mu ops rl i=2)\/(i∉rl/\WS P mu ops rl i=0/\stable (Q5 P mu o)=true)\/(i∉rl/\WS P mu ops rl i=1):=by
   unfold WS;by_cases H:i∈rl
   .exact .inl ⟨H,by rw[if_pos (by simpa using H)]⟩
   .rw[if_neg (by simpa using H),I];by_cases X:stable (Q5 P mu o)=true
    .exact .inr (.inl ⟨H,by simp only[X,if_true],X⟩)
    .exact .inr (.inr ⟨H,by simp only[X];rfl⟩)
  have run:∀{f:Fm}{st:St},st.o=Q5 P mu o->st.dst=o.dst->FR N a f ds->Region.wanted o (yielded ops a.tmps)=true->PV S Ub (WS P mu ops rl i) st (XE S Ub l') C K ds f->WY S ops rl (λ U'=>Ub.lg U') A (i::z) C a:=by
   intro f st e1 e2 B L h;unfold PV at h;rw[e1,e2]at h;rcases Q with⟨H,Q⟩|⟨H,Q,X⟩|⟨H,Q⟩
   .rw[Q]at h;obtain⟨F,hF,ad,V,hn⟩:=h;refine .rel F H hF ad I L (λ U' hc=>?_) (λ v hv=>E _ _ _ _ (B.put o.dst v Z) (hn v hv));exact Wy (λ x=>B.eval x) (λ v' U2 U3 X⟨U1,a,b⟩=>⟨U1,X.trans a,b⟩) (V U' hc)
   .rw[Q]at h;obtain⟨v,hn,Y⟩:=zj X h;refine .det v H I L (λ U' U=>?_) (E _ _ _ _ (B.put o.dst v Z) hn);exact Wy (λ x=>B.eval x) Jp (Y U' _ U ⟨rfl,U',.refl _,.refl _⟩)
   .rw[Q]at h;obtain⟨v,V,hn⟩:=h;refine .det v H I L (λ U' U=>?_) (E _ _ _ _ (B.put o.dst v Z) hn);exact Wy (λ x=>B.eval x) Jp (V U' U)
  cases PX Y with
  |plain ag hg=>simp only[Iz,PU]at h;exact run rfl rfl B (Wk hg) h
  |@guarded j w d ag hg aa=>
   simp only[Iz,PU]at h;have W:i∉rl:=(ac i (mem_cons_self ..) o I).resolve_left (by rw[hg];simp);split at h
   .rename_i b hb;have L:=YM (ops:=ops) (o:=o) hg aa (B.slot hb);have e:JE f d (.bool b)=f:=KL hb;cases b <;> cases w <;> simp only[GB,Bool.not_true,Bool.not_false]at h <;> rw[e]at h
    .exact run rfl rfl B (by rw[L];rfl) h
    .exact .un W I (by rw[L];rfl) (E _ _ _ _ (B.put o.dst undef Z) h)
    .exact .un W I (by rw[L];rfl) (E _ _ _ _ (B.put o.dst undef Z) h)
    .exact run rfl rfl B (by rw[L];rfl) h
   .rename_i vs hb;exact .un W I (YU B hg aa hb) (E _ _ _ _ (B.put o.dst undef Z) h)
   .exact h.elim
  |dfr=>simp at G
def HH(N:Nat)(ops:Array Oper)(rl:List Nat)(alts:List (List Nat))(ts:List Nat):Bool:=
 Yr ops rl alts ts&&ops.all (GD N)&&rl.all λ i=>((ops[i]?).map (·.guard.isNone)).getD true
def xy{n:Zl T}{x:Nat->Zl T}(rl:List Nat)(alts:List (List Nat))(ts:List Nat)(la:List (List (Nat×St)))(lt:List St)(hm:P.follows .mixedOrders=true)
  (hc:D=.region ty ops true) (b:HH N ops rl alts ts=true) (H:alts.mapM (λ qs=>qs.mapM λ i=>((ops[i]?).bind (Z9 P mu ops)).map λ st=>(WS P mu ops rl i,st))=some la) (aa:ts.mapM (λ i=>(ops[i]?).bind (Z9 P mu ops))=some lt)
  (F:(la.all λ l=>l.all λ x=>x.2.dfr.isNone)=true) (E:Zl T) (Q:Qa T) (V:∀U',U.le U'->Q.lg U') (h:∀l∈la,XE S Q l (λ U'=>U.le U') E f ds) (hE:∀B w U',E B w U'->JH S ro lt n B w U'):Ui S fn ro N D n x r f ds U:=by
 subst hc;intro a G;unfold HH at b;simp only[Bool.and_eq_true]at b;obtain⟨⟨b,Y⟩,hg⟩:=b
 have hN:∀(i:Nat)(o:Oper),ops[i]?=some o->∀d,o.dst=some d->d<N:=λ i o I d hd=>by
  have:=(Array.all_eq_true'.1 Y) o (Array.mem_of_getElem? I);unfold GD at this;rw[hd]at this;exact of_decide_eq_true this
 have X:∀i∈rl,∀o,ops[i]?=some o->o.guard=none:=λ i L o I=>by
  have:=all_eq_true.1 hg i L;rw[I]at this;simpa using this
 refine IS (J:=λ U'=>Q.lg U') rl alts ts (λ U'=>U.le U') (λ _ _ h k=>h.trans k) V (.refl U) hm b λ qs z=>?_
 obtain⟨l,hl,Z⟩:∃l,l∈la/\qs.mapM (λ i=>((ops[i]?).bind (Z9 P mu ops)).map λ st=>(WS P mu ops rl i,st))=some l:=by
  clear h F b
  induction alts generalizing la with
  |nil=>cases z
  |cons q alts ih=>
   simp only[mapM_cons,Option.pure_def,Option.bind_eq_bind,Option.bind_eq_some_iff]at H;obtain⟨l,h1,ab,h2,e⟩:=H;cases e;rcases mem_cons.1 z with rfl|z
   .exact⟨l,mem_cons_self ..,h1⟩
   .obtain⟨l',h3,h4⟩:=ih ab h2 z;exact⟨l',mem_cons_of_mem _ h3,h4⟩
 refine IW (K:=E) (λ a' B w U' W hk=>?_) hN qs l Z (all_eq_true.1 F l hl) (λ i _ o I=>?_) a f ds _ G (h l hl)
 .refine PB (n:=n) (λ a f ds U G h=>?_) hN ts lt aa a' B w U' W (hE B w U' hk);refine⟨by rw[G.size,‹FR N _ _ _›.size],f,G.get,?_⟩;rw[G.ds];exact h
 .by_cases L:i∈rl
  .exact .inl (X i L o I)
  .exact .inr L
def xB{id:Nat}(L:FR N a f ds)(rl:List Nat)(alts:List (List Nat))(ts:List Nat)(la:List (List (Nat×St)))(lt:List St)(Y:P.follows .mixedOrders=true)
  (W:D=.region id ops true) (I:HH N ops rl alts ts=true) (G:alts.mapM (λ qs=>qs.mapM λ i=>((ops[i]?).bind (Z9 P mu ops)).map λ st=>(WS P mu ops rl i,st))=some la) (H:ts.mapM (λ i=>(ops[i]?).bind (Z9 P mu ops))=some lt)
  (F:(la.all λ l=>l.all λ x=>x.2.dfr.isNone)=true) (E:Zl T) (w:Qa T) (B:∀U',U.le U'->w.lg U') (h:∀l∈la,XE S w l (λ U'=>U.le U') E f ds) (V:∀z b U',E z b U'->JH S ro lt (λ f ds U=>∀a',FR N a' f ds->Q .normal a' U) z b U'):Zs S fn ro D Q a U:=by
 have:=xy (S:=S) (fn:=fn) (ro:=ro) (n:=λ f ds U=>∀a',FR N a' f ds->Q .normal a' U) (x:=λ _ _ _ _=>False) (r:=λ _ _ _=>False) (U:=U) rl alts ts la lt Y W I G H F E w B h V a L;refine Zs.mono this λ e a' U'⟨Z,z,X,K⟩=>?_;cases e with
 |normal=>exact K a' ⟨rfl,by rw[Z];exact L.size,X⟩
 |exit i=>exact K.elim
 |ret=>exact K.elim
def Sf{id:Nat}(K:FR N a f ds)(rl:List Nat)(alts:List (List Nat))(ts:List Nat)(la:List (List (Nat×St)))(lt:List St)(L:P.follows .mixedOrders=true)
  (I:D=.region id ops true) (F:HH N ops rl alts ts=true) (z:alts.mapM (λ qs=>qs.mapM λ i=>((ops[i]?).bind (Z9 P mu ops)).map λ st=>(WS P mu ops rl i,st))=some la) (B:ts.mapM (λ i=>(ops[i]?).bind (Z9 P mu ops))=some lt)
  (w:(la.all λ l=>l.all λ x=>x.2.dfr.isNone)=true) (E:Zl T) (h:∀l∈la,XE S U.frz l (λ U'=>U.le U') E f ds) (H:∀G b U',E G b U'->JH S ro lt (λ f ds U=>∀a',FR N a' f ds->Q .normal a' U) G b U'):Zs S fn ro D Q a U:=
 xB K rl alts ts la lt L I F z B w E U.frz (λ U' h=>⟨h.imm,⟨_,(append_nil _).symm⟩,h.tok⟩) h H
structure X4(U:Qa T)(b:Nat)(e:TypeId)(c:Array Value)(U':Qa T):Prop where
 imm:∀x o,U.I x=some o->U'.I x=some o
 own:U'.M=.obj b (.cells c e (0,0))::U.M
 tok:U'.tok=U.tok
 new:U.I b=none
def X4.le{U U' U'':Qa T}{b:Nat}{e:TypeId}{c:Array Value}(h:X4 U b e c U')(k:U'.le U''):X4 U b e c U'':=⟨λ x o i=>k.imm x o (h.imm x o i),k.own.trans h.own,k.tok.trans h.tok,h.new⟩
def X4.frz2(h:X4 U b e c U'):U.frz.lg U'.frz:=⟨h.imm,⟨[],rfl⟩,h.tok⟩
def X4.frz1(h:X4 U b e c U'):U.frz.lg U':=⟨h.imm,⟨_,(append_nil _).symm⟩,h.tok⟩
def X4.made(h:U.le U')(w:U'.free b):X4 U b e c (U'.put b (.cells c e)):=by
 refine⟨h.imm,by show _::U'.M=_;rw[h.own],h.tok,?_⟩;cases f:U.I b with
 |none=>rfl
 |some o=>have:=h.imm b o f;rw[w.1]at this;cases this
def X4.write(h:X4 U b e c U')(w:c.size=vs.length)(B:∀v∈vs,v.single=true)(z:∀f,U.le f->Zj f b vs.toArray->j f):QZ ⟨b,0,none⟩ vs 0 (λ U'=>∃f,Qv U' f/\j f) U':=by
 refine KU [] vs 0 c U' h.own B O1 ?_;rw[VQ w];refine⟨_,Wa (b:=b) (M':=U.M) (Perm.refl _),z _ ⟨λ x o i=>?_,rfl,h.tok⟩ Zj.new⟩;show Z_ U'.I b _ x=_;unfold Z_;rw[if_neg]
 .exact h.imm x o i
 .rintro rfl;rw[h.new]at i;cases i
def xx{n:Zl T}{x:Nat->Zl T}(Q:Qa T)(V:Q.lg U)(rl:List Nat)(alts:List (List Nat))(ts:List Nat)(la:List (List (Nat×St)))(lt:List St)(hm:P.follows .mixedOrders=true)
  (hc:D=.region ty ops true) (b:HH N ops rl alts ts=true) (H:alts.mapM (λ qs=>qs.mapM λ i=>((ops[i]?).bind (Z9 P mu ops)).map λ st=>(WS P mu ops rl i,st))=some la) (aa:ts.mapM (λ i=>(ops[i]?).bind (Z9 P mu ops))=some lt)
  (F:(la.all λ l=>l.all λ x=>x.2.dfr.isNone)=true) (E:Zl T) (h:∀l∈la,XE S Q l (λ U'=>U.le U') E f ds) (hE:∀B w U',E B w U'->JH S ro lt n B w U'):Ui S fn ro N D n x r f ds U:=by
 subst hc;intro a G;unfold HH at b;simp only[Bool.and_eq_true]at b;obtain⟨⟨b,Y⟩,hg⟩:=b
 have hN:∀(i:Nat)(o:Oper),ops[i]?=some o->∀d,o.dst=some d->d<N:=λ i o I d hd=>by
  have:=(Array.all_eq_true'.1 Y) o (Array.mem_of_getElem? I);unfold GD at this;rw[hd]at this;exact of_decide_eq_true this
 have X:∀i∈rl,∀o,ops[i]?=some o->o.guard=none:=λ i L o I=>by
  have:=all_eq_true.1 hg i L;rw[I]at this;simpa using this
 refine IS (J:=λ U'=>Q.lg U') rl alts ts (λ U'=>U.le U') (λ _ _ h k=>h.trans k) (λ U' h=>V.trans h.lg) (.refl U) hm b λ qs z=>?_
 obtain⟨l,hl,Z⟩:∃l,l∈la/\qs.mapM (λ i=>((ops[i]?).bind (Z9 P mu ops)).map λ st=>(WS P mu ops rl i,st))=some l:=by
  clear h F b
  induction alts generalizing la with
  |nil=>cases z
  |cons q alts ih=>
   simp only[mapM_cons,Option.pure_def,Option.bind_eq_bind,Option.bind_eq_some_iff]at H;obtain⟨l,h1,ab,h2,e⟩:=H;cases e;rcases mem_cons.1 z with rfl|z
   .exact⟨l,mem_cons_self ..,h1⟩
   .obtain⟨l',h3,h4⟩:=ih ab h2 z;exact⟨l',mem_cons_of_mem _ h3,h4⟩
 refine IW (K:=E) (λ a' B w U' W hk=>?_) hN qs l Z (all_eq_true.1 F l hl) (λ i _ o I=>?_) a f ds _ G (h l hl)
 .refine PB (n:=n) (λ a f ds U G h=>?_) hN ts lt aa a' B w U' W (hE B w U' hk);refine⟨by rw[G.size,‹FR N _ _ _›.size],f,G.get,?_⟩;rw[G.ds];exact h
 .by_cases L:i∈rl
  .exact .inl (X i L o I)
  .exact .inr L
def FD{id:Nat}(L:FR N a f ds)(w:Qa T)(B:w.lg U)(rl:List Nat)(alts:List (List Nat))(ts:List Nat)(la:List (List (Nat×St)))(lt:List St)(Y:P.follows .mixedOrders=true)
  (W:D=.region id ops true) (I:HH N ops rl alts ts=true) (G:alts.mapM (λ qs=>qs.mapM λ i=>((ops[i]?).bind (Z9 P mu ops)).map λ st=>(WS P mu ops rl i,st))=some la) (H:ts.mapM (λ i=>(ops[i]?).bind (Z9 P mu ops))=some lt)
  (F:(la.all λ l=>l.all λ x=>x.2.dfr.isNone)=true) (E:Zl T) (h:∀l∈la,XE S w l (λ U'=>U.le U') E f ds) (V:∀z b U',E z b U'->JH S ro lt (λ f ds U=>∀a',FR N a' f ds->Q .normal a' U) z b U'):Zs S fn ro D Q a U:=by
 have:=xx (S:=S) (fn:=fn) (ro:=ro) (n:=λ f ds U=>∀a',FR N a' f ds->Q .normal a' U) (x:=λ _ _ _ _=>False) (r:=λ _ _ _=>False) (U:=U) w B rl alts ts la lt Y W I G H F E h V a L;refine Zs.mono this λ e a' U'⟨Z,z,X,K⟩=>?_;cases e with
 |normal=>exact K a' ⟨rfl,by rw[Z];exact L.size,X⟩
 |exit i=>exact K.elim
 |ret=>exact K.elim
def N9{t e e2:Nat}
  (hu:P.underlying t=some (.slice e)) (ap:P.underlying t2=some (.slice e2)) (E:P.info? e=some F) (ao:F.size=n) (hz:F.zero=some z) (aq:z.cells.size=n) (ab:F.bytes≠0/\F.bytes<=1024)
  (hx:Zg f x=v) (hy:Zg f y=.slice ya yl yc) (ha:Acc e n v cs U.M M₀) (V:Src U ya new) (W:new.length=yl*n) (hn:0<n) (X:∀w∈new,w.single=true) (au:cs.length+new.length<=1048576)
  (am:new≠[]) (h:∀v' M' Z,Acc e n v' (cs++new) M' (Z++M₀)->(∀Q B,Acc e n v' (cs++new) Q (Z++B)->∃M3:List Qw,M3.Sublist Q/\Acc e n v cs M3 B)->K v' { U with M:=M' }) :
  OX S (.rw (.call { callee:=.builtin .append,args:=#[x,y],argTypes:=#[t,t2] }) ty) f K U:=by
 intro a' ak;obtain⟨sa,sl,sc,G,I,an⟩:=ha.src;have hm:(#[x,y]:Array Operand).map a'.eval=#[.slice sa sl sc,.slice ya yl yc]:=by simp[ak,hx,hy,G]
 simp only[execOp,resolve,hm,Qd,Qk,invoke,builtin];show Qq P (Builtin.append_ #[t,t2] ty #[.slice sa sl sc,.slice ya yl yc]) _ U;unfold Builtin.append_;simp only[getElem?_toArray,getElem?_cons_zero,getElem?_cons_succ,Qd,Ze hu,Ze ap,Je E,ao,Qk,Bool.false_eq_true,if_false,Builtin.lenOf,We E,false_or,Bool.not_false,if_true];have ax:sl<=cs.length:=by rw[I];exact Nat.le_mul_of_pos_right _ hn
 have ay:yl<=new.length:=by rw[W];exact Nat.le_mul_of_pos_right _ hn
 have T:(cs++new).length=(sl+yl)*n:=by rw[length_append,I,W,Nat.add_mul]
 split
 .rename_i hle;rw[Qd];refine XK V W ?_;rcases ha with⟨rfl,rfl,Y⟩|⟨b,c,len,cap,rfl,h1,h2,h3,Y,h4⟩
  .cases G;have:yl=0:=O1
   subst this;have ad:new=[]:=by simpa using W
   exact absurd ad am
  .cases G;simp only[Qd];refine GQ _ _ _ ?_;rw[Qo]
   have L:0+sl*n+0+new.length<=c.size:=by
    have:(sl+yl)*n<=sc*n:=Nat.mul_le_mul_right n hle;rw[Nat.add_mul]at this;rw[h3,W];omega
   refine G8 _ _ c U Y X L ?_;refine⟨_,.refl _,h _ _ [] (.inr ⟨b,_,sl+yl,sc,rfl,T,hle,by rw[Vu];exact h3,rfl,λ i x E=>?_⟩) λ Q B H=>?_⟩
   .rw[P8 _ _ _ _ _ L];simp only[getElem?_append]at E;split at E
    .rename_i al;rw[if_neg O1];exact h4 i x E
    .rename_i hge;have al:=(List.getElem?_eq_some_iff.1 E).1;rw[if_pos O1];rw[show i-(0+sl*n+0)=i-cs.length by omega];exact E
   .rcases H with⟨N,_,_⟩|⟨b',c',ae,aa,N,g1,g2,g3,g4,g5⟩
    .cases N
    .cases N;refine⟨_,.refl _,.inr ⟨b,c',sl,sc,rfl,I,O1,g3,g4,λ i x E=>?_⟩⟩;refine g5 i x ?_;rw[getElem?_append_left (List.getElem?_eq_some_iff.1 E).1];exact E
 .rename_i hgt;have ai:¬(((sl+yl:Nat):Int) > IntKind.i64.max/\F.bytes=0):=λ h=>ab.1 h.2
  have aj:¬(Builtin.nextslicecap (sl+yl) sc*F.bytes > 2^48):=by
   have:=QD (need:=sl+yl) (old:=sc) O1;have h2:Builtin.nextslicecap (sl+yl) sc*F.bytes<=(2*(sl+yl)+192)*1024:=Nat.mul_le_mul this ab.2;have ag:(2:Nat)^48=281474976710656:=D1
   rw[ag];omega
  simp only[We E,Qd];rw[if_neg ai];simp only[We E,Qd];rw[if_neg aj];simp only[choose,Qd];show ∀tt,Qq P _ _ U;intro tt;show Qq P (typeInfo e) _ U;rw[We E];refine PG ?_;refine XK an I ?_;refine XK V W ?_;simp only[Xk E hz];refine Jg λ b' aw=>?_;have ac:sl+yl<=Question.cut (.appendCap (sl+yl) sc e) tt:=by simp only[Question.cut];omega
  obtain⟨Z,hZ,ah⟩:∃Z,U.M=Z++M₀/\∀B,Acc e n (.slice sa sl sc) cs (Z++B) B:=by
   rcases ha with⟨N,e2,Y⟩|⟨b,c,len,cap,N,g1,g2,g3,Y,g5⟩
   .exact⟨[],Y,λ B=>.inl ⟨by rw[<- G];exact N,e2,rfl⟩⟩
   .exact⟨[_],Y,λ B=>.inr ⟨b,c,len,cap,by rw[<- G];exact N,g1,g2,g3,rfl,g5⟩⟩
  refine⟨_,.refl _,h _ _ Z (.inr ⟨b',_,sl+yl,Question.cut (.appendCap (sl+yl) sc e) tt,rfl,T,ac,?_,by rw[<- hZ],λ i x E=>?_⟩) λ Q B H=>?_⟩
  .simp only[Array.size_append,size_toArray,I,W,Builtin.zeroCells,Array.size_map,Array.size_range,aq];rw[<- Nat.add_mul,<- Nat.add_mul];congr 1;omega
  .have:(cs.toArray++new.toArray)=(cs++new).toArray:=S1
   rw[this,Array.getElem?_append_left (by simpa using(List.getElem?_eq_some_iff.1 E).1)];simpa using E
  .refine⟨Z++B,?_,by rw[G];exact ah B⟩;rcases H with⟨N,_,_⟩|⟨av,c',ae,aa,N,g1,g2,g3,g4,g5⟩
   .cases N
   .rw[g4];exact sublist_cons_self _ _
def Dc(k:X3 P i len n)
  (hx:Zg f x=v) (hy:Zg f y=.slice ya yl yc) (ha:Acc len n v cs U.M M₀) (G:Src U ya new) (hl:new.length=yl*n) (b:∀w∈new,w.single=true) (F:cs.length+new.length<=1048576) (H:new≠[])
  (h:∀I M' Z,Acc len n I (cs++new) M' (Z++M₀)->(∀E B,Acc len n I (cs++new) E (Z++B)->∃L:List Qw,L.Sublist E/\Acc len n v cs L B)->K I { U with M:=M' }) :
  OX S (.rw (.call { callee:=.builtin .append,args:=#[x,y],argTypes:=#[i,i] }) ty) f K U:=by
 obtain⟨aa,z,Q,T,V,W,X,Y⟩:=k.i;exact N9 k.u k.u Q T V W ⟨X,Y⟩ hx hy ha G hl k.n b F H h
def Xy(S:Sys P T)(f:FuncId)(args:Array Value)(Q:Qa T->Prop)(U:Qa T):Prop:=
 ∀(Stop:QH T)(m:Bool)(c:Frame)(cs:List Frame),c.mode=.returning->(∀U',Q U'->J S Stop m (Rf c cs) U')->J S Stop m (Rf (Frame.enter P f args .deferred) (c::cs)) U
def Xy.mono{b:Qa T->Prop}(h:Xy S fn args j U)(z:∀U',j U'->b U'):Xy S fn args b U:=
 λ Stop m c cs w k=>h Stop m c cs w λ U' q=>k U' (z U' q)
def S_(S:Sys P T)(rl:List RV)(Q:Value->Qa T->Prop)(f:Fm)(l:List Deferred):Qa T->Prop:=
 List.rec (motive:=λ _=>Qa T->Prop) (λ U=>Ht f Q rl [] U) (λ d r _ U=>match d.target with
  |.fn (.func g) b=>r=[]/\(P.funcs[g]?.any λ fd=>fd.body.isSome&&fd.name != "runtime.NumGoroutine")=true/\Xy S g (d.args++b) (λ U'=>Ht f Q rl [] U') U
  |_=>False) l
def qt(b:(P.funcs[g]?.any λ fd=>fd.body.isSome&&fd.name != "runtime.NumGoroutine")=true)(args:Array Value)(w:World)(es:Array Event):(callFunc g args).runT P w es=(.ok (.enter g args) w,es):=by
 cases f:P.funcs[g]? with
 |none=>rw[f]at b;cases b
 |some fd=>
  rw[f]at b;simp only[Option.any_some,Bool.and_eq_true,bne_iff_ne,ne_eq]at b;obtain⟨G,z⟩:=b;have B:(fd.name== "runtime.NumGoroutine")=false:=by simpa using z
  have E:fd.body.isNone=false:=by cases h:fd.body <;> simp_all
  have F:callFunc g args=(.program λ P=>match P.funcs[g]? with
   |none=>stuck "call: no such function"
   |some fn=>if fn.name== "runtime.NumGoroutine" then pure .numGoroutine else if fn.body.isNone then(do
     mark (.extern g)
     if let some e:=Extern.findNext fn then return <- e args
     match Extern.find fn with
     |some e=>pure (.value (<- e args))
     |none=>if fn.name.endsWith ".init"&&!fn.name.startsWith "("&&!fn.name.startsWith "gosem." then pure (.value (.tuple #[]))else unsupported (.extern fn.name))else pure (.enter g args)):=rfl
  rw[F];simp only[Sem.runT,f,B,E,Bool.false_eq_true,if_false];rfl
def J.defer{f:Array Value}
  (E:(P.funcs[g]?.any λ fd=>fd.body.isSome&&fd.name != "runtime.NumGoroutine")=true) (h:Xy S g (args++f) j U)
  (k:∀U',j U'->J S Stop m (Rf { fr H ⟨tmps,ds⟩ todo with mode:=.returning } (I::M)) U'):J S Stop m (Rf { fr H ⟨tmps,{ target:=.fn (.func g) f,args:=args }::ds⟩ todo with mode:=.returning } (I::M)) U:=by
 refine .still rfl (λ w=>?_) (h Stop m { fr H ⟨tmps,ds⟩ todo with mode:=.returning } (I::M) rfl k);have z:=qt (P:=P) E (args++f) w #[];have F:Sem.run P (invoke (.fn (.func g) f) args) w=.ok (.enter g (args++f)) w:=by rw[<- Sem.runT_fst P _ w #[]];exact congrArg Prod.fst z
 have B:Sem.events P (invoke (.fn (.func g) f) args) w #[]=#[]:=congrArg Prod.snd z;simp[Rf,stepG,unwind,fr,callDeferred,F,B,GStep.after,Sj]
def Qb.ofD{rl:List RV}(k:Zk P g N cc rl)(hm:P.follows .mixedOrders=true){args:List Value}(hn:args.length<=N){Q:Value->Qa T->Prop}
  (h:JX S g none cc (λ f ds U=>S_ S rl Q f ds U) (λ _ _ _ _=>False) (λ f ds U=>S_ S rl Q f ds U) (fm args) [] U):Qb S g args.toArray Q U:=by
 obtain⟨fd,mu,dets,Z,hb,hc,rfl,hr,-⟩:=k.ok;intro Stop m w cs hq
 let b:Frame:={ (default:Frame)with fn:=g,kind:=.normal }
 have E:Rf (Frame.enter P g args.toArray .normal) (w::cs)=R b { tmps:=args.toArray++Array.replicate (fd.ntmps-args.toArray.size) undef,defers:=[] } [.code (fd.body.getD .skip)] (w::cs):=by
  simp only[Rf,R,Frame.enter,fr,Z,b,Option.bind_some];rw[hb];rfl
 rw[E]
 have W:FR fd.ntmps { tmps:=args.toArray++Array.replicate (fd.ntmps-args.toArray.size) undef,defers:=[] } (fm args) []:=by
  refine⟨rfl,S3,λ t=>?_⟩;simp only[fm,Array.getD_eq_getD_getElem?,getD_eq_getElem?_getD,Array.getElem?_append,size_toArray,getElem?_toArray];split
  .rfl
  .rename_i hlt;rw[getElem?_eq_none O1,Array.getElem?_replicate];split <;> rfl
 subst hc
 have fin:∀(a':Act)(G:Fm)(z:List Deferred)(U':Qa T),FR fd.ntmps a' G z->S_ S rl Q G z U'->∀todo,J S Stop m (Rf { fr b a' todo with mode:=.returning } (w::cs)) U':=by
  intro a' G z U' B F todo
  have ret:∀H,Ht G Q rl [] H->J S Stop m (Rf { fr b ⟨a'.tmps,[]⟩ todo with mode:=.returning } (w::cs)) H:=λ H hx=>
   X0.step Z (.inl rfl) hq [] todo H (Vt hr [] H hx a'.tmps B.get)
  obtain⟨tm,Y⟩:=a';have V:Y=z:=B.ds;subst V;cases Y with
  |nil=>exact ret U' F
  |cons d r=>
   obtain⟨tg,K⟩:=d;cases tg with
   |fn L X=>
    cases L with
    |func h'=>
     obtain⟨rfl,I,hd⟩:=F;exact J.defer I hd ret
    |_=>exact F.elim
   |_=>exact F.elim
 refine J.body (fn:=g) ⟨rfl,rfl,by simp[b],S1⟩ (HZ hm _ W h) λ e a' U' q=>?_;obtain⟨G,z,B,F⟩:=q;cases e with
 |normal=>exact⟨.inl rfl,fin a' G z U' B F⟩
 |ret=>exact⟨.inr rfl,fin a' G z U' B F⟩
 |exit id=>exact F.elim
def Qb.makeM{f:FuncId}{args:Array Value}{Q:Value->Qa Tk->Prop}{U:Qa Tk}{b:Nat}{x:QV}{M₁ M₂:List Qw}(B:U.tok=⟨0,.par b [] false .run,none⟩)(z:U.M=.obj x.m (.cells #[Zb 0,Qp 0] x.t (0,0))::(M₁++M₂))(w:x.sp false false M₁)
  (h:Qb (Za P t N) f args Q { U with M:=M₂,tok:=⟨0,.par b [] false .run,some (.par x λ _=>false)⟩ }):Qb (Za P t N) f args Q U:=
 λ Stop m c cs k=>.syn (QB.makeM B z w (h Stop m c cs k))
