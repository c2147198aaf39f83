/- Lemmas. No conditions. -/
import Derived.Lib.UnsafeStr
import Derived.Test.YtajkaognaiglhaaGreatDoorB10
set_option linter.all false
open List
namespace Go.TM
variable{P:Program}{T:Type}{S:Sys P T}{fn:FuncId}{ro:Option Nat}{D:Code}{Q:Ex->Act->Qa T->Prop}{a:Act}{U:Qa T}{ops:Array Oper}{rl:List Nat}{t:TypeId}{N:Nat}{M':List Q2}
def Zdn(h:(∃w,U.ok w)->Zt S fn ro D Q a U):Zt S fn ro D Q a U:=by
 intro Stop m b k cs f z;by_cases e:∃w,U.ok w
 .exact h e Stop m b k cs f z
 .exact .priv ⟨rfl,λ w ok=>absurd ⟨w,ok⟩ e⟩
def CY(h:(∃w,U.ok w)->J7 S fn ro ops rl Q a U):J7 S fn ro ops rl Q a U:=by
 intro Stop m b k cs f z;by_cases e:∃w,U.ok w
 .exact h e Stop m b k cs f z
 .exact .priv ⟨rfl,λ w ok=>absurd ⟨w,ok⟩ e⟩
def Qb.make{f:FuncId}{args:Array Value}{Q:Value->Qa Tk->Prop}{U:Qa Tk}{b:Nat}{M₁ M₂:List Q2}(w:U.tok=⟨0,.out,none⟩)(e:U.M=M₁++.obj b (.cells #[Jh 0 0,Zx 0] t (0,0))::M₂)
  (h:Qb (Zj P t N) f args Q { U with M:=M₁++M₂,tok:=⟨0,.par b [] false .run,none⟩ }):Qb (Zj P t N) f args Q U:=
 λ Stop m c cs k=>.syn (QC.make w e (h Stop m c cs k))
def Hf(h:Perm U.M M'):Q1 U { U with M:=M' }:=by
 refine⟨rfl,λ w ok=>⟨⟨ok.imm,λ r f=>ok.held r (h.mem_iff.2 f),(h.pairwise_iff (λ{x y}h=>Q2.apart_symm h)).1 ok.apart,λ r f=>ok.sep r (h.mem_iff.2 f)⟩,λ l e=>?_,λ l e=>?_⟩⟩
 .rw[Za]at e ⊢;grind
 .rw[Q3]at e ⊢;grind
def Qa.base(U:Qa Tk):Qa Tk:=⟨U.I,[],⟨0,.out,none⟩⟩
def Qa.sub(U U':Qa Tk):Prop:=∀b o,U.I b=some o->U'.I b=some o
variable{f:Fm}{K:Value->Qa T->Prop}{b n ty yl len i:Nat}{d:TypeDesc}{x y:Operand}{vs:List Value}{e:TypeId}{c:Array Value}{v:Value}{M₀:List Q2}{j:Qa T->Prop}
section
attribute [local simp] Nat.mul_one
def Y_{m e:Nat}{d:TypeDesc}(B:P.underlying e=some d)(E:W_ d=true){xs ys:Array Value}{Q:Option Bool×PUnit->Qa T->Prop}:∀(n j:Nat)(vs ws:List Value),vs.length=n->ws.length=n->(∀v∈vs,fits d v=true)->(∀v∈ws,fits d v=true) ->
  (∀i v,vs[i]?=some v->xs[j+i]?=some v)->(∀i v,ws[i]?=some v->ys[j+i]?=some v)->Q (if ZJ vs ws then none else some false,()) U ->
  Qw P (forIn (List.range' j n 1) ((none,()):Option Bool×PUnit) λ i _=>do
    let a <- part e xs (i*1)
    let b <- part e ys (i*1)
    let c <- Op.equalIn (m+1) e a b
    if(!c)=true then pure (ForInStep.done (some false,()))else pure (ForInStep.yield (none,()))) Q U
 |0,j,vs,ws,G,H,_,_,_,_,h=>by
  obtain rfl:=length_eq_zero_iff.1 G;obtain rfl:=length_eq_zero_iff.1 H;exact h
 |n+1,j,v::vs,w::ws,G,H,f,z,M,N,h=>by
  rw[range'_succ,Vb];simp only[Qc,Nat.mul_one];have I:xs[j]?=some v:=by simpa using M 0 v rfl
  have K:ys[j]?=some w:=by simpa using N 0 w rfl
  rw[Gx B E I,Gx B E K,Df B E (f v (mem_cons_self ..)) (z w (mem_cons_self ..))];cases L:H_ v w with
  |false=>simpa[L,ZJ,Qi]using h
  |true=>
   simp only[Bool.not_true,Bool.false_eq_true,if_false,Qi]
   have:=Y_ B E (m:=m) (xs:=xs) (ys:=ys) (Q:=Q) n (j+1) vs ws (by simpa using G) (by simpa using H) (λ v h=>f v (mem_cons_of_mem _ h)) (λ v h=>z v (mem_cons_of_mem _ h))
    (λ i v F=>by have:=M (i+1) v F;rwa [show j+(i+1)=j+1+i by omega]at this)
    (λ i v F=>by have:=N (i+1) v F;rwa [show j+(i+1)=j+1+i by omega]at this) (by simpa[L,ZJ]using h)
   simp_all
def Nd{z:TypeInfo}(Q:P.underlying b=some (.array len yl))(L:P.underlying yl=some d)(N:W_ d=true)(w:P.info? yl=some z)(F:z.size=1)(M:P.eqGuardType P.depth b=false)
   {ws:List Value} (W:Zc f x=.agg vs.toArray) (X:Zc f y=.agg ws.toArray) (B:vs.length=len) (E:ws.length=len) (T:∀v∈vs,fits d v=true) (V:∀v∈ws,fits d v=true) (h:K (.bool (ZJ vs ws)) U) :
  OX S (.rw (.binOp .eql b x y n) ty) f K U:=by
 intro a' I;simp only[execOp,I,W,X];refine rq ?_;rw[Qc];refine Yj M ?_;simp only[binOp,Qc];have H:Op.equal b (.agg vs.toArray) (.agg ws.toArray)=Op.equalIn (9998+1+1) b (.agg vs.toArray) (.agg ws.toArray):=rfl;rw[H,Op.equalIn];simp only[Qc,Zi Q,Ji w,F,Std.Legacy.Range.forIn_eq_forIn_range'];refine Y_ L N _ 0 vs ws (by simp_all) (by simp_all) T V (λ i v w=>by simpa using w) (λ i v w=>by simpa using w) ?_;cases G:ZJ vs ws <;> simpa[G,Qi]using⟨U,.refl _,by simpa[G]using h⟩
def K6{b off:Nat}{e:TypeId}{M₀:List Q2}{Q:Qa T->Prop}(X:List Q2):∀(vs:List Value)(i:Nat)(c:Array Value)(U:Qa T),U.M=X++.obj b (.cells c e (0,0))::M₀->(∀v∈vs,v.single=true)->off+i+vs.length<=c.size ->
  Q { U with M:=X++.obj b (.cells (JZ c off vs i) e (0,0))::M₀ }->ZG ⟨b,off,none⟩ vs i Q U
 |[],i,c,U,f,_,_,w=>by
  have:U={ U with M:=X++.obj b (.cells c e (0,0))::M₀ }:=by rw[<- f]
  show Q U;rw[this];exact w
 |v::vs,i,c,U,f,z,E,w=>by
  simp only[length_cons]at E;refine⟨z v (mem_cons_self ..),X++.obj b (.cells (c.setIfInBounds (off+i) v) e (0,0))::M₀,?_,?_⟩
  .rw[f,Qu];have B:XS ⟨b,off+i,none⟩ v (.obj b (.cells c e (0,0))::M₀) (.obj b (.cells (c.setIfInBounds (off+i) v) e (0,0))::M₀):=.obj (a:=⟨b,off+i,none⟩) rfl (by grind);clear f w
   induction X with
   |nil=>exact B
   |cons r X G=>exact .there G
  .exact K6 X vs (i+1) _ _ rfl (λ v F=>z v (mem_cons_of_mem _ F)) S3 w
def PO(X:List Q2)(w:U.M=X++.obj b (.cells c e (0,0))::M₀)(B:i<c.size)(z:v.single=true)
  (h:j { U with M:=X++.obj b (.cells (c.setIfInBounds i v) e (0,0))::M₀ }):ZG ((Addr.mk b 0 none).add i) [v] 0 (λ U'=>∃f,Q1 U' f/\j f) U:=by
 rw[Qu];refine K6 X [v] 0 c U w (by simpa using z) S3 ?_;simp only[JZ,Nat.zero_add,Nat.add_zero];exact⟨_,.refl _,h⟩
def K9(X:List Q2)(z:U.M=X++.obj b (.cells c e (0,0))::M₀)(f:c.size=vs.length)(B:∀v∈vs,v.single=true)
  (h:j { U with M:=X++.obj b (.cells vs.toArray e (0,0))::M₀ }):ZG ⟨b,0,none⟩ vs 0 (λ U'=>∃w,Q1 U' w/\j w) U:=by
 refine K6 X vs 0 c U z B O1 ?_;rw[Vs f];exact⟨_,.refl _,h⟩
def Ze(X:List Q2)(f:U.M=X++.obj b (.cells vs.toArray e (0,0))::M₀):Ju U ⟨b,0,none⟩ vs:=by
 intro i v w;rw[Qu];refine⟨rfl,.inl ⟨_,_,_,.inr (by rw[f];simp;exact .inr (.inl ⟨rfl,rfl,rfl⟩)),?_⟩⟩;simpa using w
abbrev setA(s:Nat->Bool):Value:=.agg #[.bool (s 0),.bool (s 1),.bool (s 2),.bool (s 3),.bool (s 4),.bool (s 5),.bool (s 6),.bool (s 7)]
def Hz(s:Nat->Bool)(j:Nat)(v:Bool):Nat->Bool:=λ k=>if k=j then v else s k
end
variable{U' Y:Qa T}{args tmps:Array Value}{cs new:List Value}{ya:Option Addr}{M:List Int}{κ:Type}{enc:κ->Value}{H yc:Nat}{l:List (κ×Value)}{seen:Array Nat}{p:κ×Value}{q X:TypeId}{z:Value}{s u:Operand}{qs ts pre L rest mu:List Nat}{a_0 ac av:Act}{A:Act->Qa T->Prop}{listed:Array Bool}{val:Nat->Value}{o:Oper}{γ:O}{r:Zh T}{ds:List Deferred}{F:TypeInfo}{g:FuncId}{V W:Frame}{todo:List Item}{α:List Frame}{Stop:QK T}{m:Bool}{cc:C}{β:List RV}{Z:Func}{w:Array TypeId}
def Qa.frz(U:Qa T):Qa T:=⟨U.I,[],U.tok⟩
def Qa.lg.frz(h:U.lg U'):U.frz.lg U':=⟨h.imm,⟨U'.M,by simp[Qa.frz]⟩,h.tok⟩
def Qy:U.frz.lg U:=(⟨λ _ _ h=>h,⟨[],rfl⟩,rfl⟩:U.lg U).frz
def Oe(h:U.frz.lg U')(k:U'.le Y):U.frz.lg Y:=h.trans k.lg
def Qa.lg.frz2(h:U.lg U'):U.frz.lg U'.frz:=⟨h.imm,⟨[],rfl⟩,h.tok⟩
def Qb.grown{R:Value->Qa T->Prop}(B:∀v e w,e.lg w->R v e->R v w)(h:Qb S fn args (λ v U'=>R v U'.frz/\U.lg U') U):Qb S fn args (λ v U'=>R v U'.frz/\U.le U') U:=
 h.post λ v U'⟨E,z⟩=>let ⟨U'',h1,h2,h3⟩:=z.shift;⟨U'',h1,B v _ _ (⟨λ b o h=>by show U''.I b=_;rw[h3];exact h,⟨[],rfl⟩,h2.tok.trans z.tok.symm⟩:U'.frz.lg U''.frz) E,h2⟩
def J1(U:Qa T)(v:Value)(l:List Int):Prop:=∃a cap,v=.slice a l.length cap/\Z8 U a l.length l
def J1.lg{v:Value}{l:List Int}(h:J1 U v l)(f:U.lg U'):J1 U' v l:=let ⟨a,c,e,h⟩:=h;⟨a,c,e,h.lg f⟩
def Acc.freeze(H:JT U')(h:Acc ty n v cs U'.M U.M)(z:∀x E,U.I x=some E->U'.I x=some E)(B:U'.tok=U.tok) :
  ∃U'',Q1 U' U''/\U.le U''/\∃a len cap,v=.slice a len cap/\cs.length=len*n/\Src U''.frz a cs/\(∀f,a=some f->f.spot=none)/\(∀f,a=some f->f.off=0):=by
 rcases h with⟨rfl,rfl,w⟩|⟨b,c,len,cap,rfl,F,L,N,w,G⟩
 .exact⟨U',.refl _,⟨z,w,B⟩,none,0,0,rfl,S1,.inl ⟨rfl,rfl⟩,S1,S1⟩
 .obtain⟨U'',k1,k2,k3⟩:=D5 H w z rfl B;refine⟨U'',k1,k2,some ⟨b,0,none⟩,len,cap,rfl,F,.inr ⟨_,rfl,?_⟩,by simp_all,by simp_all⟩;intro i x K;rw[Qu];exact⟨rfl,.inl ⟨c,ty,(0,0),.inl k3,by simp_all⟩⟩
def VS(h:Src U ya (M.map λ n=>.int .i64 n))(f:∀e,ya=some e->e.spot=none):Z8 U ya M.length M:=by
 refine⟨rfl,λ i x z=>?_⟩;rcases h with⟨_,w⟩|⟨e,rfl,B⟩
 .simp_all
 .exact⟨e,rfl,f e rfl,by rw[Nat.mul_one];exact B i _ (by simp[z])⟩
def Qb.ints{e:Nat}{l:List Int}(h:Qb S fn args (λ v U'=>Acc e 1 v (l.map λ n=>.int .i64 n) U'.M U.M/\(∀x E,U.I x=some E->U'.I x=some E)/\U'.tok=U.tok) U) :
  Qb S fn args (λ v U'=>J1 U'.frz v l/\U.le U') U:=by
 refine h.sep λ v U' H⟨G,F,K⟩=>?_;obtain⟨U'',L,N,a,len,cap,rfl,B,w,z,_⟩:=G.freeze H F K;refine⟨U'',L,⟨a,cap,?_,VS w z⟩,N⟩;simp at B;rw[B]
def EL(P:Program)(t len:Nat):Bool:=
 match P.underlying t with
 |some (.array f e)=>decide (f=len)&&(match P.underlying e with|some .bool=>true|_=>false)&&(match P.info? e with|some w=>decide (w.size=1)|none=>false)&&!P.eqGuardType P.depth t
 |_=>false
structure Oq(P:Program)(t len:Nat):Prop where
 h:∃e inf,P.underlying t=some (.array len e)/\P.underlying e=some .bool/\P.info? e=some inf/\inf.size=1/\P.eqGuardType P.depth t=false
def Oq.of(h:EL P b len=true):Oq P b len:=by
 unfold EL at h;split at h
 .rename_i len' e hu;simp only[Bool.and_eq_true,decide_eq_true_eq,Bool.not_eq_true']at h;obtain⟨⟨⟨rfl,w⟩,f⟩,z⟩:=h;split at w
  .rename_i hb;split at f
   .rename_i inf hi;exact⟨e,inf,hu,hb,hi,by simpa using f,z⟩
   .cases f
  .cases w
 .cases h
structure Zdw(U:Qa T)(I:Nat->Qa T->Prop):Prop where
 le:∀k U1 U2,U1.le U2->I k U1->I k U2
 lg:∀k U1,I k U1->U.frz.lg U1
def Qa.on(U:Qa T)(A D:Q2):Qa T:={ U with M:=A::D::U.M }
def Zo.imI(h:Zo U b c)(e:∀x o,U.I x=some o->U'.I x=some o):Zo U' b c:=let ⟨t,fr,h⟩:=h;⟨t,fr,e _ _ h⟩
def G9{κ:Type}(enc:κ->Value):∀(l:List (κ×Value))(j i:Nat)(p:κ×Value),l[i]?=some p->(Qz enc l j)[i]?=some ⟨enc p.1,p.2,j+i⟩
 |[],_,_,_,h=>by simp at h
 |q::l,j,0,p,h=>by
  grind[Qz]
 |q::l,j,i+1,p,h=>by
  simp only[Qz,getElem?_cons_succ];rw[G9 enc l (j+1) i p (by simpa using h)];congr 2;omega
def KJ{κ:Type}(enc:κ->Value):∀(l:List (κ×Value))(j:Nat)(e:MapEntry),e∈Qz enc l j->∃i p,l[i]?=some p/\e=⟨enc p.1,p.2,j+i⟩
 |[],_,e,h=>by cases h
 |q::l,j,e,h=>by
  simp only[Qz,mem_cons]at h;rcases h with rfl|h
  .exact⟨0,q,rfl,rfl⟩
  .obtain⟨i,p,h1,rfl⟩:=KJ enc l (j+1) e h;exact⟨i+1,p,by simpa using h1,by congr 1;omega⟩
def J2(b n:Nat)(seen:Array Nat):Obj:=.mapIter (some b) n seen n
def Y4(B:P.underlying N=some (.map n H))(E:Zc f x=.map (some b))(w:U.has b (Q0 enc l))
  (h:∀r,U.free r->K (.pb r) (U.put r (J2 b l.length #[]))) :
  OX S (.rw (.range N x) ty) f K U:=by
 intro a' e;simp only[execOp,e,E];refine rq ?_;simp only[Instr.range,Qc,Zi B,getObj];refine⟨_,w,rfl,rfl,?_⟩;simp only[Qw,Q0,Qi,Qc,newObj];exact λ r z=>⟨_,.refl _,h r z⟩
def YR{r:Nat}(M':Obj->List Q2)(hx:Zc f x=.pb r)(hm:U.has b (Q0 enc l))
  (hu:∀o,J5 r o (J2 b l.length seen) U.M (M' o))
  (h0:(∀i,i<l.length->i∈seen)->K (.tuple #[.bool false]) U)
  (h1:∀(i:Nat)p,l[i]?=some p->i∉seen->K (.tuple #[.bool true,enc p.1,p.2]) { U with M:=M' (J2 b l.length (seen.push i)) }) :
  OX S (.rw (.next x false) ty) f K U:=by
 intro a' ha;simp only[execOp,ha,hx];refine rq ?_;unfold Instr.next;simp only[Qc,getObj];refine⟨_,.inr (hu (J2 b l.length seen)).mem,rfl,rfl,?_⟩;simp only[Qw,J2,Qi,Qc];refine⟨_,hm,rfl,rfl,?_⟩
 have w:∀e∈(Qz enc l 0).toArray,e.born<l.length:=λ e E=>by
  obtain⟨i,p,H,rfl⟩:=KJ enc l 0 e (by simpa using E);grind
 simp only[Qw,Q0,Qi,Qc];generalize G:(Qz enc l 0).toArray=es at w
 have hc:(!seen.isEmpty&&!es.isEmpty&&es.all λ x=>decide (x.born ≥ l.length))=false:=by
  cases E:es.isEmpty with
  |true=>simp
  |false=>
   have:es.all (λ x=>decide (x.born ≥ l.length))=false:=by
    rw[Array.all_eq_false'];rw[Array.isEmpty_eq_false_iff]at E;obtain⟨e,I⟩:=Array.exists_mem_of_ne_empty _ E;exact⟨e,I,by simp_all⟩
   rw[this];simp
 rw[hc];simp only[Bool.false_eq_true,if_false];generalize z:es.filter (λ e=>!seen.contains e.born)=left
 have T:left.filter (λ x=>decide (x.born<l.length))=left:=Array.filter_eq_self.2 λ e E=>by
  grind
 have Q:left.filter (λ x=>decide (x.born ≥ l.length))=#[]:=Array.filter_eq_empty_iff.2 λ e E=>by
  simp_all
 simp only[T,Q,Array.append_empty];cases F:left.isEmpty with
 |true=>
  have V:left=#[]:=by simpa using F
  subst V;simp only[if_true,Array.map_empty,Array.append_empty];refine⟨_,.refl _,h0 λ i H=>?_⟩;have W:l[i]?=some l[i]:=getElem?_eq_getElem H;have L:=mem_of_getElem? (G9 enc l 0 i _ W);have X:(⟨enc l[i].1,l[i].2,0+i⟩:MapEntry)∈es:=by rw[<- G];simpa using L
  have:=Array.filter_eq_empty_iff.1 z _ X;simpa using this
 |false=>
  have N:0<left.size:=by
   rw[Array.isEmpty_eq_false_iff]at F;exact Array.size_pos_iff.2 F
  have key:∀j,j<left.size->Qw P (match(#[]++left.map some)[j]? with
    |some (some e)=>do
     setObj r (.mapIter (some b) l.length (seen.push e.born) l.length)
     pure (.tuple #[.bool true,e.key,e.val])
    |some none=>pure (.tuple #[.bool false])
    |none=>stuck "Next: no such candidate") (λ v U'=>∃U1,Q1 U' U1/\K v U1) U:=by
   intro j hj;have h2:(#[]++left.map some)[j]?=some (some left[j]):=by simp[hj]
   rw[h2];have B:left[j]∈left:=Array.getElem_mem hj;generalize left[j]=e at B;rw[<- z,Array.mem_filter]at B;obtain⟨B,Y⟩:=B;rw[<- G]at B;obtain⟨i,p,H,rfl⟩:=KJ enc l 0 e (by simpa using B);simp only[Qc,setObj,Qw,Qi];have h3:=h1 i p H (by simpa using Y);rw[<- Nat.zero_add i]at h3;exact⟨_,_,hu _,rfl,rfl,rfl,_,.refl _,h3⟩
  simp only[Bool.false_eq_true,if_false];rw[Qc];show(if(Question.mapNext (#[]++Array.map some left).size).forced then _ else _);have Z:(#[]++Array.map some left).size=left.size:=S1
  split
  .exact key 0 N
  .intro t;refine key _ ?_;show t % (#[]++Array.map some left).size<left.size;simp_all[Nat.mod_lt]
def Y3{r:Nat}(P:Zc f x=.pb r)(I:U.has b (Q0 enc l))(N:U.has r (J2 b l.length (seen.push i)))
  (L:l[i]?=some p) (h:K (.tuple #[enc p.1,p.2]) U) :
  OX S (.rw (.entry x) n) f K U:=by
 intro a' G;simp only[execOp,G,P];refine rq ?_;unfold Instr.entry;simp only[Qc,getObj];refine⟨_,N,rfl,rfl,?_⟩;simp only[Qw,J2,Qi,Qc,Array.back?_push];refine⟨_,I,rfl,rfl,?_⟩;simp only[Qw,Q0,Qi,Qc,bne_self_eq_false,Bool.false_eq_true,if_false]
 have e:(Qz enc l 0).toArray.find? (λ x=>x.born==i)=some ⟨enc p.1,p.2,i⟩:=by
  rw[find?_toArray,find?_eq_some_iff_getElem];have E:=G9 enc l 0 i p L;rw[Nat.zero_add]at E;obtain⟨w,H⟩:=List.getElem?_eq_some_iff.1 E;refine⟨S1,i,w,H,λ j T=>?_⟩;obtain⟨q,M⟩:∃q,l[j]?=some q:=⟨_,getElem?_eq_getElem (by rw[Sg]at w;omega)⟩;have B:=G9 enc l 0 j q M;obtain⟨F,z⟩:=List.getElem?_eq_some_iff.1 B;rw[z];simp;omega
 rw[e];exact⟨_,.refl _,h⟩
def Xe{κ:Type}[DecidableEq κ](k:κ)(z:Value)(l:List (κ×Value)):List (κ×Value):=if(lk k l).isSome then l else l++[(k,z)]
def Ha{κ:Type}[DecidableEq κ](k:κ)(l:List (κ×Value)):Nat:=match QM k l 0 with|some (i,_)=>i|none=>l.length
def SV{κ:Type}[DecidableEq κ]{enc:κ->Value}{k:κ}:∀{l:List (κ×Value)}{i j n:Nat}{x:Value},QM k l i=some (n,x)->i<=n/\(∃e,(Qz enc l j)[n-i]?=some e/\e.key=enc k/\e.born=j+(n-i)) /\
   (Qz enc l j).modify (n-i) (λ e=>{ e with key:=enc k })=Qz enc l j
 |[],_,_,_,_,h=>by cases h
 |p::l,i,j,n,x,h=>by
  simp only[QM]at h;split at h
  .simp_all[Nat.le_refl,Qz]
  .rename_i e;obtain⟨F,⟨y,w,z,B⟩,E⟩:=SV (enc:=enc) (j:=j+1) h;have f:n-i=(n-(i+1))+1:=O1
   refine⟨O1,?_,?_⟩
   .rw[f];exact⟨y,by simpa[Qz]using w,z,by rw[B];omega⟩
   grind[Qz,modify_succ_cons]
def Sa{κ:Type}[DecidableEq κ]{enc:κ->Value}{N ty:TypeId}{l:List (κ×Value)}{k:κ}(E:WM T P q enc)(Z:P.underlying t=some (.map q N))(hz:Xo P N=some z)
  (hx:Zc f x=.map (some b)) (hy:Zc f y=enc k) (B:J5 b (Q0 enc (Xe k z l)) (Q0 enc l) U.M M') (h:K (.tuple #[(lk k l).getD z,.int .i64 (Ha k l)]) { U with M:=M' }) :
  OX S (.rw (.mapEntry t x y) ty) f K U:=by
 intro a' W;obtain⟨aa,Y,F⟩:=P8 hz;simp only[execOp,W,hx,hy];refine rq ?_;unfold Instr.mapEntry;simp only[Qc,Zi Z,getObj];refine⟨_,.inr B.mem,rfl,rfl,?_⟩;simp only[Qw,Q0,Qi,Qc];refine E.chk _ _ ?_;refine E.find k l ?_;unfold Ha lk at h;unfold Xe lk at B;cases e:QM k l 0 with
 |none=>
  simp only[e,Option.map_none,Option.getD_none,Option.isSome_none,Bool.false_eq_true,if_false]at h B;simp only[Qc,XC Y F,setObj,Qw,Qi];refine⟨Q0 enc l,M',?_,rfl,rfl,rfl,⟨_,.refl _,h⟩⟩
  have:Obj.map ((Qz enc l 0).toArray.push { key:=enc k,val:=z,born:=l.length }) (l.length+1)=Q0 enc (l++[(k,z)]):=by
   simp only[Q0,length_append,length_cons,length_nil,Kz,Qz,Nat.zero_add];congr 1;apply Array.ext';simp
  rw[this];exact B
 |some p=>
  obtain⟨n,w⟩:=p;simp only[e,Option.map_some,Option.getD_some,Option.isSome_some,if_true]at h B;obtain⟨h1,⟨Q,G,V,H⟩,I⟩:=SV (enc:=enc) (j:=0) e;rw[Nat.sub_zero]at G H I;have X:(Qz enc l 0).toArray[n]?=some Q:=by simpa using G
  simp only[X,Option.map_some,Option.getD_some,V,Qc];unfold Instr.keyThatStays;rw[E.bits k];simp only[if_true,Qi,setObj,Qw,H];refine⟨Q0 enc l,M',?_,rfl,rfl,rfl,⟨_,.refl _,?_⟩⟩
  .have:Obj.map ((Qz enc l 0).toArray.modify n λ e=>{ e with key:=enc k }) l.length=Q0 enc l:=by
    simp only[Q0];congr 1;apply Array.ext';rw[Array.toList_modify];exact I
   rw[this];exact B
  .rw[Nat.zero_add];exact h
def Si{κ:Type}(enc:κ->Value)(v:Value):∀(l:List (κ×Value))(j n:Nat),(Qz enc l j).modify n (λ e=>{ e with val:=v })=Qz enc (l.modify n λ p=>(p.1,v)) j
 |[],_,_=>by simp[Qz]
 |p::l,j,0=>by simp[Qz]
 |p::l,j,n+1=>by
  simp only[Qz,modify_succ_cons];rw[Si enc v l (j+1) n]
def R8(W:Zc f x=.map (some b)) (T:Zc f s=.int .i64 n) (N:n<l.length) (V:Zc f u=v) (G:J5 b (Q0 enc (l.modify n λ p=>(p.1,v))) (Q0 enc l) U.M M') (h:K undef { U with M:=M' }) :
  OX S (.rw (.entryStore t x s u) X) f K U:=by
 intro a' H;simp only[execOp,H,W,T,V];refine ru ?_;unfold Instr.entryStore;simp only[Qc,getObj];refine⟨_,.inr G.mem,rfl,rfl,?_⟩;simp only[Qw,Q0,Qi,Qc,asInt,asIntOf]
 have w:(Qz enc l 0).toArray.findIdx? (λ e=>(e.born:Int)==(n:Int))=some n:=by
  rw[findIdx?_toArray,findIdx?_eq_some_iff_getElem];have P:l[n]?=some l[n]:=getElem?_eq_getElem N;have L:=G9 enc l 0 n _ P;obtain⟨E,I⟩:=List.getElem?_eq_some_iff.1 L;refine⟨E,by rw[I];simp,λ j Y=>?_⟩;obtain⟨q,Q⟩:∃q,l[j]?=some q:=⟨_,getElem?_eq_getElem O1⟩;have B:=G9 enc l 0 j q Q;obtain⟨F,z⟩:=List.getElem?_eq_some_iff.1 B;rw[z];simp;omega
 rw[w];simp only[setObj,Qw];refine⟨Q0 enc l,M',?_,rfl,rfl,rfl,⟨_,.refl _,h⟩⟩
 have:Obj.map ((Qz enc l 0).toArray.modify n λ e=>{ e with val:=v }) l.length=Q0 enc (l.modify n λ p=>(p.1,v)):=by
  simp only[Q0,length_modify];congr 1;apply Array.ext';rw[Array.toList_modify];exact Si enc v l 0 n
 rw[this];exact G
def M_{κ:Type}[DecidableEq κ](k:κ)(z v:Value)(l:List (κ×Value)):(Xe k z l).modify (Ha k l) (λ p=>(p.1,v))=ups k v l/\Ha k l<(Xe k z l).length:=by
 have key:∀(l:List (κ×Value))(i:Nat),(match QM k l i with
   |some (n,_)=>i<=n/\n-i<l.length/\l.modify (n-i) (λ p=>(p.1,v))=ups k v l
   |none=>ups k v l=l++[(k,v)]):=by
  intro l
  induction l with
  |nil=>intro i;rfl
  |cons p l H=>
   intro i;simp only[QM];by_cases e:k=p.1
   .simp[e,ups]
   .rw[if_neg e];have:=H (i+1);cases f:QM k l (i+1)with
    |none=>
     simp_all[ups,if_neg]
    |some q=>
     obtain⟨n,w⟩:=q;rw[f]at this;simp only at this ⊢;obtain⟨I,K,F⟩:=this;have G:n-i=(n-(i+1))+1:=O1
     refine⟨O1,S3,?_⟩;simp_all[modify_succ_cons,ups,if_neg]
 have h:=key l 0;unfold Xe Ha lk;cases f:QM k l 0 with
 |none=>
  rw[f]at h;simp only at h;simp only[Option.map_none,Option.isSome_none,Bool.false_eq_true,if_false,length_append,length_cons,length_nil];refine⟨?_,O1⟩;rw[h];apply ext_getElem?;grind
 |some q=>
  simp_all
inductive Xb(S:Sys P T)(ops:Array Oper)(rl:List Nat)(J:Qa T->Prop)(Fin:Act->Qa T->Prop):List Nat->(Qa T->Prop)->Act->Prop
 |nil {C δ}:(∀U',C U'->Fin δ U')->Xb S ops rl J Fin [] C δ
 |un {ε η C δ ζ}:ε∉rl->ops[ε]?=some ζ->Region.wanted ζ (yielded ops δ.tmps)=false->Xb S ops rl J Fin η C (δ.put ζ.dst undef)->Xb S ops rl J Fin (ε::η) C δ
 |det {ε η C δ ζ} (v:Value):ε∉rl->ops[ε]?=some ζ->Region.wanted ζ (yielded ops δ.tmps)=true ->
   (∀U',J U'->QL S ζ δ (λ v' U2=>v'=v/\∃U1,Q1 U2 U1/\U'.le U1) U')->Xb S ops rl J Fin η C (δ.put ζ.dst v)->Xb S ops rl J Fin (ε::η) C δ
 |rel {ε η C δ ζ} (F:Value->Qa T->Prop):ε∈rl->(∀v,XM (F v))->(∀v U',F v U'->J U')->ops[ε]?=some ζ->Region.wanted ζ (yielded ops δ.tmps)=true ->
   (∀U',C U'->QL S ζ δ (λ v' U2=>∃U1,Q1 U2 U1/\F v' U1) U')->(∀v,(∃U',F v U')->Xb S ops rl J Fin η (F v) (δ.put ζ.dst v))->Xb S ops rl J Fin (ε::η) C δ
structure Xu(S:Sys P T)(ops:Array Oper)(rl qs:List Nat)(J:Qa T->Prop)(a_0:Act)(Fin:Act->Qa T->Prop)(listed:Array Bool)(ac:Act)(U:Qa T)
  (pre L:List Nat) (C:Qa T->Prop) (av:Act) (val:Nat->Value):Prop where
 split:qs=pre++L
 der:Xb S ops rl J Fin L C av
 mono:XM C
 inJ:∀U',C U'->J U'
 c:C U
 av:Jp ops val (·∈pre) a_0 av
 ac:Jp ops val (Li listed) a_0 ac
 sub:∀i,Li listed i->i∈pre
 size:listed.size=ops.size
 down:∀i,Li listed i->∀j∈W1 ops i,Li listed j
 rels:∀i∈pre,i∈rl->Li listed i
 pend:∀i∈pre,¬Li listed i->∃o ai p,qs[p]?=some i/\ops[i]?=some o/\Jp ops val (·∈qs.take p) a_0 ai /\
  ((Region.wanted o (yielded ops ai.tmps)=false/\val i=undef) \/
   (Region.wanted o (yielded ops ai.tmps)=true/\∀U',J U'->QL S o ai (λ v' U2=>v'=val i/\∃U1,Q1 U2 U1/\U'.le U1) U'))
section
variable{J:Qa T->Prop}{C:Qa T->Prop}
def Xu.note(F:Jz ops [] qs ts)(h:Xu S ops rl qs J a_0 A listed ac U pre (b::rest) C av val)(v:Value) :
  Jp ops (ZY val b v) (·∈pre) a_0 av/\Jp ops (ZY val b v) (Li listed) a_0 ac /\
  (∀i∈pre,¬Li listed i->∃o w p,qs[p]?=some i/\ops[i]?=some o/\Jp ops (ZY val b v) (·∈qs.take p) a_0 w /\
   ((Region.wanted o (yielded ops w.tmps)=false/\ZY val b v i=undef) \/
    (Region.wanted o (yielded ops w.tmps)=true/\∀U',J U'->QL S o w (λ W P=>W=ZY val b v i/\∃L,Q1 P L/\U'.le L) U'))):=by
 have K:=PC F h.split;refine⟨h.av.val λ j z=>Hm (λ e=>K (e▸z)),h.ac.val λ j z=>Hm (λ e=>K (e▸h.sub j z)),λ i G T=>?_⟩;obtain⟨o,w,p,M,V,E,Q⟩:=h.pend i G T;have H:i≠b:=λ e=>K (e▸G);refine⟨o,w,p,M,V,E.val λ j z=>Hm λ e=>?_,by rw[Hm H];exact Q⟩;subst e;obtain⟨p',f⟩:=mem_iff_getElem?.1 z;rw[getElem?_take]at f;split at f
 .rename_i hlt;have X:=HN F (WZ (ts:=ts) f) (WZ (Xk h.split).2);obtain⟨N,B⟩:=mem_iff_getElem?.1 G;have I:N<pre.length:=(List.getElem?_eq_some_iff.1 B).1;have Y:=HN F (WZ (ts:=ts) M) (WZ (ts:=ts) (p:=N) (i:=i) (by rw[h.split,getElem?_append_left I];exact B));omega
 .cases f
end
section
variable{J:Qa T->Prop}{C:Qa T->Prop}
def Xu.adv(E:Jz ops [] qs ts)(h:Xu S ops rl qs J a_0 A listed ac U pre (b::rest) C av val)(F:ops[b]?=some o)(z:b∉rl)
  (I:Xb S ops rl J A rest C (av.put o.dst v))
  (K:(Region.wanted o (yielded ops av.tmps)=false/\v=undef)\/(Region.wanted o (yielded ops av.tmps)=true/\∀U',J U'->QL S o av (λ M H=>M=v/\∃B,Q1 H B/\U'.le B) U')) :
  Xu S ops rl qs J a_0 A listed ac U (pre++[b]) rest C (av.put o.dst v) (ZY val b v):=by
 obtain⟨G,n2,L⟩:=h.note E v;have w:=Jp.put E G F;rw[HI]at w;refine⟨by rw[h.split];simp,I,h.mono,h.inJ,h.c,?_,n2,λ i f=>mem_append_left _ (h.sub i f),h.size,h.down,?_,?_⟩
 .simp_all
 .intro i f hr;rcases mem_append.1 f with f|f
  .exact h.rels i f hr
  simp_all
 .intro i f hl;rcases mem_append.1 f with f|f
  .exact L i f hl
  .simp at f;subst f;refine⟨o,av,pre.length,(Xk h.split).2,F,by rw[(Xk h.split).1];exact G,?_⟩;rw[HI];exact K
end
def Kh(ops:Array Oper)(rl qs:List Nat):Prop:=∀p x,qs[p]?=some x->x∈rl->∀i∈qs.drop (p+1),i∉rl->∃r∈qs.drop p,r∈rl/\JE ops r i
section
variable{J:Qa T->Prop}{C:Qa T->Prop}
def Xu.reach(Q:Jz ops [] qs ts)(H:Kh ops rl qs)(w:i∈qs)(hr:∀j∈W1 ops i,Li listed j) :
  ∀(L pre:List Nat)(C:Qa T->Prop)(av:Act)(val:Nat->Value),Xu S ops rl qs J a_0 A listed ac U pre L C av val->(i∈rl->(L.filter λ x=>rl.contains x).head?=some i) ->
   ∃B M C' N K,Xu S ops rl qs J a_0 A listed ac U B M C' N K/\(M.filter λ x=>rl.contains x)=(L.filter λ x=>rl.contains x)/\(i∈B\/∃rest,M=i::rest/\i∈rl):=by
 intro L
 induction L with
 |nil=>
  intro pre C av val h _;exact⟨pre,[],C,av,val,h,rfl,.inl (by have:=h.split;simp_all)⟩
 |cons x rest ih=>
  intro pre C av val h f;by_cases E:x∈rl
  .by_cases e:x=i
   .grind
   .by_cases hpre:i∈pre
    .grind
    .exfalso
     have V:i∈rest:=by
      rw[h.split]at w;simp at w;rcases w with w|w|w
      .simp_all
      .simp_all
      .exact w
     by_cases z:i∈rl
     .simp_all
     .obtain⟨r,hr1,hr2,hb⟩:=H pre.length x (Xk h.split).2 E i (by rw[h.split];simp[V]) z;have Y:=h.sub r (Wb h.down hb hr);rw[h.split]at hr1;simp at hr1;have I:=(nodup_append.1 Q.nodup).1;rw[h.split]at I;grind
  .have hfil:((x::rest).filter λ x=>rl.contains x)=rest.filter λ x=>rl.contains x:=by rw[filter_cons,if_neg (by simpa using E)]
   rw[hfil]at f ⊢;have G:=h.der;cases G with
   |un _ W Z P=>exact ih _ _ _ _ (h.adv Q W E P (.inl ⟨Z,rfl⟩)) f
   |det v _ W Z X P=>exact ih _ _ _ _ (h.adv Q W E P (.inr ⟨Z,X⟩)) f
   |rel F V=>exact absurd V E
end
section
variable{J:Qa T->Prop}{C:Qa T->Prop}
def LL(W:Jz ops [] qs ts)(ax:Kh ops rl qs)(a6:∀i∈ts,i∉rl):∀(r t:Nat)(listed:Array Bool)(ac:Act)(U:Qa T)(pre L:List Nat)(C:Qa T->Prop)(av:Act)(val:Nat->Value),
  Xu S ops rl qs J a_0 (λ a U=>J7 S fn ro ops ts Q a U) listed ac U pre L C av val->(qs.filter λ i=>!listed.getD i false).length=r ->
  ((Region.linearise.go .any ops (r+ts.length) t listed []).filter λ x=>rl.contains x)=(L.filter λ x=>rl.contains x) ->
  J7 S fn ro ops (Region.linearise.go .any ops (r+ts.length) t listed []) Q ac U:=by
 intro r
 induction r with
 |zero=>
  intro t listed ac U pre L C av val h hr _
  have aa:∀i∈qs,Li listed i:=by
   intro i hi;have:=filter_eq_nil_iff.1 (length_eq_zero_iff.1 hr) i hi;simpa[Li]using this
  have hL:L=[]:=by
   cases L with
   |nil=>rfl
   |cons x rest=>exact absurd (h.sub x (aa x (by rw[h.split];simp))) (PC W h.split)
  subst hL;have G:pre=qs:=by have:=h.split;simp at this;exact this.symm
  subst G;have ab:=h.der;cases ab with
  |nil ap=>
   have e:av=ac:=h.av.eq h.ac λ j=>⟨aa j,h.sub j⟩;have:=ap U h.c;rw[e]at this;rw[Nat.zero_add,OL W ts.length 0 t listed O1 h.size λ i=>?_]
   .simpa using this
   .rw[Nat.add_zero,take_left']
    .exact⟨h.sub i,aa i⟩
    .rfl
 |succ r ih=>
  intro t listed ac U pre L C av val h hr E;obtain⟨q,hq⟩:∃q,q∈qs.filter λ i=>!listed.getD i false:=exists_mem_of_length_pos O1;have a0:=(mem_filter.1 hq).1;have az:¬Li listed q:=by have:=(mem_filter.1 hq).2;simpa[Li]using this
  obtain⟨pq,a4⟩:=mem_iff_getElem?.1 a0;obtain⟨y,hy⟩:=Vk W h.size _ _ (WZ (ts:=ts) a4) az;obtain⟨i,hi,t',a2⟩:=VT (k:=r+ts.length) (t:=t) (ne_nil_of_mem hy);have ad:=VH hi;have K:=(J6.1 hi).2.2;have ay:=(J6.1 hi).1
  have au:i∈qs:=by
   rcases mem_append.1 ((W.mem i).1 ay)with hm|hm
   .exact hm
   .obtain⟨p1,hp1⟩:=mem_iff_getElem?.1 hm;exact absurd (Wb h.down (W.tail p1 i hp1 q (mem_append_left _ a0)) K) az
  rw[show r+1+ts.length=(r+ts.length)+1 by omega,a2]at E ⊢;have B:∀j,Li (listed.setIfInBounds i true) j↔Li listed j\/j=i:=λ j=>K7 (by rw[h.size];exact ay)
  have H:(qs.filter λ x=>!(listed.setIfInBounds i true).getD x false).length=r:=by
   have a3:=(nodup_append.1 W.nodup).1
   have e:(qs.filter λ x=>!(listed.setIfInBounds i true).getD x false)=(qs.filter λ x=>!listed.getD x false).filter (λ x=>x != i):=by
    rw[filter_filter];refine filter_congr λ x _=>?_;have:=B x;simp only[Li]at this;cases hx:(listed.setIfInBounds i true).getD x false <;> cases a7:listed.getD x false <;> by_cases e:x=i <;> simp_all
   rw[e,<- Nodup.erase_eq_filter (a3.filter _),length_erase_of_mem (mem_filter.2 ⟨au,by simpa[Li]using ad⟩),hr];rfl
  have af:i∈rl->(L.filter λ x=>rl.contains x).head?=some i:=λ M=>by
   rw[<- E,filter_cons,if_pos (by simpa using M)];rfl
  obtain⟨N,L',C',ag,Y,w,ao,ah⟩:=Xu.reach W ax au K L pre C av val h af;rw[<- ao]at E
  have V:∀j,Li (listed.setIfInBounds i true) j->∀k∈W1 ops j,Li (listed.setIfInBounds i true) k:=by
   intro j f k hk;rw[B]at f ⊢;rcases f with f|rfl
   .exact .inl (h.down j f k hk)
   .exact .inl (K k hk)
  have X:∀{val:Nat->Value}{o:Oper},ops[i]?=some o->Jp ops val (Li listed) a_0 ac->Jp ops val (Li (listed.setIfInBounds i true)) a_0 (ac.put o.dst (val i)):=by
   intro val o Z ha;have:=Jp.put W ha Z;have e:Li (listed.setIfInBounds i true)=λ j=>Li listed j\/j=i:=by funext j;exact propext (B j)
   rw[e];exact this
  by_cases G:i∈N
  .obtain⟨o,ai,p,hp,Z,hag,hh⟩:=w.pend i G ad;have aw:i∉rl:=λ M=>ad (w.rels i G M)
   have I:((Region.linearise.go .any ops (r+ts.length) t' (listed.setIfInBounds i true) []).filter λ x=>rl.contains x)=(L'.filter λ x=>rl.contains x):=by
    rw[<- E,filter_cons,if_neg (by simpa using aw)]
   have z:=Px Z (W.nosel i o Z) (a:=ac) (a':=ai) λ s hs=>w.ac.slot hag λ j f=>P5 W w.down hp ad K hs f
   have next:∀P,U.le P->Xu S ops rl qs J a_0 (λ a U=>J7 S fn ro ops ts Q a U) (listed.setIfInBounds i true) (ac.put o.dst (Y i)) P N L' C' ag Y:=λ P aj=>
    ⟨w.split,w.der,w.mono,w.inJ,w.mono _ _ w.c aj,w.av,X Z w.ac,λ j f=>((B j).1 f).elim (w.sub j) (λ e=>e▸G),by simpa using w.size,V,λ j f hr=>(B j).2 (.inl (w.rels j f hr)),
     λ j f hl=>w.pend j f λ hx=>hl ((B j).2 (.inl hx))⟩
   rcases hh with⟨hw,hv⟩|⟨hw,ak⟩
   .refine We Z (by rw[z.2];exact hw) ?_;have:=ih t' _ _ _ _ _ _ _ _ (next U (.refl U)) H I;rw[hv]at this;exact this
   .have ae:QL S o ac (λ v' U2=>v'=Y i/\∃P,Q1 U2 P/\U.le P) U:=by have:=ak U (w.inJ U w.c);unfold QL at this ⊢;rw[z.1];exact this
    refine Xl Z (by rw[z.2];exact hw) (.inr (Pk ae)) (Pl ae λ v U2 hv=>?_);obtain⟨rfl,P,hs,aj⟩:=hv;exact Gs hs (ih t' _ _ _ _ _ _ _ _ (next P aj) H I)
  .obtain⟨rest,rfl,M⟩:=ah.resolve_left G
   have I:((Region.linearise.go .any ops (r+ts.length) t' (listed.setIfInBounds i true) []).filter λ x=>rl.contains x)=(rest.filter λ x=>rl.contains x):=by
    rw[filter_cons,if_pos (by simpa using M),filter_cons,if_pos (by simpa using M)]at E;exact(List.cons.inj E).2
   have ab:=w.der;cases ab with
   |un hx _ _ _=>exact absurd M hx
   |det _ hx _ _ _ _=>exact absurd M hx
   |@rel _ _ _ _ o F _ hF a1 Z hw ak hd=>
    obtain⟨a5,aq⟩:=Xk w.split
    have z:=Px Z (W.nosel i o Z) (a:=ac) (a':=ag) λ s hs=>w.ac.slot w.av λ j f=>by
     have:=P5 W w.down aq ad K hs f;rw[a5]at this;exact this
    have ae:QL S o ac (λ v' U2=>∃P,Q1 U2 P/\F v' P) U:=by have:=ak U w.c;unfold QL at this ⊢;rw[z.1];exact this
    refine Xl Z (by rw[z.2];exact hw) (.inr (Pk ae)) (Pl ae λ v U2 hv=>?_);obtain⟨P,hs,al⟩:=hv;refine Gs hs ?_;obtain⟨n1,n2,n3⟩:=w.note W v;have an:=Jp.put W n1 Z;have am:=X Z n2;rw[HI]at an am;refine ih t' _ _ P (N++[i]) rest (F v) (ag.put o.dst v) (ZY Y i v) ⟨by rw[w.split];simp,hd v ⟨P,al⟩,hF v,a1 v,al,?_,am,?_,by simpa using w.size,V,?_,?_⟩ H I
    .have e:(λ j=>j∈N\/j=i)=(·∈N++[i]):=by funext j;simp
     rw[<- e];exact an
    .intro j f;rcases(B j).1 f with f|rfl
     .exact mem_append_left _ (w.sub j f)
     .simp
    .intro j f hr;rw[B];rcases mem_append.1 f with f|f
     .exact .inl (w.rels j f hr)
     .exact .inr (by simpa using f)
    .intro j f hl;rcases mem_append.1 f with f|f
     .exact n3 j f λ hx=>hl ((B j).2 (.inl hx))
     .exact absurd ((B j).2 (.inr (by simpa using f))) hl
end
def LV(L:Jz ops [] qs ts):∀(r t:Nat)(listed:Array Bool),listed.size=ops.size->(∀i,Li listed i->∀j∈W1 ops i,Li listed j)->((qs++ts).filter λ i=>!listed.getD i false).length=r ->
  let g:=Region.linearise.go .any ops r t listed [];(∀i,i∈g↔i<ops.size/\¬Li listed i)/\g.Nodup/\g.Pairwise λ i j=>¬JE ops j i:=by
 intro r
 induction r with
 |zero=>
  intro t listed M _ T
  have H:∀i,i<ops.size->Li listed i:=λ i I=>by
   have:=filter_eq_nil_iff.1 (length_eq_zero_iff.1 T) i ((L.mem i).1 I);simpa[Li]using this
  simp only[Region.linearise.go,reverse_nil];exact⟨λ i=>⟨(λ h=>by cases h),λ h=>absurd (H i h.1) h.2⟩,Pairwise.nil,Pairwise.nil⟩
 |succ r ih=>
  intro t listed M f T;obtain⟨q,W⟩:∃q,q∈(qs++ts).filter λ i=>!listed.getD i false:=exists_mem_of_length_pos O1;have S:¬Li listed q:=by have:=(mem_filter.1 W).2;simpa[Li]using this
  obtain⟨pq,Q⟩:=mem_iff_getElem?.1 (mem_filter.1 W).1;obtain⟨y,hy⟩:=Vk L M _ _ Q S;obtain⟨i,I,X,N⟩:=VT (k:=r) (t:=t) (ne_nil_of_mem hy);have K:=VH I;have E:=(J6.1 I).2.2;have F:=(J6.1 I).1;have w:∀j,Li (listed.setIfInBounds i true) j↔Li listed j\/j=i:=λ j=>K7 (by rw[M];exact F)
  have B:∀j,Li (listed.setIfInBounds i true) j->∀k∈W1 ops j,Li (listed.setIfInBounds i true) k:=by
   intro j G k V;rw[w]at G ⊢;rcases G with G|rfl
   .exact .inl (f j G k V)
   .exact .inl (E k V)
  have z:((qs++ts).filter λ x=>!(listed.setIfInBounds i true).getD x false).length=r:=by
   have e:((qs++ts).filter λ x=>!(listed.setIfInBounds i true).getD x false)=((qs++ts).filter λ x=>!listed.getD x false).filter (λ x=>x != i):=by
    rw[filter_filter];refine filter_congr λ x _=>?_;have:=w x;simp only[Li]at this;cases hx:(listed.setIfInBounds i true).getD x false <;> cases aa:listed.getD x false <;> by_cases e:x=i <;> simp_all
   rw[e,<- Nodup.erase_eq_filter (L.nodup.filter _),length_erase_of_mem (mem_filter.2 ⟨(L.mem i).1 F,by simpa[Li]using K⟩),T];rfl
  obtain⟨U,k2,k3⟩:=ih X _ (by simpa using M) B z;simp only;rw[N];have P:i∉Region.linearise.go .any ops r X (listed.setIfInBounds i true) []:=λ Z=>((U i).1 Z).2 ((w i).2 (.inr rfl));refine⟨λ j=>?_,nodup_cons.2 ⟨P,k2⟩,pairwise_cons.2 ⟨λ j G Y=>?_,k3⟩⟩
  .rw[mem_cons,U,w];by_cases e:j=i
   .subst e;simp[F,K]
   .simp[e]
  .exact((U j).1 G).2 ((w j).2 (.inl (Wb f Y E)))
def Oc(e:Nat->Nat->Bool)(ok:List Nat->Bool):Nat->List Nat->List Nat->Bool
 |0,_,pre=>ok pre
 |n+1,rem,pre=>rem.all λ i=>(rem.any λ j=>j != i&&e j i)|| Oc e ok n (rem.erase i) (pre++[i])
def SB{I:Nat->Nat->Bool}{ok:List Nat->Bool}:∀(n:Nat)(rem pre ρ:List Nat),Oc I ok n rem pre=true->rem.length=n->ρ.Perm rem->ρ.Nodup->(ρ.Pairwise λ i j=>I j i=false)->ok (pre++ρ)=true
 |0,rem,pre,ρ,h,F,w,_,_=>by
  have:ρ=[]:=length_eq_zero_iff.1 (by rw[w.length_eq,F]);subst this;rw[append_nil];exact h
 |n+1,rem,pre,ρ,h,F,w,G,K=>by
  cases ρ with
  |nil=>have:=w.length_eq;simp at this;omega
  |cons i ρ=>
   have E:i∈rem:=w.subset (mem_cons_self ..);have z:=pairwise_cons.1 K;have B:=nodup_cons.1 G;have f:=all_eq_true.1 h i E;rw[Bool.or_eq_true]at f;rcases f with f|f
   .obtain⟨j,hj,h2⟩:=any_eq_true.1 f;rw[Bool.and_eq_true]at h2;have H:j≠i:=by simpa using h2.1
    rcases mem_cons.1 (w.symm.subset hj)with e|L
    .exact absurd e H
    .rw[z.1 j L]at h2;cases h2.2
   .have:=SB n (rem.erase i) (pre++[i]) ρ f (by rw[length_erase_of_mem E,F];rfl) ((perm_cons_erase E).symm.trans w.symm|>.cons_inv|>.symm) B.2 z.2
    rwa [append_assoc]at this
def Tt(ops:Array Oper)(rl qs:List Nat):Bool:=
 let e:=Xd ops ops.size
 (range qs.length).all λ p=>!rl.contains (qs.getD p 0)|| (qs.drop (p+1)).all λ i=>rl.contains i|| (qs.drop p).any λ r=>rl.contains r&&(e.getD i 0).testBit r
def Bu(h:Tt ops rl qs=true):Kh ops rl qs:=λ p x E G i F z=>by
 have B:=(List.getElem?_eq_some_iff.1 E).1;have f:=all_eq_true.1 h p (mem_range.2 B);have e:qs.getD p 0=x:=by rw[getD_eq_getElem?_getD,E];rfl
 rw[e]at f;simp only[Bool.or_eq_true,Bool.not_eq_true']at f;rcases f with f|f
 .simp_all
 .have w:=all_eq_true.1 f i F;rw[Bool.or_eq_true]at w;rcases w with w|w
  .simp_all
  .obtain⟨r,hr,h3⟩:=any_eq_true.1 w;rw[Bool.and_eq_true]at h3;exact⟨r,hr,by simpa using h3.1,Wu ops _ _ _ h3.2⟩
def Ob(ops:Array Oper)(rl:List Nat)(alts:List (List Nat))(ts:List Nat):Bool:=
 !alts.isEmpty&&alts.all (λ qs=>PE ops [] qs ts&&Tt ops rl qs)&&ts.all (λ i=>!rl.contains i)&&(decide rl.Nodup&&rl.all λ i=>decide (i<ops.size)) &&
 Oc (λ j i=>((Xd ops ops.size).getD i 0).testBit j) (λ ρ=>alts.any λ qs=>(qs.filter λ x=>rl.contains x)==ρ) rl.length rl []
def OS{J:Qa T->Prop}(rl:List Nat)(alts:List (List Nat))(ts:List Nat)(C:Qa T->Prop)(hC:XM C)(V:∀U',C U'->J U')(W:C U)(hm:P.follows .mixedOrders=true)(E:Ob ops rl alts ts=true)
  (h:∀qs∈alts,Xb S ops rl J (λ a U=>J7 S fn ro ops ts Q a U) qs C a):Zt S fn ro (.region b ops true) Q a U:=by
 unfold Ob at E;simp only[Bool.and_eq_true,Bool.not_eq_true']at E;obtain⟨⟨⟨⟨N,h2⟩,h3⟩,h4,h5⟩,h6⟩:=E
 have aa:∀i∈ts,i∉rl:=λ i X hr=>by
  have:=all_eq_true.1 h3 i X;rw[show rl.contains i=true by simpa using hr]at this;cases this
 have Y:rl.Nodup:=of_decide_eq_true h4;have Z:∀i∈rl,i<ops.size:=λ i X=>of_decide_eq_true (all_eq_true.1 h5 i X)
 have w:∀qs∈alts,Jz ops [] qs ts/\Kh ops rl qs:=λ qs G=>by
  have:=all_eq_true.1 h2 qs G;rw[Bool.and_eq_true]at this;exact⟨SJ this.1,Bu this.2⟩
 have f:∀i,¬Li (Array.replicate ops.size false) i:=by
  intro i h;simp only[Li,Array.getD_eq_getD_getElem?,Array.getElem?_replicate]at h;split at h <;> simp at h
 have e:∀l:List Nat,(l.filter λ i=>!(Array.replicate ops.size false).getD i false).length=l.length:=λ l=>by
  congr 1;rw[filter_eq_self];intro x _;have:=f x;simp only[Li]at this;simpa using this
 have z:∀qs∈alts,ops.size=qs.length+ts.length:=λ qs G=>by
  have M:=(w qs G).1
  have N:(qs++ts).Perm (range ops.size):=by
   refine(perm_ext_iff_of_nodup M.nodup nodup_range).2 λ x=>?_;rw[mem_range];exact(M.mem x).symm
  have:=N.length_eq;simp at this;omega
 refine OT λ t=>?_;simp only[Region.schedule,hm,Bool.true_or,if_true,Region.linearise];obtain⟨L,K⟩:∃q,q∈alts:=by cases alts with|nil=>cases N|cons q _=>exact⟨q,mem_cons_self ..⟩
 obtain⟨g1,g2,g3⟩:=LV (w L K).1 ops.size t (Array.replicate ops.size false) S1 (λ i h=>absurd h (f i)) (by rw[e,length_append,<- z L K])
 have F:((Region.linearise.go .any ops ops.size t (Array.replicate ops.size false) []).filter λ x=>rl.contains x).Perm rl:=by
  refine(perm_ext_iff_of_nodup (g2.filter _) Y).2 λ x=>?_;rw[mem_filter,g1];constructor
  .rintro⟨_,h⟩;simpa using h
  .intro h;exact⟨⟨Z x h,f x⟩,by simpa using h⟩
 have H:=SB rl.length rl [] _ h6 rfl F (g2.filter _) ((g3.filter _).imp λ{i j}hb=>by
  cases hx:((Xd ops ops.size).getD i 0).testBit j with
  |false=>rfl
  |true=>exact absurd (Wu ops _ _ _ hx) hb)
 obtain⟨qs,B,G⟩:=any_eq_true.1 H;have G:(qs.filter λ x=>rl.contains x)=(Region.linearise.go .any ops ops.size t (Array.replicate ops.size false) []).filter λ x=>rl.contains x:=by simpa using G
 obtain⟨M,I⟩:=w qs B
 have:=LL (S:=S) (fn:=fn) (ro:=ro) (Q:=Q) (J:=J) M I aa qs.length t (Array.replicate ops.size false) a U [] qs C a (λ _=>undef)
  ⟨rfl,h qs B,hC,V,W,⟨rfl,rfl,λ _ _ _ h=>by simp at h,λ _ _=>rfl⟩,⟨rfl,rfl,λ _ j _ h=>absurd h (f j),λ _ _=>rfl⟩,λ i h=>absurd h (f i),S1,λ i h=>absurd h (f i),S1,S1⟩ (e qs) (by rw[<- z qs B,G])
 rw[<- z qs B]at this;exact this
def PV(S:Sys P T)(z:Qa T)(G:Nat)(st:St)(B:(Qa T->Prop)->Zh T->Fm->List Deferred->Prop)(C:Qa T->Prop)(K:Zh T)(ds:List Deferred)(f:Fm):Prop:=match G with
 |0=>OX S st.o f (λ v _=>B C K (QW f st.dst v) ds) z
 |1=>∃v,(∀U',z.lg U'->OX S st.o f (λ E w=>E=v/\∃e,Q1 w e/\U'.le e) U')/\B C K (QW f st.dst v) ds
 |_=>∃F:Value->Qa T->Prop,(∀v,XM (F v))/\(∀v U',F v U'->z.lg U')/\(∀U',C U'->OX S st.o f (λ E w=>∃e,Q1 w e/\F E e) U')/\∀v,(∃U',F v U')->B (F v) K (QW f st.dst v) ds
def PU(S:Sys P T)(z:Qa T)(B:Nat)(st:St)(w:(Qa T->Prop)->Zh T->Fm->List Deferred->Prop)(C:Qa T->Prop)(K:Zh T)(f:Fm)(ds:List Deferred):Prop:=match st.g with
 |some (j,e)=>(match f j with
  |.bool b=>GB b e (PV S z B st w C K ds (JC f j (.bool e))) (w C K (QW (JC f j (.bool !e)) st.dst undef) ds)
  |.tuple _=>w C K (QW f st.dst undef) ds
  |_=>False)
 |none=>PV S z B st w C K ds f
def XU(S:Sys P T)(e:Qa T)(l:List (Nat×St)):(Qa T->Prop)->Zh T->Fm->List Deferred->Prop:=
 List.rec (motive:=λ _=>(Qa T->Prop)->Zh T->Fm->List Deferred->Prop) (λ C K f ds=>∀U',C U'->K f ds U') (λ p _ w=>PU S e p.1 p.2 w) l
def Dn(S:Sys P T)(e:Qa T)(f:Nat)(st:St)(r:List (Nat×St)):XU S e ((f,st)::r)=PU S e f st (XU S e r):=rfl
def Ah(B:stable γ=true)(h:OX S γ f K U):∃v,K v U/\∀(U':Qa T)(w:Value->Qa T->Prop),U.lg U'->w v U'->OX S γ f w U':=by
 by_cases z:GF γ=true
 .cases γ with
  |ld x=>
   simp only[OX,Q4]at h;split at h <;> rename_i e
   .obtain⟨v,a,b⟩:=h;exact⟨v,b,λ U' w z k=>by simp only[OX,Q4,e];exact⟨v,a.lg z,k⟩⟩
   .exact h.elim
  |ldn n x=>
   simp only[OX]at h;split at h <;> rename_i e
   .obtain⟨v,a,b⟩:=h;exact⟨_,b,λ U' w z k=>by simp only[OX,Q4,e];exact⟨v,⟨a.1,a.2.lg z⟩,k⟩⟩
   .exact h.elim
  |_=>cases z
 .obtain⟨v,a,b⟩:=OX.stable B h;grind
def X4(P:Program)(mu:List Nat)(ops:Array Oper)(rl:List Nat)(i:Nat):Nat:=
 if rl.contains i then 2 else match ops[i]? with
  |some o=>if stable (Zb P mu o)then 0 else 1
  |none=>1
def OW{K:Zh T}(aa:∀a f ds U',FR N a f ds->K f ds U'->A a U')(hN:∀(i:Nat)(o:Oper),ops[i]?=some o->∀d,o.dst=some d->d<N) :
  ∀(idxs:List Nat)(l:List (Nat×St)),idxs.mapM (λ i=>((ops[i]?).bind (Z7 P mu ops)).map λ st=>(X4 P mu ops rl i,st))=some l->(l.all λ x=>x.2.dfr.isNone)=true->(∀i∈idxs,∀o,ops[i]?=some o->o.guard=none\/i∉rl) ->
   ∀(a:Act)(f:Fm)(ds:List Deferred)(C:Qa T->Prop),FR N a f ds->XU S Y l C K f ds->Xb S ops rl (λ U'=>Y.lg U') A idxs C a:=by
 intro idxs
 induction idxs with
 |nil=>
  intro l hl _ _ a f ds C z h;simp at hl;subst hl;exact .nil λ U' hc=>aa a f ds U' z (h U' hc)
 |cons i idxs ih=>
  intro l hl E ab a f ds C z h;simp only[mapM_cons,Option.pure_def,Option.bind_eq_bind,Option.bind_eq_some_iff,Option.map_eq_some_iff]at hl;obtain⟨x,⟨st,⟨o,H,W⟩,rfl⟩,l',ad,e⟩:=hl;cases e;simp only[all_cons,Bool.and_eq_true]at E;have X:=hN i o H;have B:=ih l' ad E.2 (λ j hj=>ab j (mem_cons_of_mem _ hj))
  have L:(i∈rl/\X4 P mu ops rl i=2)\/(i∉rl/\X4 P mu ops rl i=0/\stable (Zb P mu o)=true)\/(i∉rl/\X4 P mu ops rl i=1):=by
   unfold X4;by_cases G:i∈rl
   .simp_all
   .simp_all
  have run:∀{f:Fm}{st:St},st.o=Zb P mu o->st.dst=o.dst->FR N a f ds->Region.wanted o (yielded ops a.tmps)=true->PV S Y (X4 P mu ops rl i) st (XU S Y l') C K ds f->Xb S ops rl (λ U'=>Y.lg U') A (i::idxs) C a:=by
   intro f st e1 e2 z I h;unfold PV at h;rw[e1,e2]at h;rcases L with⟨G,L⟩|⟨G,L,V⟩|⟨G,L⟩
   .rw[L]at h;obtain⟨F,hF,ac,Q,hn⟩:=h;refine .rel F G hF ac H I (λ U' hc=>?_) (λ v hv=>B _ _ _ _ (z.put o.dst v X) (hn v hv));exact Wx (λ x=>z.eval x) (λ v' U2 U3 V⟨U1,a,b⟩=>⟨U1,V.trans a,b⟩) (Q U' hc)
   .rw[L]at h;obtain⟨v,hn,W⟩:=Ah V h;refine .det v G H I (λ U' M=>?_) (B _ _ _ _ (z.put o.dst v X) hn);exact Wx (λ x=>z.eval x) Jv (W U' _ M ⟨rfl,U',.refl _,.refl _⟩)
   .rw[L]at h;obtain⟨v,Q,hn⟩:=h;refine .det v G H I (λ U' M=>?_) (B _ _ _ _ (z.put o.dst v X) hn);exact Wx (λ x=>z.eval x) Jv (Q U' M)
  cases W0 W with
  |plain ae hg=>simp only[Dn,PU]at h;exact run rfl rfl z (Jr hg) h
  |@guarded j w d ae hg Z=>
   simp only[Dn,PU]at h;have U:i∉rl:=(ab i (mem_cons_self ..) o H).resolve_left (by rw[hg];simp);split at h
   .rename_i b hb;have I:=P7 (ops:=ops) (o:=o) hg Z (z.slot hb);have e:JC f d (.bool b)=f:=Pu hb;cases b <;> cases w <;> simp only[GB,Bool.not_true,Bool.not_false]at h <;> rw[e]at h
    .exact run rfl rfl z (by rw[I];rfl) h
    .exact .un U H (by rw[I];rfl) (B _ _ _ _ (z.put o.dst undef X) h)
    .exact .un U H (by rw[I];rfl) (B _ _ _ _ (z.put o.dst undef X) h)
    grind
   .rename_i vs hb;exact .un U H (Vm z hg Z hb) (B _ _ _ _ (z.put o.dst undef X) h)
   .exact h.elim
  |dfr=>simp at E
def HT(N:Nat)(ops:Array Oper)(rl:List Nat)(alts:List (List Nat))(ts:List Nat):Bool:=
 Ob ops rl alts ts&&ops.all (GP N)&&rl.all λ i=>((ops[i]?).map (·.guard.isNone)).getD true
def FG{n:Zh T}{x:Nat->Zh T}(rl:List Nat)(alts:List (List Nat))(ts:List Nat)(L:List (List (Nat×St)))(lt:List St)(hm:P.follows .mixedOrders=true)
  (hc:D=.region b ops true) (w:HT N ops rl alts ts=true) (H:alts.mapM (λ qs=>qs.mapM λ i=>((ops[i]?).bind (Z7 P mu ops)).map λ st=>(X4 P mu ops rl i,st))=some L) (aa:ts.mapM (λ i=>(ops[i]?).bind (Z7 P mu ops))=some lt)
  (F:(L.all λ l=>l.all λ x=>x.2.dfr.isNone)=true) (E:Zh T) (Q:Qa T) (V:∀U',U.le U'->Q.lg U') (h:∀l∈L,XU S Q l (λ U'=>U.le U') E f ds) (hE:∀f' z U',E f' z U'->ZV S ro lt n f' z U'):OD S fn ro N D n x r f ds U:=by
 subst hc;intro a G;unfold HT at w;simp only[Bool.and_eq_true]at w;obtain⟨⟨w,Y⟩,hg⟩:=w
 have hN:∀(i:Nat)(o:Oper),ops[i]?=some o->∀d,o.dst=some d->d<N:=λ i o I d hd=>by
  have:=(Array.all_eq_true'.1 Y) o (Array.mem_of_getElem? I);unfold GP at this;rw[hd]at this;exact of_decide_eq_true this
 have X:∀i∈rl,∀o,ops[i]?=some o->o.guard=none:=λ i M o I=>by
  have:=all_eq_true.1 hg i M;rw[I]at this;simpa using this
 refine OS (J:=λ U'=>Q.lg U') rl alts ts (λ U'=>U.le U') (λ _ _ h k=>h.trans k) V (.refl U) hm w λ qs B=>?_
 obtain⟨l,hl,Z⟩:∃l,l∈L/\qs.mapM (λ i=>((ops[i]?).bind (Z7 P mu ops)).map λ st=>(X4 P mu ops rl i,st))=some l:=by
  clear h F w
  induction alts generalizing L with
  |nil=>cases B
  |cons q alts ih=>
   simp only[mapM_cons,Option.pure_def,Option.bind_eq_bind,Option.bind_eq_some_iff]at H;obtain⟨l,h1,ab,h2,e⟩:=H;cases e;rcases mem_cons.1 B with rfl|B
   .exact⟨l,mem_cons_self ..,h1⟩
   .obtain⟨l',h3,h4⟩:=ih ab h2 B;exact⟨l',mem_cons_of_mem _ h3,h4⟩
 refine OW (K:=E) (λ a' f' z U' W hk=>?_) hN qs l Z (all_eq_true.1 F l hl) (λ i _ o I=>?_) a f ds _ G (h l hl)
 .refine Pw (n:=n) (λ a f ds U G h=>?_) hN ts lt aa a' f' z U' W (hE f' z U' hk);refine⟨by rw[G.size,‹FR N _ _ _›.size],f,G.get,?_⟩;rw[G.ds];exact h
 grind
def FI{id:Nat}(M:FR N a f ds)(rl:List Nat)(alts:List (List Nat))(ts:List Nat)(z:List (List (Nat×St)))(lt:List St)(Y:P.follows .mixedOrders=true)
  (W:D=.region id ops true) (K:HT N ops rl alts ts=true) (H:alts.mapM (λ qs=>qs.mapM λ i=>((ops[i]?).bind (Z7 P mu ops)).map λ st=>(X4 P mu ops rl i,st))=some z) (I:ts.mapM (λ i=>(ops[i]?).bind (Z7 P mu ops))=some lt)
  (G:(z.all λ l=>l.all λ x=>x.2.dfr.isNone)=true) (E:Zh T) (B:Qa T) (F:∀U',U.le U'->B.lg U') (h:∀l∈z,XU S B l (λ U'=>U.le U') E f ds) (V:∀f' w U',E f' w U'->ZV S ro lt (λ f ds U=>∀a',FR N a' f ds->Q .normal a' U) f' w U'):Zt S fn ro D Q a U:=by
 have:=FG (S:=S) (fn:=fn) (ro:=ro) (n:=λ f ds U=>∀a',FR N a' f ds->Q .normal a' U) (x:=λ _ _ _ _=>False) (r:=λ _ _ _=>False) (U:=U) rl alts ts z lt Y W K H I G E B F h V a M;refine Zt.mono this λ e a' U'⟨Z,f',X,L⟩=>?_;cases e with
 |normal=>exact L a' ⟨rfl,by rw[Z];exact M.size,X⟩
 |exit i=>exact L.elim
 |ret=>exact L.elim
def YM{id:Nat}(K:FR N a f ds)(rl:List Nat)(alts:List (List Nat))(ts:List Nat)(w:List (List (Nat×St)))(lt:List St)(L:P.follows .mixedOrders=true)
  (I:D=.region id ops true) (G:HT N ops rl alts ts=true) (B:alts.mapM (λ qs=>qs.mapM λ i=>((ops[i]?).bind (Z7 P mu ops)).map λ st=>(X4 P mu ops rl i,st))=some w) (F:ts.mapM (λ i=>(ops[i]?).bind (Z7 P mu ops))=some lt)
  (z:(w.all λ l=>l.all λ x=>x.2.dfr.isNone)=true) (E:Zh T) (h:∀l∈w,XU S U.frz l (λ U'=>U.le U') E f ds) (H:∀f' e U',E f' e U'->ZV S ro lt (λ f ds U=>∀a',FR N a' f ds->Q .normal a' U) f' e U'):Zt S fn ro D Q a U:=
 FI K rl alts ts w lt L I G B F z E U.frz (λ U' h=>⟨h.imm,⟨_,(append_nil _).symm⟩,h.tok⟩) h H
structure Xg(U:Qa T)(b:Nat)(e:TypeId)(c:Array Value)(U':Qa T):Prop where
 imm:∀x o,U.I x=some o->U'.I x=some o
 own:U'.M=.obj b (.cells c e (0,0))::U.M
 tok:U'.tok=U.tok
 new:U.I b=none
def Xg.le{U U' U'':Qa T}{b:Nat}{e:TypeId}{c:Array Value}(h:Xg U b e c U')(k:U'.le U''):Xg U b e c U'':=⟨λ x o i=>k.imm x o (h.imm x o i),k.own.trans h.own,k.tok.trans h.tok,h.new⟩
def Xg.frz2(h:Xg U b e c U'):U.frz.lg U'.frz:=⟨h.imm,⟨[],rfl⟩,h.tok⟩
def Xg.frz1(h:Xg U b e c U'):U.frz.lg U':=⟨h.imm,⟨_,(append_nil _).symm⟩,h.tok⟩
def Xg.made(h:U.le U')(w:U'.free b):Xg U b e c (U'.put b (.cells c e)):=by
 refine⟨h.imm,by show _::U'.M=_;rw[h.own],h.tok,?_⟩;cases f:U.I b with
 |none=>rfl
 |some o=>have:=h.imm b o f;rw[w.1]at this;cases this
def Xg.write(h:Xg U b e c U')(w:c.size=vs.length)(B:∀v∈vs,v.single=true)(z:∀f,U.le f->Zo f b vs.toArray->j f):ZG ⟨b,0,none⟩ vs 0 (λ U'=>∃f,Q1 U' f/\j f) U':=by
 refine K6 [] vs 0 c U' h.own B O1 ?_;rw[Vs w];refine⟨_,Wf (b:=b) (M':=U.M) (Perm.refl _),z _ ⟨λ x o i=>?_,rfl,h.tok⟩ Zo.new⟩;show JI U'.I b _ x=_;unfold JI;rw[if_neg]
 .exact h.imm x o i
 .rintro rfl;rw[h.new]at i;cases i
def FF{n:Zh T}{x:Nat->Zh T}(Q:Qa T)(V:Q.lg U)(rl:List Nat)(alts:List (List Nat))(ts:List Nat)(L:List (List (Nat×St)))(lt:List St)(hm:P.follows .mixedOrders=true)
  (hc:D=.region b ops true) (w:HT N ops rl alts ts=true) (H:alts.mapM (λ qs=>qs.mapM λ i=>((ops[i]?).bind (Z7 P mu ops)).map λ st=>(X4 P mu ops rl i,st))=some L) (aa:ts.mapM (λ i=>(ops[i]?).bind (Z7 P mu ops))=some lt)
  (F:(L.all λ l=>l.all λ x=>x.2.dfr.isNone)=true) (E:Zh T) (h:∀l∈L,XU S Q l (λ U'=>U.le U') E f ds) (hE:∀f' z U',E f' z U'->ZV S ro lt n f' z U'):OD S fn ro N D n x r f ds U:=by
 subst hc;intro a G;unfold HT at w;simp only[Bool.and_eq_true]at w;obtain⟨⟨w,Y⟩,hg⟩:=w
 have hN:∀(i:Nat)(o:Oper),ops[i]?=some o->∀d,o.dst=some d->d<N:=λ i o I d hd=>by
  have:=(Array.all_eq_true'.1 Y) o (Array.mem_of_getElem? I);unfold GP at this;rw[hd]at this;exact of_decide_eq_true this
 have X:∀i∈rl,∀o,ops[i]?=some o->o.guard=none:=λ i M o I=>by
  have:=all_eq_true.1 hg i M;rw[I]at this;simpa using this
 refine OS (J:=λ U'=>Q.lg U') rl alts ts (λ U'=>U.le U') (λ _ _ h k=>h.trans k) (λ U' h=>V.trans h.lg) (.refl U) hm w λ qs B=>?_
 obtain⟨l,hl,Z⟩:∃l,l∈L/\qs.mapM (λ i=>((ops[i]?).bind (Z7 P mu ops)).map λ st=>(X4 P mu ops rl i,st))=some l:=by
  clear h F w
  induction alts generalizing L with
  |nil=>cases B
  |cons q alts ih=>
   simp only[mapM_cons,Option.pure_def,Option.bind_eq_bind,Option.bind_eq_some_iff]at H;obtain⟨l,h1,ab,h2,e⟩:=H;cases e;rcases mem_cons.1 B with rfl|B
   .exact⟨l,mem_cons_self ..,h1⟩
   .obtain⟨l',h3,h4⟩:=ih ab h2 B;exact⟨l',mem_cons_of_mem _ h3,h4⟩
 refine OW (K:=E) (λ a' f' z U' W hk=>?_) hN qs l Z (all_eq_true.1 F l hl) (λ i _ o I=>?_) a f ds _ G (h l hl)
 .refine Pw (n:=n) (λ a f ds U G h=>?_) hN ts lt aa a' f' z U' W (hE f' z U' hk);refine⟨by rw[G.size,‹FR N _ _ _›.size],f,G.get,?_⟩;rw[G.ds];exact h
 grind
def Uv{id:Nat}(M:FR N a f ds)(B:Qa T)(F:B.lg U)(rl:List Nat)(alts:List (List Nat))(ts:List Nat)(z:List (List (Nat×St)))(lt:List St)(Y:P.follows .mixedOrders=true)
  (W:D=.region id ops true) (K:HT N ops rl alts ts=true) (H:alts.mapM (λ qs=>qs.mapM λ i=>((ops[i]?).bind (Z7 P mu ops)).map λ st=>(X4 P mu ops rl i,st))=some z) (I:ts.mapM (λ i=>(ops[i]?).bind (Z7 P mu ops))=some lt)
  (G:(z.all λ l=>l.all λ x=>x.2.dfr.isNone)=true) (E:Zh T) (h:∀l∈z,XU S B l (λ U'=>U.le U') E f ds) (V:∀f' w U',E f' w U'->ZV S ro lt (λ f ds U=>∀a',FR N a' f ds->Q .normal a' U) f' w U'):Zt S fn ro D Q a U:=by
 have:=FF (S:=S) (fn:=fn) (ro:=ro) (n:=λ f ds U=>∀a',FR N a' f ds->Q .normal a' U) (x:=λ _ _ _ _=>False) (r:=λ _ _ _=>False) (U:=U) B F rl alts ts z lt Y W K H I G E h V a M;refine Zt.mono this λ e a' U'⟨Z,f',X,L⟩=>?_;cases e with
 |normal=>exact L a' ⟨rfl,by rw[Z];exact M.size,X⟩
 |exit i=>exact L.elim
 |ret=>exact L.elim
def Bp{t t2 e e2:Nat}
  (hu:P.underlying t=some (.slice e)) (ao:P.underlying t2=some (.slice e2)) (E:P.info? e=some F) (an:F.size=n) (hz:F.zero=some z) (ap:z.cells.size=n) (ab:F.bytes≠0/\F.bytes<=1024)
  (hx:Zc f x=v) (hy:Zc f y=.slice ya yl yc) (ha:Acc e n v cs U.M M₀) (V:Src U ya new) (W:new.length=yl*n) (hn:0<n) (X:∀w∈new,w.single=true) (aq:cs.length+new.length<=1048576)
  (al:new≠[]) (h:∀v' M' Z,Acc e n v' (cs++new) M' (Z++M₀)->(∀Q B,Acc e n v' (cs++new) Q (Z++B)->∃M3:List Q2,M3.Sublist Q/\Acc e n v cs M3 B)->K v' { U with M:=M' }) :
  OX S (.rw (.call { callee:=.builtin .append,args:=#[x,y],argTypes:=#[t,t2] }) ty) f K U:=by
 intro a' aj;obtain⟨sa,sl,sc,G,I,am⟩:=ha.src;have hm:(#[x,y]:Array Operand).map a'.eval=#[.slice sa sl sc,.slice ya yl yc]:=by simp[aj,hx,hy,G]
 simp only[execOp,resolve,hm,Qc,Qi,invoke,builtin];show Qw P (Builtin.append_ #[t,t2] ty #[.slice sa sl sc,.slice ya yl yc]) _ U;unfold Builtin.append_;simp only[getElem?_toArray,getElem?_cons_zero,getElem?_cons_succ,Qc,Zi hu,Zi ao,Ji E,an,Qi,Bool.false_eq_true,if_false,Builtin.lenOf,Wl E,false_or,Bool.not_false,if_true];have aw:sl<=cs.length:=by rw[I];exact Nat.le_mul_of_pos_right _ hn
 have ax:yl<=new.length:=by rw[W];exact Nat.le_mul_of_pos_right _ hn
 have T:(cs++new).length=(sl+yl)*n:=by rw[length_append,I,W,Nat.add_mul]
 split
 .rename_i hle;rw[Qc];refine XY V W ?_;rcases ha with⟨rfl,rfl,Y⟩|⟨b,c,len,cap,rfl,h1,h2,h3,Y,h4⟩
  .cases G;have:yl=0:=O1
   subst this;have ad:new=[]:=by simpa using W
   exact absurd ad al
  .cases G;simp only[Qc];refine GX _ _ _ ?_;rw[Qu]
   have L:0+sl*n+0+new.length<=c.size:=by
    have:(sl+yl)*n<=sc*n:=Nat.mul_le_mul_right n hle;rw[Nat.add_mul]at this;rw[h3,W];omega
   refine Gu _ _ c U Y X L ?_;refine⟨_,.refl _,h _ _ [] (.inr ⟨b,_,sl+yl,sc,rfl,T,hle,by rw[Vj];exact h3,rfl,λ i x E=>?_⟩) λ Q B H=>?_⟩
   .rw[Pj _ _ _ _ _ L];simp only[getElem?_append]at E;split at E
    .rename_i ak;rw[if_neg O1];exact h4 i x E
    .rename_i hge;have ak:=(List.getElem?_eq_some_iff.1 E).1;rw[if_pos O1];rw[show i-(0+sl*n+0)=i-cs.length by omega];exact E
   .rcases H with⟨N,_,_⟩|⟨b',c',ae,aa,N,g1,g2,g3,g4,g5⟩
    .cases N
    .cases N;refine⟨_,.refl _,.inr ⟨b,c',sl,sc,rfl,I,O1,g3,g4,λ i x E=>?_⟩⟩;refine g5 i x ?_;rw[getElem?_append_left (List.getElem?_eq_some_iff.1 E).1];exact E
 .rename_i hgt;have ah:¬(((sl+yl:Nat):Int) > IntKind.i64.max/\F.bytes=0):=λ h=>ab.1 h.2
  have ai:¬(Builtin.nextslicecap (sl+yl) sc*F.bytes > 2^48):=by
   have:=QG (need:=sl+yl) (old:=sc) O1;have h2:Builtin.nextslicecap (sl+yl) sc*F.bytes<=(2*(sl+yl)+192)*1024:=Nat.mul_le_mul this ab.2;have af:(2:Nat)^48=281474976710656:=D1
   rw[af];omega
  simp only[Wl E,Qc];rw[if_neg ah];simp only[Wl E,Qc];rw[if_neg ai];simp only[choose,Qc];show ∀tt,Qw P _ _ U;intro tt;show Qw P (typeInfo e) _ U;rw[Wl E];refine PD ?_;refine XY am I ?_;refine XY V W ?_;simp only[XC E hz];refine Jm λ b' av=>?_;have ac:sl+yl<=Question.cut (.appendCap (sl+yl) sc e) tt:=by simp only[Question.cut];omega
  obtain⟨Z,hZ,ag⟩:∃Z,U.M=Z++M₀/\∀B,Acc e n (.slice sa sl sc) cs (Z++B) B:=by
   rcases ha with⟨N,e2,Y⟩|⟨b,c,len,cap,N,g1,g2,g3,Y,g5⟩
   .exact⟨[],Y,λ B=>.inl ⟨by rw[<- G];exact N,e2,rfl⟩⟩
   .exact⟨[_],Y,λ B=>.inr ⟨b,c,len,cap,by rw[<- G];exact N,g1,g2,g3,rfl,g5⟩⟩
  refine⟨_,.refl _,h _ _ Z (.inr ⟨b',_,sl+yl,Question.cut (.appendCap (sl+yl) sc e) tt,rfl,T,ac,?_,by rw[<- hZ],λ i x E=>?_⟩) λ Q B H=>?_⟩
  .simp only[Array.size_append,size_toArray,I,W,Builtin.zeroCells,Array.size_map,Array.size_range,ap];rw[<- Nat.add_mul,<- Nat.add_mul];congr 1;omega
  .have:(cs.toArray++new.toArray)=(cs++new).toArray:=S1
   rw[this,Array.getElem?_append_left (by simpa using(List.getElem?_eq_some_iff.1 E).1)];simpa using E
  .refine⟨Z++B,?_,by rw[G];exact ag B⟩;rcases H with⟨N,_,_⟩|⟨au,c',ae,aa,N,g1,g2,g3,g4,g5⟩
   .cases N
   .rw[g4];exact sublist_cons_self _ _
def E5(k:Xf P b i n)
  (hx:Zc f x=v) (hy:Zc f y=.slice ya yl yc) (ha:Acc i n v cs U.M M₀) (H:Src U ya new) (hl:new.length=yl*n) (E:∀w∈new,w.single=true) (G:cs.length+new.length<=1048576) (I:new≠[])
  (h:∀L M' Z,Acc i n L (cs++new) M' (Z++M₀)->(∀F B,Acc i n L (cs++new) F (Z++B)->∃N:List Q2,N.Sublist F/\Acc i n v cs N B)->K L { U with M:=M' }) :
  OX S (.rw (.call { callee:=.builtin .append,args:=#[x,y],argTypes:=#[b,b] }) ty) f K U:=by
 obtain⟨aa,z,T,V,W,X,Y,h6⟩:=k.i;exact Bp k.u k.u T V W X ⟨Y,h6⟩ hx hy ha H hl k.n E G I h
def X6(S:Sys P T)(f:FuncId)(args:Array Value)(Q:Qa T->Prop)(U:Qa T):Prop:=
 ∀(Stop:QK T)(m:Bool)(c:Frame)(cs:List Frame),c.mode=.returning->(∀U',Q U'->J S Stop m (Rf c cs) U')->J S Stop m (Rf (Frame.enter P f args .deferred) (c::cs)) U
def X6.mono{e:Qa T->Prop}(h:X6 S fn args j U)(z:∀U',j U'->e U'):X6 S fn args e U:=
 λ Stop m c cs w k=>h Stop m c cs w λ U' q=>k U' (z U' q)
def Oy(S:Sys P T)(rl:List RV)(Q:Value->Qa T->Prop)(f:Fm)(l:List Deferred):Qa T->Prop:=
 List.rec (motive:=λ _=>Qa T->Prop) (λ U=>Xv f Q rl [] U) (λ d r _ U=>match d.target with
  |.fn (.func g) e=>r=[]/\(P.funcs[g]?.any λ fd=>fd.body.isSome&&fd.name != "runtime.NumGoroutine")=true/\X6 S g (d.args++e) (λ U'=>Xv f Q rl [] U') U
  |_=>False) l
def NX(f:(P.funcs[g]?.any λ fd=>fd.body.isSome&&fd.name != "runtime.NumGoroutine")=true)(args:Array Value)(w:World)(es:Array Event):(callFunc g args).runT P w es=(.ok (.enter g args) w,es):=by
 cases z:P.funcs[g]? with
 |none=>rw[z]at f;cases f
 |some fd=>
  rw[z]at f;simp only[Option.any_some,Bool.and_eq_true,bne_iff_ne,ne_eq]at f;obtain⟨H,B⟩:=f;have E:(fd.name== "runtime.NumGoroutine")=false:=by simpa using B
  have F:fd.body.isNone=false:=by cases h:fd.body <;> simp_all
  have G:callFunc g args=(.program λ P=>match P.funcs[g]? with
   |none=>stuck "call: no such function"
   |some fn=>if fn.name== "runtime.NumGoroutine" then pure .numGoroutine else if fn.body.isNone then(do
     mark (.extern g)
     if let some e:=Extern.findNext fn then return <- e args
     match Extern.find fn with
     |some e=>pure (.value (<- e args))
     |none=>if fn.name.endsWith ".init"&&!fn.name.startsWith "("&&!fn.name.startsWith "gosem." then pure (.value (.tuple #[]))else unsupported (.extern fn.name))else pure (.enter g args)):=rfl
  rw[G];simp only[Sem.runT,z,E,F,Bool.false_eq_true,if_false];rfl
def J.defer{e:Array Value}
  (B:(P.funcs[g]?.any λ fd=>fd.body.isSome&&fd.name != "runtime.NumGoroutine")=true) (h:X6 S g (args++e) j U)
  (k:∀U',j U'->J S Stop m (Rf { fr V ⟨tmps,ds⟩ todo with mode:=.returning } (W::α)) U'):J S Stop m (Rf { fr V ⟨tmps,{ target:=.fn (.func g) e,args:=args }::ds⟩ todo with mode:=.returning } (W::α)) U:=by
 refine .still rfl (λ w=>?_) (h Stop m { fr V ⟨tmps,ds⟩ todo with mode:=.returning } (W::α) rfl k);have f:=NX (P:=P) B (args++e) w #[];have E:Sem.run P (invoke (.fn (.func g) e) args) w=.ok (.enter g (args++e)) w:=by rw[<- Sem.runT_fst P _ w #[]];exact congrArg Prod.fst f
 have z:Sem.events P (invoke (.fn (.func g) e) args) w #[]=#[]:=congrArg Prod.snd f;simp[Rf,stepG,unwind,fr,callDeferred,E,z,GStep.after,Wr]
def Qb.ofD(k:Zg P g N cc β)(hm:P.follows .mixedOrders=true){args:List Value}(hn:args.length<=N){Q:Value->Qa T->Prop}
  (h:JM S g none cc (λ f ds U=>Oy S β Q f ds U) (λ _ _ _ _=>False) (λ f ds U=>Oy S β Q f ds U) (fm args) [] U):Qb S g args.toArray Q U:=by
 obtain⟨fd,mu,dets,X,Y,Z,rfl,hr,-⟩:=k.ok;intro Stop m w cs hq
 let b:Frame:={ (default:Frame)with fn:=g,kind:=.normal }
 have E:Rf (Frame.enter P g args.toArray .normal) (w::cs)=R b { tmps:=args.toArray++Array.replicate (fd.ntmps-args.toArray.size) undef,defers:=[] } [.code (fd.body.getD .skip)] (w::cs):=by
  simp only[Rf,R,Frame.enter,fr,X,b,Option.bind_some];rw[Y];rfl
 rw[E]
 have M:FR fd.ntmps { tmps:=args.toArray++Array.replicate (fd.ntmps-args.toArray.size) undef,defers:=[] } (fm args) []:=by
  refine⟨rfl,S3,λ t=>?_⟩;simp only[fm,Array.getD_eq_getD_getElem?,getD_eq_getElem?_getD,Array.getElem?_append,size_toArray,getElem?_toArray];split
  .rfl
  .rename_i hlt;rw[getElem?_eq_none O1,Array.getElem?_replicate];split <;> rfl
 subst Z
 have fin:∀(a':Act)(f':Fm)(z:List Deferred)(U':Qa T),FR fd.ntmps a' f' z->Oy S β Q f' z U'->∀todo,J S Stop m (Rf { fr b a' todo with mode:=.returning } (w::cs)) U':=by
  intro a' f' z U' B F todo
  have ret:∀G,Xv f' Q β [] G->J S Stop m (Rf { fr b ⟨a'.tmps,[]⟩ todo with mode:=.returning } (w::cs)) G:=λ G hx=>
   X7.step X (.inl rfl) hq [] todo G (Ge hr [] G hx a'.tmps B.get)
  obtain⟨tm,W⟩:=a';have L:W=z:=B.ds;subst L;cases W with
  |nil=>exact ret U' F
  |cons d r=>
   obtain⟨tg,I⟩:=d;cases tg with
   |fn K V=>
    cases K with
    |func h'=>
     obtain⟨rfl,H,hd⟩:=F;exact J.defer H hd ret
    |_=>exact F.elim
   |_=>exact F.elim
 refine J.body (fn:=g) ⟨rfl,rfl,by simp[b],S1⟩ (Hh hm _ M h) λ e a' U' q=>?_;obtain⟨f',z,B,F⟩:=q;grind
def Qb.makeM{f:FuncId}{args:Array Value}{Q:Value->Qa Tk->Prop}{U:Qa Tk}{b:Nat}{x:ZA}{M₁ M₂:List Q2}(z:U.tok=⟨0,.par b [] false .run,none⟩)(w:U.M=.obj x.m (.cells #[QB 0,Zx 0] x.t (0,0))::(M₁++M₂))(e:x.sp (λ _=>false) M₁)
  (h:Qb (Zj P t N) f args Q { U with M:=M₂,tok:=⟨0,.par b [] false .run,some (.par x λ _=>false)⟩ }):Qb (Zj P t N) f args Q U:=
 λ Stop m c cs k=>.syn (QC.makeM z w e (h Stop m c cs k))
def OH{e:Array Value->Sem Value}{args:Array Operand}(I:P.funcs[b]?=some Z)(L:(Z.name== "runtime.NumGoroutine", Z.body.isNone)=(false,true))(F:Extern.findNext Z=none)(G:Extern.find Z=some e)
  (h:Qw P (e (args.toList.map (Zc f)).toArray) (λ v U'=>∃B,Q1 U' B/\K v B) U) :
  OX S (.rw (.call { callee:=.value (.func b),args:=args,argTypes:=w }) n) f K U:=by
 intro a' E;obtain⟨N,H⟩:=by simpa only[Prod.mk.injEq]using L
 have M:args.map a'.eval=(args.toList.map (Zc f)).toArray:=by rw[show a'.eval=Zc f from funext E];apply Array.ext';simp
 have z:a'.eval (.func b)=.func (.func b) #[] #[]:=(E _).trans rfl;simp only[execOp,resolve,M,z,Qc,Qi,invoke,Deferred.ofValue,callFunc,program,Qw,I,N,H,Bool.false_eq_true,if_false,if_true,mark,F,G];refine⟨rfl,?_⟩;simp only[Array.empty_append,Array.append_empty];exact h
def E6{e:Array Value->Sem Value}{args:Array Operand}(F:P.funcs[b]?=some Z)(G:(Z.name== "runtime.NumGoroutine", Z.body.isNone)=(false,true))(z:Extern.findNext Z=none)(B:Extern.find Z=some e)
  (E:e (args.toList.map (Zc f)).toArray=pure v) (h:K v U):OX S (.rw (.call { callee:=.value (.func b),args:=args,argTypes:=w }) H) f K U:=
 OH F G z B (by rw[E];exact⟨U,.refl _,h⟩)
