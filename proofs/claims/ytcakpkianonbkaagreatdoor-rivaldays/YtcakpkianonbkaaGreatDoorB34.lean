/- Lemmas. No conditions. -/
import Derived.Test.YtcakpkianonbkaaGreatDoorB02
import Derived.Test.YtcakpkianonbkaaGreatDoorB14
set_option linter.all false
open List
namespace Go.TM
variable{P:Program}{t:TypeId}{N:Nat}
def Zvx{T:Type}{S:Sys P T}{fn:FuncId}{ro:Option Nat}{c:Code}{Q:Ex->Act->Qa T->Prop}{a:Act}{U:Qa T}(h:(∃w,U.ok w)->Zv S fn ro c Q a U):Zv S fn ro c Q a U:=by
 intro Stop m b k cs z B;by_cases e:∃w,U.ok w
 .exact h e Stop m b k cs z B
 .exact .priv ⟨rfl,λ w ok=>absurd ⟨w,ok⟩ e⟩
def ed{T:Type}{S:Sys P T}{fn:FuncId}{ro:Option Nat}{ops:Array Oper}{todo:List Nat}{Q:Ex->Act->Qa T->Prop}{a:Act}{U:Qa T}(h:(∃w,U.ok w)->QU S fn ro ops todo Q a U):QU S fn ro ops todo Q a U:=by
 intro Stop m b k cs z B;by_cases e:∃w,U.ok w
 .exact h e Stop m b k cs z B
 .exact .priv ⟨rfl,λ w ok=>absurd ⟨w,ok⟩ e⟩
def Qb.make{f:FuncId}{args:Array Value}{Q:Value->Qa Tk->Prop}{U:Qa Tk}{b:Nat}{M₁ M₂:List Qw}(w:U.tok=⟨0,.out,none⟩)(e:U.M=M₁++.obj b (.cells #[Q2 0 0,Qq 0] t (0,0))::M₂)
  (h:Qb (Zd P t N) f args Q { U with M:=M₁++M₂,tok:=⟨0,.par b [] false .run,none⟩ }):Qb (Zd P t N) f args Q U:=
 λ Stop m c cs k=>.syn (QD.make w e (h Stop m c cs k))
def HB{T:Type}{U:Qa T}{M':List Qw}(h:Perm U.M M'):Qx U { U with M:=M' }:=by
 refine⟨rfl,λ w ok=>⟨⟨ok.imm,λ r e=>ok.held r (h.mem_iff.2 e),(h.pairwise_iff (λ{x y}h=>Qw.apart_symm h)).1 ok.apart,λ r e=>ok.sep r (h.mem_iff.2 e)⟩,λ l b=>?_,λ l b=>?_⟩⟩
 .rw[Q8]at b ⊢;obtain⟨r,e,b⟩:=b;exact⟨r,h.mem_iff.2 e,b⟩
 .rw[Qz]at b ⊢;exact b.imp (λ⟨r,e,b⟩=>⟨r,h.mem_iff.2 e,b⟩) id
def Qa.base(U:Qa Tk):Qa Tk:=⟨U.I,[],⟨0,.out,none⟩⟩
def Qa.sub(U U':Qa Tk):Prop:=∀b o,U.I b=some o->U'.I b=some o
end Go.TM
namespace Go.TM
attribute [local simp] Nat.mul_one
variable{T:Type}{P:Program}{S:Sys P T}{U:Qa T}{f:Fm}{K:Value->Qa T->Prop}
def OL{m e:Nat}{d:TypeDesc}(E:P.underlying e=some d)(F:W_ d=true){xs ys:Array Value}{Q:Option Bool×PUnit->Qa T->Prop}:∀(n j:Nat)(vs ws:List Value),vs.length=n->ws.length=n->(∀v∈vs,Xf d v=true)->(∀v∈ws,Xf d v=true) ->
  (∀i v,vs[i]?=some v->xs[j+i]?=some v)->(∀i v,ws[i]?=some v->ys[j+i]?=some v)->Q (if ZG vs ws then none else some false,()) U ->
  Qr P (forIn (List.range' j n 1) ((none,()):Option Bool×PUnit) λ i _=>do
    let a <- part e xs (i*1)
    let b <- part e ys (i*1)
    let c <- Op.equalIn (m+1) e a b
    if(!c)=true then pure (ForInStep.done (some false,()))else pure (ForInStep.yield (none,()))) Q U
 |0,j,vs,ws,H,I,_,_,_,_,h=>by
  obtain rfl:=length_eq_zero_iff.1 H;obtain rfl:=length_eq_zero_iff.1 I;exact h
 |n+1,j,v::vs,w::ws,H,I,z,B,N,S,h=>by
  rw[range'_succ,K7];simp only[Qf,Nat.mul_one];have K:xs[j]?=some v:=by simpa using N 0 v rfl
  have L:ys[j]?=some w:=by simpa using S 0 w rfl
  rw[GY E F K,GY E F L,Mf E F (z v (mem_cons_self ..)) (B w (mem_cons_self ..))];cases M:Gp v w with
  |false=>simpa[M,ZG,Qk]using h
  |true=>
   simp only[Bool.not_true,Bool.false_eq_true,if_false,Qk]
   have:=OL E F (m:=m) (xs:=xs) (ys:=ys) (Q:=Q) n (j+1) vs ws (by simpa using H) (by simpa using I) (λ v h=>z v (mem_cons_of_mem _ h)) (λ v h=>B v (mem_cons_of_mem _ h))
    (λ i v G=>by have:=N (i+1) v G;rwa [show j+(i+1)=j+1+i by omega]at this)
    (λ i v G=>by have:=S (i+1) v G;rwa [show j+(i+1)=j+1+i by omega]at this) (by simpa[M,ZG]using h)
   simpa only[Nat.mul_one,Qf]using this
def uJ{t X Y e len:Nat}{d:TypeDesc}{w:TypeInfo}(N:P.underlying t=some (.array len e))(I:P.underlying e=some d)(M:W_ d=true)(b:P.info? e=some w)(E:w.size=1)(L:P.eqGuardType P.depth t=false)
  {x y:Operand} {vs ws:List Value} (V:Zo f x=.agg vs.toArray) (W:Zo f y=.agg ws.toArray) (z:vs.length=len) (B:ws.length=len) (Q:∀v∈vs,Xf d v=true) (T:∀v∈ws,Xf d v=true) (h:K (.bool (ZG vs ws)) U) :
  OX S (.raw { dst:=none,op:=.binOp .eql t x y X,type:=Y,pos := "", after:=#[],guard:=none }) f K U:=by
 intro a' H;simp only[execOp,H,V,W];refine rq ?_;rw[Qf];refine S8 L ?_;simp only[binOp,Qf];have G:Op.equal t (.agg vs.toArray) (.agg ws.toArray)=Op.equalIn (9998+1+1) t (.agg vs.toArray) (.agg ws.toArray):=rfl;rw[G,Op.equalIn];simp only[Qf,Zk N,Jj b,E,Std.Legacy.Range.forIn_eq_forIn_range'];refine OL I M _ 0 vs ws (by simpa[Std.Legacy.Range.size]using z) (by simpa[Std.Legacy.Range.size]using B) Q T (λ i v b=>by simpa using b) (λ i v b=>by simpa using b) ?_;cases F:ZG vs ws <;> simpa[F,Qk]using⟨U,.refl _,by simpa[F]using h⟩
def Oa{b off:Nat}{e:TypeId}{M₀:List Qw}{Q:Qa T->Prop}(X:List Qw):∀(vs:List Value)(i:Nat)(c:Array Value)(U:Qa T),U.M=X++.obj b (.cells c e (0,0))::M₀->(∀v∈vs,v.single=true)->off+i+vs.length<=c.size ->
  Q { U with M:=X++.obj b (.cells (JW c off vs i) e (0,0))::M₀ }->ZB ⟨b,off,none⟩ vs i Q U
 |[],i,c,U,h,_,_,w=>by
  have:U={ U with M:=X++.obj b (.cells c e (0,0))::M₀ }:=by rw[<- h]
  show Q U;rw[this];exact w
 |v::vs,i,c,U,h,z,E,w=>by
  simp only[length_cons]at E;refine⟨z v (mem_cons_self ..),X++.obj b (.cells (c.setIfInBounds (off+i) v) e (0,0))::M₀,?_,?_⟩
  .rw[h,Qp];have B:H3 ⟨b,off+i,none⟩ v (.obj b (.cells c e (0,0))::M₀) (.obj b (.cells (c.setIfInBounds (off+i) v) e (0,0))::M₀):=.obj (a:=⟨b,off+i,none⟩) rfl (by show off+i<c.size;omega);clear h w
   induction X with
   |nil=>exact B
   |cons r X G=>exact .there G
  .exact Oa X vs (i+1) _ _ rfl (λ v F=>z v (mem_cons_of_mem _ F)) S3 w
def Px{b i:Nat}{e:TypeId}{c:Array Value}{v:Value}{M₀:List Qw}{Q:Qa T->Prop}(X:List Qw)(z:U.M=X++.obj b (.cells c e (0,0))::M₀)(E:i<c.size)(B:v.single=true)
  (h:Q { U with M:=X++.obj b (.cells (c.setIfInBounds i v) e (0,0))::M₀ }):ZB ((Addr.mk b 0 none).add i) [v] 0 (λ U'=>∃w,Qx U' w/\Q w) U:=by
 rw[Qp];refine Oa X [v] 0 c U z (by simpa using B) S3 ?_;simp only[JW,Nat.zero_add,Nat.add_zero];exact⟨_,.refl _,h⟩
def VV{b:Nat}{e:TypeId}{c:Array Value}{vs:List Value}{M₀:List Qw}{Q:Qa T->Prop}(X:List Qw)(B:U.M=X++.obj b (.cells c e (0,0))::M₀)(w:c.size=vs.length)(E:∀v∈vs,v.single=true)
  (h:Q { U with M:=X++.obj b (.cells vs.toArray e (0,0))::M₀ }):ZB ⟨b,0,none⟩ vs 0 (λ U'=>∃z,Qx U' z/\Q z) U:=by
 refine Oa X vs 0 c U B E O1 ?_;rw[KM w];exact⟨_,.refl _,h⟩
def Q9{b:Nat}{e:TypeId}{vs:List Value}{M₀:List Qw}(X:List Qw)(h:U.M=X++.obj b (.cells vs.toArray e (0,0))::M₀):Z6 U ⟨b,0,none⟩ vs:=by
 intro i v w;rw[Qp];refine⟨rfl,.inl ⟨_,_,_,.inr (by rw[h];simp;exact .inr (.inl ⟨rfl,rfl,rfl⟩)),?_⟩⟩;simpa using w
abbrev setA(s:Nat->Bool):Value:=.agg #[.bool (s 0),.bool (s 1),.bool (s 2),.bool (s 3),.bool (s 4),.bool (s 5),.bool (s 6),.bool (s 7)]
def Hx(s:Nat->Bool)(j:Nat)(v:Bool):Nat->Bool:=λ k=>if k=j then v else s k
end Go.TM
namespace Go.TM
variable{T:Type}{P:Program}{S:Sys P T}{U U':Qa T}
def Qa.frz(U:Qa T):Qa T:=⟨U.I,[],U.tok⟩
def Qa.lg.frz(h:U.lg U'):U.frz.lg U':=⟨h.imm,⟨U'.M,by simp[Qa.frz]⟩,h.tok⟩
def Qm:U.frz.lg U:=(⟨λ _ _ h=>h,⟨[],rfl⟩,rfl⟩:U.lg U).frz
def Dm{U b e:Qa T}(h:U.frz.lg b)(k:b.le e):U.frz.lg e:=h.trans k.lg
def Qa.lg.frz2(h:U.lg U'):U.frz.lg U'.frz:=⟨h.imm,⟨[],rfl⟩,h.tok⟩
def Qb.grown{f:FuncId}{args:Array Value}{R:Value->Qa T->Prop}(B:∀v e w,e.lg w->R v e->R v w)(h:Qb S f args (λ v U'=>R v U'.frz/\U.lg U') U):Qb S f args (λ v U'=>R v U'.frz/\U.le U') U:=
 h.post λ v U'⟨E,z⟩=>let ⟨U'',h1,h2,h3⟩:=z.shift;⟨U'',h1,B v _ _ (⟨λ b o h=>by show U''.I b=_;rw[h3];exact h,⟨[],rfl⟩,h2.tok.trans z.tok.symm⟩:U'.frz.lg U''.frz) E,h2⟩
def J0(U:Qa T)(v:Value)(l:List Int):Prop:=∃a cap,v=.slice a l.length cap/\Z0 U a l.length l
def J0.lg{v:Value}{l:List Int}(h:J0 U v l)(b:U.lg U'):J0 U' v l:=let ⟨a,c,e,h⟩:=h;⟨a,c,e,h.lg b⟩
def Acc.freeze{e n:Nat}{v:Value}{cs:List Value}(K:WN U')(h:Acc e n v cs U'.M U.M)(B:∀x F,U.I x=some F->U'.I x=some F)(E:U'.tok=U.tok) :
  ∃U'',Qx U' U''/\U.le U''/\∃a len cap,v=.slice a len cap/\cs.length=len*n/\Src U''.frz a cs/\(∀w,a=some w->w.spot=none)/\(∀w,a=some w->w.off=0):=by
 rcases h with⟨rfl,rfl,z⟩|⟨b,c,len,cap,rfl,G,N,P,z,H⟩
 .exact⟨U',.refl _,⟨B,z,E⟩,none,0,0,rfl,S1,.inl ⟨rfl,rfl⟩,S1,S1⟩
 .obtain⟨U'',k1,k2,k3⟩:=MF K z B rfl E;refine⟨U'',k1,k2,some ⟨b,0,none⟩,len,cap,rfl,G,.inr ⟨_,rfl,?_⟩,by rintro _⟨⟩;rfl,by rintro _⟨⟩;rfl⟩;intro i x L;rw[Qp];exact⟨rfl,.inl ⟨c,e,(0,0),.inl k3,by simpa using H i x L⟩⟩
def YS{a:Option Addr}{l:List Int}(h:Src U a (l.map λ n=>.int .i64 n))(e:∀b,a=some b->b.spot=none):Z0 U a l.length l:=by
 refine⟨rfl,λ i x z=>?_⟩;rcases h with⟨_,w⟩|⟨b,rfl,B⟩
 .rw[map_eq_nil_iff]at w;subst w;simp at z
 .exact⟨b,rfl,e b rfl,by rw[Nat.mul_one];exact B i _ (by simp[z])⟩
def Qb.ints{f:FuncId}{args:Array Value}{e:Nat}{l:List Int}(h:Qb S f args (λ v U'=>Acc e 1 v (l.map λ n=>.int .i64 n) U'.M U.M/\(∀x B,U.I x=some B->U'.I x=some B)/\U'.tok=U.tok) U) :
  Qb S f args (λ v U'=>J0 U'.frz v l/\U.le U') U:=by
 refine h.sep λ v U' G⟨F,E,H⟩=>?_;obtain⟨U'',K,L,a,len,cap,rfl,z,b,w,_⟩:=F.freeze G E H;refine⟨U'',K,⟨a,cap,?_,YS b w⟩,L⟩;simp at z;rw[z]
end Go.TM
namespace Go.TM
variable{T:Type}{P:Program}{S:Sys P T}{U:Qa T}{f:Fm}{K:Value->Qa T->Prop}
def NW(P:Program)(t len:Nat):Bool:=
 match P.underlying t with
 |some (.array b e)=>decide (b=len)&&(match P.underlying e with|some .bool=>true|_=>false)&&(match P.info? e with|some h=>decide (h.size=1)|none=>false)&&!P.eqGuardType P.depth t
 |_=>false
structure Dx(P:Program)(t len:Nat):Prop where
 h:∃e inf,P.underlying t=some (.array len e)/\P.underlying e=some .bool/\P.info? e=some inf/\inf.size=1/\P.eqGuardType P.depth t=false
def Dx.of{t len:Nat}(h:NW P t len=true):Dx P t len:=by
 unfold NW at h;split at h
 .rename_i len' e hu;simp only[Bool.and_eq_true,decide_eq_true_eq,Bool.not_eq_true']at h;obtain⟨⟨⟨rfl,w⟩,b⟩,z⟩:=h;split at w
  .rename_i hb;split at b
   .rename_i inf hi;exact⟨e,inf,hu,hb,hi,by simpa using b,z⟩
   .cases b
  .cases w
 .cases h
end Go.TM
namespace Go.TM
variable{T:Type}{P:Program}{S:Sys P T}{f:Fm}{U:Qa T}
structure Zv4(U:Qa T)(I:Nat->Qa T->Prop):Prop where
 le:∀k U1 U2,U1.le U2->I k U1->I k U2
 lg:∀k U1,I k U1->U.frz.lg U1
def Qa.on(U:Qa T)(A D:Qw):Qa T:={ U with M:=A::D::U.M }
end Go.TM
namespace Go.TM
variable{T:Type}{U U':Qa T}
def Zf.imI{b:Nat}{c:Array Value}(h:Zf U b c)(e:∀x o,U.I x=some o->U'.I x=some o):Zf U' b c:=let ⟨t,fr,h⟩:=h;⟨t,fr,e _ _ h⟩
end Go.TM
set_option linter.unusedSimpArgs false
namespace Go.TM
variable{T:Type}{P:Program}{S:Sys P T}{f:Fm}{K:Value->Qa T->Prop}{U:Qa T}
def Gu{κ:Type}(enc:κ->Value):∀(l:List (κ×Value))(j i:Nat)(p:κ×Value),l[i]?=some p->(Qs enc l j)[i]?=some ⟨enc p.1,p.2,j+i⟩
 |[],_,_,_,h=>by simp at h
 |q::l,j,0,p,h=>by
  simp at h;subst h;simp[Qs]
 |q::l,j,i+1,p,h=>by
  simp only[Qs,getElem?_cons_succ];rw[Gu enc l (j+1) i p (by simpa using h)];congr 2;omega
def Ti{κ:Type}(enc:κ->Value):∀(l:List (κ×Value))(j:Nat)(e:MapEntry),e∈Qs enc l j->∃i p,l[i]?=some p/\e=⟨enc p.1,p.2,j+i⟩
 |[],_,e,h=>by cases h
 |q::l,j,e,h=>by
  simp only[Qs,mem_cons]at h;rcases h with rfl|h
  .exact⟨0,q,rfl,rfl⟩
  .obtain⟨i,p,h1,rfl⟩:=Ti enc l (j+1) e h;exact⟨i+1,p,by simpa using h1,by congr 1;omega⟩
def J1(b n:Nat)(seen:Array Nat):Obj:=.mapIter (some b) n seen n
def TX{κ:Type}{enc:κ->Value}{t F H G b:Nat}{l:List (κ×Value)}{x:Operand}(B:P.underlying t=some (.map F H))(E:Zo f x=.map (some b))(w:U.has b (Qt enc l))
  (h:∀r,U.free r->K (.pointer (some ⟨r,0,none⟩)) (U.put r (J1 b l.length #[]))) :
  OX S (.raw { dst:=none,op:=.range t x,type:=G,pos := "", after:=#[],guard:=none }) f K U:=by
 intro a' e;simp only[execOp,e,E];refine rq ?_;simp only[Instr.range,Qf,Zk B,getObj];refine⟨_,w,rfl,rfl,?_⟩;simp only[Qr,Qt,Qk,Qf,newObj];exact λ r z=>⟨_,.refl _,h r z⟩
def Dc{κ:Type}{enc:κ->Value}{ty b r:Nat}{l:List (κ×Value)}{seen:Array Nat}{x:Operand}(M':Obj->List Qw)(hx:Zo f x=.pointer (some ⟨r,0,none⟩))(hm:U.has b (Qt enc l))
  (hu:∀o,J7 r o (J1 b l.length seen) U.M (M' o))
  (h0:(∀i,i<l.length->i∈seen)->K (.tuple #[.bool false]) U)
  (h1:∀(i:Nat)p,l[i]?=some p->i∉seen->K (.tuple #[.bool true,enc p.1,p.2]) { U with M:=M' (J1 b l.length (seen.push i)) }) :
  OX S (.raw { dst:=none,op:=.next x false,type:=ty,pos := "", after:=#[],guard:=none }) f K U:=by
 intro a' ha;simp only[execOp,ha,hx];refine rq ?_;unfold Instr.next;simp only[Qf,getObj];refine⟨_,.inr (hu (J1 b l.length seen)).mem,rfl,rfl,?_⟩;simp only[Qr,J1,Qk,Qf];refine⟨_,hm,rfl,rfl,?_⟩
 have h:∀e∈(Qs enc l 0).toArray,e.born<l.length:=λ e B=>by
  obtain⟨i,p,G,rfl⟩:=Ti enc l 0 e (by simpa using B);have:=(List.getElem?_eq_some_iff.1 G).1;show 0+i<_;omega
 simp only[Qr,Qt,Qk,Qf];generalize F:(Qs enc l 0).toArray=es at h
 have hc:(!seen.isEmpty&&!es.isEmpty&&es.all λ x=>decide (x.born ≥ l.length))=false:=by
  cases B:es.isEmpty with
  |true=>simp
  |false=>
   have:es.all (λ x=>decide (x.born ≥ l.length))=false:=by
    rw[Array.all_eq_false'];rw[Array.isEmpty_eq_false_iff]at B;obtain⟨e,H⟩:=Array.exists_mem_of_ne_empty _ B;exact⟨e,H,by have:=h e H;simp;omega⟩
   rw[this];simp
 rw[hc];simp only[Bool.false_eq_true,if_false];generalize w:es.filter (λ e=>!seen.contains e.born)=left
 have Q:left.filter (λ x=>decide (x.born<l.length))=left:=Array.filter_eq_self.2 λ e B=>by
  rw[<- w]at B;have:=h e (Array.mem_filter.1 B).1;simpa using this
 have N:left.filter (λ x=>decide (x.born ≥ l.length))=#[]:=Array.filter_eq_empty_iff.2 λ e B=>by
  rw[<- w]at B;have:=h e (Array.mem_filter.1 B).1;simp;omega
 simp only[Q,N,Array.append_empty];cases E:left.isEmpty with
 |true=>
  have T:left=#[]:=by simpa using E
  subst T;simp only[if_true,Array.map_empty,Array.append_empty];refine⟨_,.refl _,h0 λ i G=>?_⟩;have V:l[i]?=some l[i]:=getElem?_eq_getElem G;have I:=mem_of_getElem? (Gu enc l 0 i _ V);have W:(⟨enc l[i].1,l[i].2,0+i⟩:MapEntry)∈es:=by rw[<- F];simpa using I
  have:=Array.filter_eq_empty_iff.1 w _ W;simpa using this
 |false=>
  have L:0<left.size:=by
   rw[Array.isEmpty_eq_false_iff]at E;exact Array.size_pos_iff.2 E
  have key:∀j,j<left.size->Qr P (match(#[]++left.map some)[j]? with
    |some (some e)=>do
     setObj r (.mapIter (some b) l.length (seen.push e.born) l.length)
     pure (.tuple #[.bool true,e.key,e.val])
    |some none=>pure (.tuple #[.bool false])
    |none=>stuck "Next: no such candidate") (λ v U'=>∃Z,Qx U' Z/\K v Z) U:=by
   intro j hj;have h2:(#[]++left.map some)[j]?=some (some left[j]):=by simp[hj]
   rw[h2];have z:left[j]∈left:=Array.getElem_mem hj;generalize left[j]=e at z;rw[<- w,Array.mem_filter]at z;obtain⟨z,X⟩:=z;rw[<- F]at z;obtain⟨i,p,G,rfl⟩:=Ti enc l 0 e (by simpa using z);simp only[Qf,setObj,Qr,Qk];have h3:=h1 i p G (by simpa using X);rw[<- Nat.zero_add i]at h3;exact⟨_,_,hu _,rfl,rfl,rfl,_,.refl _,h3⟩
  simp only[Bool.false_eq_true,if_false];rw[Qf];show(if(Question.mapNext (#[]++Array.map some left).size).forced then _ else _);have Y:(#[]++Array.map some left).size=left.size:=S1
  split
  .exact key 0 L
  .intro t;refine key _ ?_;show t % (#[]++Array.map some left).size<left.size;rw[Y];exact Nat.mod_lt _ L
def TW{κ:Type}{enc:κ->Value}{Q b r i:Nat}{l:List (κ×Value)}{seen:Array Nat}{p:κ×Value}{x:Operand}(P:Zo f x=.pointer (some ⟨r,0,none⟩))(I:U.has b (Qt enc l))(N:U.has r (J1 b l.length (seen.push i)))
  (L:l[i]?=some p) (h:K (.tuple #[enc p.1,p.2]) U) :
  OX S (.raw { dst:=none,op:=.entry x,type:=Q,pos := "", after:=#[],guard:=none }) f K U:=by
 intro a' G;simp only[execOp,G,P];refine rq ?_;unfold Instr.entry;simp only[Qf,getObj];refine⟨_,N,rfl,rfl,?_⟩;simp only[Qr,J1,Qk,Qf,Array.back?_push];refine⟨_,I,rfl,rfl,?_⟩;simp only[Qr,Qt,Qk,Qf,bne_self_eq_false,Bool.false_eq_true,if_false]
 have e:(Qs enc l 0).toArray.find? (λ x=>x.born==i)=some ⟨enc p.1,p.2,i⟩:=by
  rw[find?_toArray,find?_eq_some_iff_getElem];have E:=Gu enc l 0 i p L;rw[Nat.zero_add]at E;obtain⟨w,H⟩:=List.getElem?_eq_some_iff.1 E;refine⟨S1,i,w,H,λ j T=>?_⟩;obtain⟨q,M⟩:∃q,l[j]?=some q:=⟨_,getElem?_eq_getElem (by rw[I0]at w;omega)⟩;have B:=Gu enc l 0 j q M;obtain⟨F,z⟩:=List.getElem?_eq_some_iff.1 B;rw[z];simp;omega
 rw[e];exact⟨_,.refl _,h⟩
def Xe{κ:Type}[DecidableEq κ](k:κ)(z:Value)(l:List (κ×Value)):List (κ×Value):=if(lk k l).isSome then l else l++[(k,z)]
def H6{κ:Type}[DecidableEq κ](k:κ)(l:List (κ×Value)):Nat:=match QM k l 0 with|some (i,_)=>i|none=>l.length
def Lb{κ:Type}[DecidableEq κ]{enc:κ->Value}{k:κ}:∀{l:List (κ×Value)}{i j n:Nat}{x:Value},QM k l i=some (n,x)->i<=n/\(∃e,(Qs enc l j)[n-i]?=some e/\e.key=enc k/\e.born=j+(n-i)) /\
   (Qs enc l j).modify (n-i) (λ e=>{ e with key:=enc k })=Qs enc l j
 |[],_,_,_,_,h=>by cases h
 |p::l,i,j,n,x,h=>by
  simp only[QM]at h;split at h
  .rename_i e;cases h;refine⟨Nat.le_refl _,?_,?_⟩
   .simp[Qs,e]
   .simp[Qs,e]
  .rename_i e;obtain⟨F,⟨y,w,z,B⟩,E⟩:=Lb (enc:=enc) (j:=j+1) h;have b:n-i=(n-(i+1))+1:=O1
   refine⟨O1,?_,?_⟩
   .rw[b];exact⟨y,by simpa[Qs]using w,z,by rw[B];omega⟩
   .rw[b];simp only[Qs,modify_succ_cons,E]
def I7{κ:Type}[DecidableEq κ]{enc:κ->Value}{t L N ty:TypeId}{b:Nat}{l:List (κ×Value)}{k:κ}{z:Value}{x y:Operand}{M':List Qw}(E:WK T P L enc)(Z:P.underlying t=some (.map L N))(hz:Xq P N=some z)
  (hx:Zo f x=.map (some b)) (hy:Zo f y=enc k) (B:J7 b (Qt enc (Xe k z l)) (Qt enc l) U.M M') (h:K (.tuple #[(lk k l).getD z,.int .i64 (H6 k l)]) { U with M:=M' }) :
  OX S (.raw { dst:=none,op:=.mapEntry t x y,type:=ty,pos := "", after:=#[],guard:=none }) f K U:=by
 intro a' W;obtain⟨aa,Y,F⟩:=PI hz;simp only[execOp,W,hx,hy];refine rq ?_;unfold Instr.mapEntry;simp only[Qf,Zk Z,getObj];refine⟨_,.inr B.mem,rfl,rfl,?_⟩;simp only[Qr,Qt,Qk,Qf];refine E.chk _ _ ?_;refine E.find k l ?_;unfold H6 lk at h;unfold Xe lk at B;cases e:QM k l 0 with
 |none=>
  simp only[e,Option.map_none,Option.getD_none,Option.isSome_none,Bool.false_eq_true,if_false]at h B;simp only[Qf,XM Y F,setObj,Qr,Qk];refine⟨Qt enc l,M',?_,rfl,rfl,rfl,⟨_,.refl _,h⟩⟩
  have:Obj.map ((Qs enc l 0).toArray.push { key:=enc k,val:=z,born:=l.length }) (l.length+1)=Qt enc (l++[(k,z)]):=by
   simp only[Qt,length_append,length_cons,length_nil,OZ,Qs,Nat.zero_add];congr 1;apply Array.ext';simp
  rw[this];exact B
 |some p=>
  obtain⟨n,w⟩:=p;simp only[e,Option.map_some,Option.getD_some,Option.isSome_some,if_true]at h B;obtain⟨h1,⟨Q,G,V,H⟩,I⟩:=Lb (enc:=enc) (j:=0) e;rw[Nat.sub_zero]at G H I;have X:(Qs enc l 0).toArray[n]?=some Q:=by simpa using G
  simp only[X,Option.map_some,Option.getD_some,V,Qf];unfold Instr.keyThatStays;rw[E.bits k];simp only[if_true,Qk,setObj,Qr,H];refine⟨Qt enc l,M',?_,rfl,rfl,rfl,⟨_,.refl _,?_⟩⟩
  .have:Obj.map ((Qs enc l 0).toArray.modify n λ e=>{ e with key:=enc k }) l.length=Qt enc l:=by
    simp only[Qt];congr 1;apply Array.ext';rw[Array.toList_modify];exact I
   rw[this];exact B
  .rw[Nat.zero_add];exact h
def I4{κ:Type}(enc:κ->Value)(v:Value):∀(l:List (κ×Value))(j n:Nat),(Qs enc l j).modify n (λ e=>{ e with val:=v })=Qs enc (l.modify n λ p=>(p.1,v)) j
 |[],_,_=>by simp[Qs]
 |p::l,j,0=>by simp[Qs]
 |p::l,j,n+1=>by
  simp only[Qs,modify_succ_cons];rw[I4 enc v l (j+1) n]
def zB{κ:Type}{enc:κ->Value}{t X:TypeId}{b n:Nat}{l:List (κ×Value)}{v:Value}{x s u:Operand}{M':List Qw}
  (W:Zo f x=.map (some b)) (T:Zo f s=.int .i64 n) (N:n<l.length) (V:Zo f u=v) (G:J7 b (Qt enc (l.modify n λ p=>(p.1,v))) (Qt enc l) U.M M') (h:K undef { U with M:=M' }) :
  OX S (.raw { dst:=none,op:=.entryStore t x s u,type:=X,pos := "", after:=#[],guard:=none }) f K U:=by
 intro a' H;simp only[execOp,H,W,T,V];refine ru ?_;unfold Instr.entryStore;simp only[Qf,getObj];refine⟨_,.inr G.mem,rfl,rfl,?_⟩;simp only[Qr,Qt,Qk,Qf,asInt,asIntOf]
 have w:(Qs enc l 0).toArray.findIdx? (λ e=>(e.born:Int)==(n:Int))=some n:=by
  rw[findIdx?_toArray,findIdx?_eq_some_iff_getElem];have P:l[n]?=some l[n]:=getElem?_eq_getElem N;have L:=Gu enc l 0 n _ P;obtain⟨E,I⟩:=List.getElem?_eq_some_iff.1 L;refine⟨E,by rw[I];simp,λ j Y=>?_⟩;obtain⟨q,Q⟩:∃q,l[j]?=some q:=⟨_,getElem?_eq_getElem O1⟩;have B:=Gu enc l 0 j q Q;obtain⟨F,z⟩:=List.getElem?_eq_some_iff.1 B;rw[z];simp;omega
 rw[w];simp only[setObj,Qr];refine⟨Qt enc l,M',?_,rfl,rfl,rfl,⟨_,.refl _,h⟩⟩
 have:Obj.map ((Qs enc l 0).toArray.modify n λ e=>{ e with val:=v }) l.length=Qt enc (l.modify n λ p=>(p.1,v)):=by
  simp only[Qt,length_modify];congr 1;apply Array.ext';rw[Array.toList_modify];exact I4 enc v l 0 n
 rw[this];exact G
def dH{κ:Type}[DecidableEq κ](k:κ)(z v:Value)(l:List (κ×Value)):(Xe k z l).modify (H6 k l) (λ p=>(p.1,v))=ZC k v l/\H6 k l<(Xe k z l).length:=by
 have key:∀(l:List (κ×Value))(i:Nat),(match QM k l i with
   |some (n,_)=>i<=n/\n-i<l.length/\l.modify (n-i) (λ p=>(p.1,v))=ZC k v l
   |none=>ZC k v l=l++[(k,v)]):=by
  intro l
  induction l with
  |nil=>intro i;rfl
  |cons p l H=>
   intro i;simp only[QM];by_cases e:k=p.1
   .simp[e,ZC]
   .rw[if_neg e];have:=H (i+1);cases b:QM k l (i+1)with
    |none=>
     rw[b]at this;simp only[ZC,if_neg e]at this ⊢;rw[this];rfl
    |some q=>
     obtain⟨n,w⟩:=q;rw[b]at this;simp only at this ⊢;obtain⟨I,K,F⟩:=this;have G:n-i=(n-(i+1))+1:=O1
     refine⟨O1,S3,?_⟩;rw[G,modify_succ_cons,F];simp only[ZC,if_neg e]
 have h:=key l 0;unfold Xe H6 lk;cases b:QM k l 0 with
 |none=>
  rw[b]at h;simp only at h;simp only[Option.map_none,Option.isSome_none,Bool.false_eq_true,if_false,length_append,length_cons,length_nil];refine⟨?_,O1⟩;rw[h];apply ext_getElem?;intro i;rw[getElem?_modify];by_cases E:l.length=i
  .subst E;simp
  .simp only[if_neg E];by_cases B:i<l.length
   .rw[getElem?_append_left B,getElem?_append_left B];simp
   .rw[getElem?_eq_none S3,getElem?_eq_none S3];rfl
 |some q=>
  obtain⟨n,w⟩:=q;rw[b]at h;simp only[Nat.sub_zero]at h;simp only[Option.map_some,Option.isSome_some,if_true];exact⟨h.2.2,h.2.1⟩
end Go.TM
set_option linter.unusedSimpArgs false
namespace Go.TM
variable{T:Type}{P:Program}{S:Sys P T}{fn:FuncId}{ro:Option Nat}
inductive Xb(S:Sys P T)(ops:Array Oper)(rl:List Nat)(J:Qa T->Prop)(Fin:Act->Qa T->Prop):List Nat->(Qa T->Prop)->Act->Prop
 |nil {C a}:(∀U',C U'->Fin a U')->Xb S ops rl J Fin [] C a
 |un {i rest C a o}:i∉rl->ops[i]?=some o->Region.wanted o (yielded ops a.tmps)=false->Xb S ops rl J Fin rest C (a.put o.dst undef)->Xb S ops rl J Fin (i::rest) C a
 |det {i rest C a o} (v:Value):i∉rl->ops[i]?=some o->Region.wanted o (yielded ops a.tmps)=true ->
   (∀U',J U'->QL S o a (λ v' U2=>v'=v/\∃U1,Qx U2 U1/\U'.le U1) U')->Xb S ops rl J Fin rest C (a.put o.dst v)->Xb S ops rl J Fin (i::rest) C a
 |rel {i rest C a o} (F:Value->Qa T->Prop):i∈rl->(∀v,XX (F v))->(∀v U',F v U'->J U')->ops[i]?=some o->Region.wanted o (yielded ops a.tmps)=true ->
   (∀U',C U'->QL S o a (λ v' U2=>∃U1,Qx U2 U1/\F v' U1) U')->(∀v,(∃U',F v U')->Xb S ops rl J Fin rest (F v) (a.put o.dst v))->Xb S ops rl J Fin (i::rest) C a
section sound
variable{ops:Array Oper}{rl qs ts:List Nat}
structure XA(S:Sys P T)(ops:Array Oper)(rl qs:List Nat)(J:Qa T->Prop)(a_0:Act)(Fin:Act->Qa T->Prop)(listed:Array Bool)(ac:Act)(U:Qa T)
  (pre L:List Nat) (C:Qa T->Prop) (av:Act) (val:Nat->Value):Prop where
 split:qs=pre++L
 der:Xb S ops rl J Fin L C av
 mono:XX C
 inJ:∀U',C U'->J U'
 c:C U
 av:Jn ops val (·∈pre) a_0 av
 ac:Jn ops val (Li listed) a_0 ac
 sub:∀i,Li listed i->i∈pre
 size:listed.size=ops.size
 down:∀i,Li listed i->∀j∈W3 ops i,Li listed j
 rels:∀i∈pre,i∈rl->Li listed i
 pend:∀i∈pre,¬Li listed i->∃o ai p,qs[p]?=some i/\ops[i]?=some o/\Jn ops val (·∈qs.take p) a_0 ai /\
  ((Region.wanted o (yielded ops ai.tmps)=false/\val i=undef) \/
   (Region.wanted o (yielded ops ai.tmps)=true/\∀U',J U'->QL S o ai (λ v' U2=>v'=val i/\∃U1,Qx U2 U1/\U'.le U1) U'))
variable{J:Qa T->Prop}{a_0:Act}{Fin:Act->Qa T->Prop}{listed:Array Bool}{ac av:Act}{U:Qa T}{pre L:List Nat}{C:Qa T->Prop}{val:Nat->Value}
def XA.note(F:Jy ops [] qs ts){x:Nat}{rest:List Nat}(h:XA S ops rl qs J a_0 Fin listed ac U pre (x::rest) C av val)(v:Value) :
  Jn ops (ZW val x v) (·∈pre) a_0 av/\Jn ops (ZW val x v) (Li listed) a_0 ac /\
  (∀i∈pre,¬Li listed i->∃o w p,qs[p]?=some i/\ops[i]?=some o/\Jn ops (ZW val x v) (·∈qs.take p) a_0 w /\
   ((Region.wanted o (yielded ops w.tmps)=false/\ZW val x v i=undef) \/
    (Region.wanted o (yielded ops w.tmps)=true/\∀U',J U'->QL S o w (λ W P=>W=ZW val x v i/\∃L,Qx P L/\U'.le L) U'))):=by
 have K:=Vx F h.split;refine⟨h.av.val λ j z=>HM (λ e=>K (e▸z)),h.ac.val λ j z=>HM (λ e=>K (e▸h.sub j z)),λ i G T=>?_⟩;obtain⟨o,w,p,M,V,E,Q⟩:=h.pend i G T;have H:i≠x:=λ e=>K (e▸G);refine⟨o,w,p,M,V,E.val λ j z=>HM λ e=>?_,by rw[HM H];exact Q⟩;subst e;obtain⟨p',b⟩:=mem_iff_getElem?.1 z;rw[getElem?_take]at b;split at b
 .rename_i hlt;have X:=G9 F (WY (ts:=ts) b) (WY (Xo h.split).2);obtain⟨N,B⟩:=mem_iff_getElem?.1 G;have I:N<pre.length:=(List.getElem?_eq_some_iff.1 B).1;have Y:=G9 F (WY (ts:=ts) M) (WY (ts:=ts) (p:=N) (i:=i) (by rw[h.split,getElem?_append_left I];exact B));omega
 .cases b
def XA.adv(E:Jy ops [] qs ts){x:Nat}{rest:List Nat}(h:XA S ops rl qs J a_0 Fin listed ac U pre (x::rest) C av val){v:Value}{o:Oper}(F:ops[x]?=some o)(z:x∉rl)
  (I:Xb S ops rl J Fin rest C (av.put o.dst v))
  (K:(Region.wanted o (yielded ops av.tmps)=false/\v=undef)\/(Region.wanted o (yielded ops av.tmps)=true/\∀U',J U'->QL S o av (λ N H=>N=v/\∃B,Qx H B/\U'.le B) U')) :
  XA S ops rl qs J a_0 Fin listed ac U (pre++[x]) rest C (av.put o.dst v) (ZW val x v):=by
 obtain⟨G,L,M⟩:=h.note E v;have w:=Jn.put E G F;rw[G6]at w;refine⟨by rw[h.split];simp,I,h.mono,h.inJ,h.c,?_,L,λ i b=>mem_append_left _ (h.sub i b),h.size,h.down,?_,?_⟩
 .have e:(λ j=>j∈pre\/j=x)=(·∈pre++[x]):=by funext j;simp
  rw[<- e];exact w
 .intro i b hr;rcases mem_append.1 b with b|b
  .exact h.rels i b hr
  .simp at b;subst b;exact absurd hr z
 .intro i b hl;rcases mem_append.1 b with b|b
  .exact M i b hl
  .simp at b;subst b;refine⟨o,av,pre.length,(Xo h.split).2,F,by rw[(Xo h.split).1];exact G,?_⟩;rw[G6];exact K
def Oj(ops:Array Oper)(rl qs:List Nat):Prop:=∀p x,qs[p]?=some x->x∈rl->∀i∈qs.drop (p+1),i∉rl->∃r∈qs.drop p,r∈rl/\JC ops r i
def XA.reach(Q:Jy ops [] qs ts)(H:Oj ops rl qs){i:Nat}(w:i∈qs)(hr:∀j∈W3 ops i,Li listed j) :
  ∀(L pre:List Nat)(C:Qa T->Prop)(av:Act)(val:Nat->Value),XA S ops rl qs J a_0 Fin listed ac U pre L C av val->(i∈rl->(L.filter λ x=>rl.contains x).head?=some i) ->
   ∃B M C' N K,XA S ops rl qs J a_0 Fin listed ac U B M C' N K/\(M.filter λ x=>rl.contains x)=(L.filter λ x=>rl.contains x)/\(i∈B\/∃rest,M=i::rest/\i∈rl):=by
 intro L
 induction L with
 |nil=>
  intro pre C av val h _;exact⟨pre,[],C,av,val,h,rfl,.inl (by have:=h.split;simp at this;exact this▸w)⟩
 |cons x rest ih=>
  intro pre C av val h b;by_cases E:x∈rl
  .by_cases e:x=i
   .subst e;exact⟨pre,_,C,av,val,h,rfl,.inr ⟨rest,rfl,E⟩⟩
   .by_cases hpre:i∈pre
    .exact⟨pre,_,C,av,val,h,rfl,.inl hpre⟩
    .exfalso
     have V:i∈rest:=by
      rw[h.split]at w;simp at w;rcases w with w|w|w
      .exact absurd w hpre
      .exact absurd w.symm e
      .exact w
     by_cases z:i∈rl
     .have:=b z;rw[filter_cons,if_pos (by simpa using E)]at this;simp at this;exact e this
     .obtain⟨r,hr1,hr2,hb⟩:=H pre.length x (Xo h.split).2 E i (by rw[h.split];simp[V]) z;have Y:=h.sub r (Wg h.down hb hr);rw[h.split]at hr1;simp at hr1;have I:=(nodup_append.1 Q.nodup).1;rw[h.split]at I;exact(nodup_append.1 I).2.2 r Y r (by simpa using hr1) rfl
  .have hfil:((x::rest).filter λ x=>rl.contains x)=rest.filter λ x=>rl.contains x:=by rw[filter_cons,if_neg (by simpa using E)]
   rw[hfil]at b ⊢;have G:=h.der;cases G with
   |un _ W Z P=>exact ih _ _ _ _ (h.adv Q W E P (.inl ⟨Z,rfl⟩)) b
   |det v _ W Z X P=>exact ih _ _ _ _ (h.adv Q W E P (.inr ⟨Z,X⟩)) b
   |rel F V=>exact absurd V E
def sM(W:Jy ops [] qs ts)(ax:Oj ops rl qs)(a6:∀i∈ts,i∉rl){Q:Ex->Act->Qa T->Prop}:∀(r t:Nat)(listed:Array Bool)(ac:Act)(U:Qa T)(pre L:List Nat)(C:Qa T->Prop)(av:Act)(val:Nat->Value),
  XA S ops rl qs J a_0 (λ a U=>QU S fn ro ops ts Q a U) listed ac U pre L C av val->(qs.filter λ i=>!listed.getD i false).length=r ->
  ((Region.linearise.go .any ops (r+ts.length) t listed []).filter λ x=>rl.contains x)=(L.filter λ x=>rl.contains x) ->
  QU S fn ro ops (Region.linearise.go .any ops (r+ts.length) t listed []) Q ac U:=by
 intro r
 induction r with
 |zero=>
  intro t listed ac U pre L C av val h hr _
  have aa:∀i∈qs,Li listed i:=by
   intro i hi;have:=filter_eq_nil_iff.1 (length_eq_zero_iff.1 hr) i hi;simpa[Li]using this
  have hL:L=[]:=by
   cases L with
   |nil=>rfl
   |cons x rest=>exact absurd (h.sub x (aa x (by rw[h.split];simp))) (Vx W h.split)
  subst hL;have G:pre=qs:=by have:=h.split;simp at this;exact this.symm
  subst G;have ab:=h.der;cases ab with
  |nil ap=>
   have e:av=ac:=h.av.eq h.ac λ j=>⟨aa j,h.sub j⟩;have:=ap U h.c;rw[e]at this;rw[Nat.zero_add,Ng W ts.length 0 t listed O1 h.size λ i=>?_]
   .simpa using this
   .rw[Nat.add_zero,take_left']
    .exact⟨h.sub i,aa i⟩
    .rfl
 |succ r ih=>
  intro t listed ac U pre L C av val h hr E;obtain⟨q,hq⟩:∃q,q∈qs.filter λ i=>!listed.getD i false:=exists_mem_of_length_pos O1;have a0:=(mem_filter.1 hq).1;have az:¬Li listed q:=by have:=(mem_filter.1 hq).2;simpa[Li]using this
  obtain⟨pq,a4⟩:=mem_iff_getElem?.1 a0;obtain⟨y,hy⟩:=KC W h.size _ _ (WY (ts:=ts) a4) az;obtain⟨i,hi,t',a2⟩:=YT (k:=r+ts.length) (t:=t) (ne_nil_of_mem hy);have ad:=YV hi;have K:=(J9.1 hi).2.2;have ay:=(J9.1 hi).1
  have au:i∈qs:=by
   rcases mem_append.1 ((W.mem i).1 ay)with hm|hm
   .exact hm
   .obtain⟨p1,hp1⟩:=mem_iff_getElem?.1 hm;exact absurd (Wg h.down (W.tail p1 i hp1 q (mem_append_left _ a0)) K) az
  rw[show r+1+ts.length=(r+ts.length)+1 by omega,a2]at E ⊢;have B:∀j,Li (listed.setIfInBounds i true) j↔Li listed j\/j=i:=λ j=>VQ (by rw[h.size];exact ay)
  have H:(qs.filter λ x=>!(listed.setIfInBounds i true).getD x false).length=r:=by
   have a3:=(nodup_append.1 W.nodup).1
   have e:(qs.filter λ x=>!(listed.setIfInBounds i true).getD x false)=(qs.filter λ x=>!listed.getD x false).filter (λ x=>x != i):=by
    rw[filter_filter];refine filter_congr λ x _=>?_;have:=B x;simp only[Li]at this;cases hx:(listed.setIfInBounds i true).getD x false <;> cases a7:listed.getD x false <;> by_cases e:x=i <;> simp_all
   rw[e,<- Nodup.erase_eq_filter (a3.filter _),length_erase_of_mem (mem_filter.2 ⟨au,by simpa[Li]using ad⟩),hr];rfl
  have af:i∈rl->(L.filter λ x=>rl.contains x).head?=some i:=λ M=>by
   rw[<- E,filter_cons,if_pos (by simpa using M)];rfl
  obtain⟨N,L',C',ag,Y,w,ao,ah⟩:=XA.reach W ax au K L pre C av val h af;rw[<- ao]at E
  have V:∀j,Li (listed.setIfInBounds i true) j->∀k∈W3 ops j,Li (listed.setIfInBounds i true) k:=by
   intro j b k hk;rw[B]at b ⊢;rcases b with b|rfl
   .exact .inl (h.down j b k hk)
   .exact .inl (K k hk)
  have X:∀{val:Nat->Value}{o:Oper},ops[i]?=some o->Jn ops val (Li listed) a_0 ac->Jn ops val (Li (listed.setIfInBounds i true)) a_0 (ac.put o.dst (val i)):=by
   intro val o Z ha;have:=Jn.put W ha Z;have e:Li (listed.setIfInBounds i true)=λ j=>Li listed j\/j=i:=by funext j;exact propext (B j)
   rw[e];exact this
  by_cases G:i∈N
  .obtain⟨o,ai,p,hp,Z,hag,hh⟩:=w.pend i G ad;have aw:i∉rl:=λ M=>ad (w.rels i G M)
   have I:((Region.linearise.go .any ops (r+ts.length) t' (listed.setIfInBounds i true) []).filter λ x=>rl.contains x)=(L'.filter λ x=>rl.contains x):=by
    rw[<- E,filter_cons,if_neg (by simpa using aw)]
   have z:=Vz Z (W.nosel i o Z) (a:=ac) (a':=ai) λ s hs=>w.ac.slot hag λ j b=>PF W w.down hp ad K hs b
   have next:∀P,U.le P->XA S ops rl qs J a_0 (λ a U=>QU S fn ro ops ts Q a U) (listed.setIfInBounds i true) (ac.put o.dst (Y i)) P N L' C' ag Y:=λ P aj=>
    ⟨w.split,w.der,w.mono,w.inJ,w.mono _ _ w.c aj,w.av,X Z w.ac,λ j b=>((B j).1 b).elim (w.sub j) (λ e=>e▸G),by simpa using w.size,V,λ j b hr=>(B j).2 (.inl (w.rels j b hr)),
     λ j b hl=>w.pend j b λ hx=>hl ((B j).2 (.inl hx))⟩
   rcases hh with⟨hw,hv⟩|⟨hw,ak⟩
   .refine PG Z (by rw[z.2];exact hw) ?_;have:=ih t' _ _ _ _ _ _ _ _ (next U (.refl U)) H I;rw[hv]at this;exact this
   .have ae:QL S o ac (λ v' U2=>v'=Y i/\∃P,Qx U2 P/\U.le P) U:=by have:=ak U (w.inJ U w.c);unfold QL at this ⊢;rw[z.1];exact this
    refine Hm Z (by rw[z.2];exact hw) (.inr (PX ae)) (PY ae λ v U2 hv=>?_);obtain⟨rfl,P,hs,aj⟩:=hv;exact GJ hs (ih t' _ _ _ _ _ _ _ _ (next P aj) H I)
  .obtain⟨rest,rfl,M⟩:=ah.resolve_left G
   have I:((Region.linearise.go .any ops (r+ts.length) t' (listed.setIfInBounds i true) []).filter λ x=>rl.contains x)=(rest.filter λ x=>rl.contains x):=by
    rw[filter_cons,if_pos (by simpa using M),filter_cons,if_pos (by simpa using M)]at E;exact(List.cons.inj E).2
   have ab:=w.der;cases ab with
   |un hx _ _ _=>exact absurd M hx
   |det _ hx _ _ _ _=>exact absurd M hx
   |@rel _ _ _ _ o F _ hF a1 Z hw ak hd=>
    obtain⟨a5,aq⟩:=Xo w.split
    have z:=Vz Z (W.nosel i o Z) (a:=ac) (a':=ag) λ s hs=>w.ac.slot w.av λ j b=>by
     have:=PF W w.down aq ad K hs b;rw[a5]at this;exact this
    have ae:QL S o ac (λ v' U2=>∃P,Qx U2 P/\F v' P) U:=by have:=ak U w.c;unfold QL at this ⊢;rw[z.1];exact this
    refine Hm Z (by rw[z.2];exact hw) (.inr (PX ae)) (PY ae λ v U2 hv=>?_);obtain⟨P,hs,al⟩:=hv;refine GJ hs ?_;obtain⟨n1,n2,n3⟩:=w.note W v;have an:=Jn.put W n1 Z;have am:=X Z n2;rw[G6]at an am;refine ih t' _ _ P (N++[i]) rest (F v) (ag.put o.dst v) (ZW Y i v) ⟨by rw[w.split];simp,hd v ⟨P,al⟩,hF v,a1 v,al,?_,am,?_,by simpa using w.size,V,?_,?_⟩ H I
    .have e:(λ j=>j∈N\/j=i)=(·∈N++[i]):=by funext j;simp
     rw[<- e];exact an
    .intro j b;rcases(B j).1 b with b|rfl
     .exact mem_append_left _ (w.sub j b)
     .simp
    .intro j b hr;rw[B];rcases mem_append.1 b with b|b
     .exact .inl (w.rels j b hr)
     .exact .inr (by simpa using b)
    .intro j b hl;rcases mem_append.1 b with b|b
     .exact n3 j b λ hx=>hl ((B j).2 (.inl hx))
     .exact absurd ((B j).2 (.inr (by simpa using b))) hl
def sn(L:Jy ops [] qs ts):∀(r t:Nat)(listed:Array Bool),listed.size=ops.size->(∀i,Li listed i->∀j∈W3 ops i,Li listed j)->((qs++ts).filter λ i=>!listed.getD i false).length=r ->
  let g:=Region.linearise.go .any ops r t listed [];(∀i,i∈g↔i<ops.size/\¬Li listed i)/\g.Nodup/\g.Pairwise λ i j=>¬JC ops j i:=by
 intro r
 induction r with
 |zero=>
  intro t listed M _ T
  have H:∀i,i<ops.size->Li listed i:=λ i I=>by
   have:=filter_eq_nil_iff.1 (length_eq_zero_iff.1 T) i ((L.mem i).1 I);simpa[Li]using this
  simp only[Region.linearise.go,reverse_nil];exact⟨λ i=>⟨(λ h=>by cases h),λ h=>absurd (H i h.1) h.2⟩,Pairwise.nil,Pairwise.nil⟩
 |succ r ih=>
  intro t listed M b T;obtain⟨q,W⟩:∃q,q∈(qs++ts).filter λ i=>!listed.getD i false:=exists_mem_of_length_pos O1;have S:¬Li listed q:=by have:=(mem_filter.1 W).2;simpa[Li]using this
  obtain⟨pq,Q⟩:=mem_iff_getElem?.1 (mem_filter.1 W).1;obtain⟨y,hy⟩:=KC L M _ _ Q S;obtain⟨i,I,X,N⟩:=YT (k:=r) (t:=t) (ne_nil_of_mem hy);have K:=YV I;have E:=(J9.1 I).2.2;have F:=(J9.1 I).1;have w:∀j,Li (listed.setIfInBounds i true) j↔Li listed j\/j=i:=λ j=>VQ (by rw[M];exact F)
  have B:∀j,Li (listed.setIfInBounds i true) j->∀k∈W3 ops j,Li (listed.setIfInBounds i true) k:=by
   intro j G k V;rw[w]at G ⊢;rcases G with G|rfl
   .exact .inl (b j G k V)
   .exact .inl (E k V)
  have z:((qs++ts).filter λ x=>!(listed.setIfInBounds i true).getD x false).length=r:=by
   have e:((qs++ts).filter λ x=>!(listed.setIfInBounds i true).getD x false)=((qs++ts).filter λ x=>!listed.getD x false).filter (λ x=>x != i):=by
    rw[filter_filter];refine filter_congr λ x _=>?_;have:=w x;simp only[Li]at this;cases hx:(listed.setIfInBounds i true).getD x false <;> cases aa:listed.getD x false <;> by_cases e:x=i <;> simp_all
   rw[e,<- Nodup.erase_eq_filter (L.nodup.filter _),length_erase_of_mem (mem_filter.2 ⟨(L.mem i).1 F,by simpa[Li]using K⟩),T];rfl
  obtain⟨U,k2,k3⟩:=ih X _ (by simpa using M) B z;simp only;rw[N];have P:i∉Region.linearise.go .any ops r X (listed.setIfInBounds i true) []:=λ Z=>((U i).1 Z).2 ((w i).2 (.inr rfl));refine⟨λ j=>?_,nodup_cons.2 ⟨P,k2⟩,pairwise_cons.2 ⟨λ j G Y=>?_,k3⟩⟩
  .rw[mem_cons,U,w];by_cases e:j=i
   .subst e;simp[F,K]
   .simp[e]
  .exact((U j).1 G).2 ((w j).2 (.inl (Wg b Y E)))
end sound
def Dl(b:Nat->Nat->Bool)(ok:List Nat->Bool):Nat->List Nat->List Nat->Bool
 |0,_,pre=>ok pre
 |n+1,rem,pre=>rem.all λ i=>(rem.any λ j=>j != i&&b j i)|| Dl b ok n (rem.erase i) (pre++[i])
def IJ{I:Nat->Nat->Bool}{ok:List Nat->Bool}:∀(n:Nat)(rem pre ρ:List Nat),Dl I ok n rem pre=true->rem.length=n->ρ.Perm rem->ρ.Nodup->(ρ.Pairwise λ i j=>I j i=false)->ok (pre++ρ)=true
 |0,rem,pre,ρ,h,F,w,_,_=>by
  have:ρ=[]:=length_eq_zero_iff.1 (by rw[w.length_eq,F]);subst this;rw[append_nil];exact h
 |n+1,rem,pre,ρ,h,F,w,G,K=>by
  cases ρ with
  |nil=>have:=w.length_eq;simp at this;omega
  |cons i ρ=>
   have E:i∈rem:=w.subset (mem_cons_self ..);have z:=pairwise_cons.1 K;have B:=nodup_cons.1 G;have b:=all_eq_true.1 h i E;rw[Bool.or_eq_true]at b;rcases b with b|b
   .obtain⟨j,hj,h2⟩:=any_eq_true.1 b;rw[Bool.and_eq_true]at h2;have H:j≠i:=by simpa using h2.1
    rcases mem_cons.1 (w.symm.subset hj)with e|L
    .exact absurd e H
    .rw[z.1 j L]at h2;cases h2.2
   .have:=IJ n (rem.erase i) (pre++[i]) ρ b (by rw[length_erase_of_mem E,F];rfl) ((perm_cons_erase E).symm.trans w.symm|>.cons_inv|>.symm) B.2 z.2
    rwa [append_assoc]at this
def NA(ops:Array Oper)(rl qs:List Nat):Bool:=
 let b:=Xa ops ops.size
 (range qs.length).all λ p=>!rl.contains (qs.getD p 0)|| (qs.drop (p+1)).all λ i=>rl.contains i|| (qs.drop p).any λ r=>rl.contains r&&(b.getD i 0).testBit r
def B0{ops:Array Oper}{rl qs:List Nat}(h:NA ops rl qs=true):Oj ops rl qs:=λ p x E G i F z=>by
 have B:=(List.getElem?_eq_some_iff.1 E).1;have b:=all_eq_true.1 h p (mem_range.2 B);have e:qs.getD p 0=x:=by rw[getD_eq_getElem?_getD,E];rfl
 rw[e]at b;simp only[Bool.or_eq_true,Bool.not_eq_true']at b;rcases b with b|b
 .rw[show rl.contains x=true by simpa using G]at b;cases b
 .have w:=all_eq_true.1 b i F;rw[Bool.or_eq_true]at w;rcases w with w|w
  .exact absurd (by simpa using w) z
  .obtain⟨r,hr,h3⟩:=any_eq_true.1 w;rw[Bool.and_eq_true]at h3;exact⟨r,hr,by simpa using h3.1,Wx ops _ _ _ h3.2⟩
def Dk(ops:Array Oper)(rl:List Nat)(alts:List (List Nat))(ts:List Nat):Bool:=
 !alts.isEmpty&&alts.all (λ qs=>VC ops [] qs ts&&NA ops rl qs)&&ts.all (λ i=>!rl.contains i)&&(decide rl.Nodup&&rl.all λ i=>decide (i<ops.size)) &&
 Dl (λ j i=>((Xa ops ops.size).getD i 0).testBit j) (λ ρ=>alts.any λ qs=>(qs.filter λ x=>rl.contains x)==ρ) rl.length rl []
def N0{J:Qa T->Prop}{Q:Ex->Act->Qa T->Prop}{a:Act}{U:Qa T}{id:Nat}{ops:Array Oper}(rl:List Nat)(alts:List (List Nat))(ts:List Nat)(C:Qa T->Prop)(hC:XX C)(V:∀U',C U'->J U')(W:C U)(hm:P.follows .mixedOrders=true)(E:Dk ops rl alts ts=true)
  (h:∀qs∈alts,Xb S ops rl J (λ a U=>QU S fn ro ops ts Q a U) qs C a):Zv S fn ro (.region id ops true) Q a U:=by
 unfold Dk at E;simp only[Bool.and_eq_true,Bool.not_eq_true']at E;obtain⟨⟨⟨⟨N,h2⟩,h3⟩,h4,h5⟩,h6⟩:=E
 have aa:∀i∈ts,i∉rl:=λ i X hr=>by
  have:=all_eq_true.1 h3 i X;rw[show rl.contains i=true by simpa using hr]at this;cases this
 have Y:rl.Nodup:=of_decide_eq_true h4;have Z:∀i∈rl,i<ops.size:=λ i X=>of_decide_eq_true (all_eq_true.1 h5 i X)
 have w:∀qs∈alts,Jy ops [] qs ts/\Oj ops rl qs:=λ qs G=>by
  have:=all_eq_true.1 h2 qs G;rw[Bool.and_eq_true]at this;exact⟨Lh this.1,B0 this.2⟩
 have e:∀i,¬Li (Array.replicate ops.size false) i:=by
  intro i h;simp only[Li,Array.getD_eq_getD_getElem?,Array.getElem?_replicate]at h;split at h <;> simp at h
 have b:∀l:List Nat,(l.filter λ i=>!(Array.replicate ops.size false).getD i false).length=l.length:=λ l=>by
  congr 1;rw[filter_eq_self];intro x _;have:=e x;simp only[Li]at this;simpa using this
 have z:∀qs∈alts,ops.size=qs.length+ts.length:=λ qs G=>by
  have M:=(w qs G).1
  have N:(qs++ts).Perm (range ops.size):=by
   refine(perm_ext_iff_of_nodup M.nodup nodup_range).2 λ x=>?_;rw[mem_range];exact(M.mem x).symm
  have:=N.length_eq;simp at this;omega
 refine N1 λ t=>?_;simp only[Region.schedule,hm,Bool.true_or,if_true,Region.linearise];obtain⟨L,K⟩:∃q,q∈alts:=by cases alts with|nil=>cases N|cons q _=>exact⟨q,mem_cons_self ..⟩
 obtain⟨g1,g2,g3⟩:=sn (w L K).1 ops.size t (Array.replicate ops.size false) S1 (λ i h=>absurd h (e i)) (by rw[b,length_append,<- z L K])
 have F:((Region.linearise.go .any ops ops.size t (Array.replicate ops.size false) []).filter λ x=>rl.contains x).Perm rl:=by
  refine(perm_ext_iff_of_nodup (g2.filter _) Y).2 λ x=>?_;rw[mem_filter,g1];constructor
  .rintro⟨_,h⟩;simpa using h
  .intro h;exact⟨⟨Z x h,e x⟩,by simpa using h⟩
 have H:=IJ rl.length rl [] _ h6 rfl F (g2.filter _) ((g3.filter _).imp λ{i j}hb=>by
  cases hx:((Xa ops ops.size).getD i 0).testBit j with
  |false=>rfl
  |true=>exact absurd (Wx ops _ _ _ hx) hb)
 obtain⟨qs,B,G⟩:=any_eq_true.1 H;have G:(qs.filter λ x=>rl.contains x)=(Region.linearise.go .any ops ops.size t (Array.replicate ops.size false) []).filter λ x=>rl.contains x:=by simpa using G
 obtain⟨M,I⟩:=w qs B
 have:=sM (S:=S) (fn:=fn) (ro:=ro) (Q:=Q) (J:=J) M I aa qs.length t (Array.replicate ops.size false) a U [] qs C a (λ _=>undef)
  ⟨rfl,h qs B,hC,V,W,⟨rfl,rfl,λ _ _ _ h=>by simp at h,λ _ _=>rfl⟩,⟨rfl,rfl,λ _ j _ h=>absurd h (e j),λ _ _=>rfl⟩,λ i h=>absurd h (e i),S1,λ i h=>absurd h (e i),S1,S1⟩ (b qs) (by rw[<- z qs B,G])
 rw[<- z qs B]at this;exact this
end Go.TM
set_option linter.unusedSimpArgs false
namespace Go.TM
variable{T:Type}{P:Program}{S:Sys P T}{fn:FuncId}{ro:Option Nat}
def VO(S:Sys P T)(h:Qa T)(kd:Nat)(st:St)(w:(Qa T->Prop)->Zq T->Fm->List Deferred->Prop)(C:Qa T->Prop)(K:Zq T)(ds:List Deferred)(f:Fm):Prop:=match kd with
 |0=>OX S st.o f (λ v _=>w C K (ZE f st.dst v) ds) h
 |1=>∃v,(∀U',h.lg U'->OX S st.o f (λ z e=>z=v/\∃b,Qx e b/\U'.le b) U')/\w C K (ZE f st.dst v) ds
 |_=>∃F:Value->Qa T->Prop,(∀v,XX (F v))/\(∀v U',F v U'->h.lg U')/\(∀U',C U'->OX S st.o f (λ z e=>∃b,Qx e b/\F z b) U')/\∀v,(∃U',F v U')->w (F v) K (ZE f st.dst v) ds
def VN(S:Sys P T)(w:Qa T)(kd:Nat)(st:St)(h:(Qa T->Prop)->Zq T->Fm->List Deferred->Prop)(C:Qa T->Prop)(K:Zq T)(f:Fm)(ds:List Deferred):Prop:=match st.g with
 |some (j,e)=>(match f j with
  |.bool b=>GB b e (VO S w kd st h C K ds (JK f j (.bool e))) (h C K (ZE (JK f j (.bool !e)) st.dst undef) ds)
  |.tuple _=>h C K (ZE f st.dst undef) ds
  |_=>False)
 |none=>VO S w kd st h C K ds f
def Hr(S:Sys P T)(b:Qa T)(l:List (Nat×St)):(Qa T->Prop)->Zq T->Fm->List Deferred->Prop:=
 List.rec (motive:=λ _=>(Qa T->Prop)->Zq T->Fm->List Deferred->Prop) (λ C K f ds=>∀U',C U'->K f ds U') (λ p _ e=>VN S b p.1 p.2 e) l
def DS(S:Sys P T)(b:Qa T)(kd:Nat)(st:St)(r:List (Nat×St)):Hr S b ((kd,st)::r)=VN S b kd st (Hr S b r):=rfl
def Rr{o:O}{f:Fm}{K:Value->Qa T->Prop}{U:Qa T}(B:stable o=true)(h:OX S o f K U):∃v,K v U/\∀(U':Qa T)(w:Value->Qa T->Prop),U.lg U'->w v U'->OX S o f w U':=by
 by_cases z:P0 o=true
 .cases o with
  |ld x=>
   simp only[OX,Q0]at h;split at h <;> rename_i e
   .obtain⟨v,a,b⟩:=h;exact⟨v,b,λ U' w z k=>by simp only[OX,Q0,e];exact⟨v,a.lg z,k⟩⟩
   .exact h.elim
  |ldn n x=>
   simp only[OX]at h;split at h <;> rename_i e
   .obtain⟨v,a,b⟩:=h;exact⟨_,b,λ U' w z k=>by simp only[OX,Q0,e];exact⟨v,⟨a.1,a.2.lg z⟩,k⟩⟩
   .exact h.elim
  |_=>cases z
 .obtain⟨v,a,b⟩:=OX.stable B h;exact⟨v,a,λ U' w _ k=>b U' w (.inl (by simpa using z)) k⟩
def Xc(P:Program)(mu:List Nat)(ops:Array Oper)(rl:List Nat)(i:Nat):Nat:=
 if rl.contains i then 2 else match ops[i]? with
  |some o=>if stable (Zb P mu o)then 0 else 1
  |none=>1
def MM{N:Nat}{mu:List Nat}{ops:Array Oper}{Fin:Act->Qa T->Prop}{K:Zq T}{Z:Qa T}{rl:List Nat}(ab:∀a f ds U',FR N a f ds->K f ds U'->Fin a U')(hN:∀(i:Nat)(o:Oper),ops[i]?=some o->∀d,o.dst=some d->d<N) :
  ∀(z:List Nat)(l:List (Nat×St)),z.mapM (λ i=>((ops[i]?).bind (Jk P mu ops)).map λ st=>(Xc P mu ops rl i,st))=some l->(l.all λ x=>x.2.dfr.isNone)=true->(∀i∈z,∀o,ops[i]?=some o->o.guard=none\/i∉rl) ->
   ∀(a:Act)(f:Fm)(ds:List Deferred)(C:Qa T->Prop),FR N a f ds->Hr S Z l C K f ds->Xb S ops rl (λ U'=>Z.lg U') Fin z C a:=by
 intro z
 induction z with
 |nil=>
  intro l hl _ _ a f ds C B h;simp at hl;subst hl;exact .nil λ U' hc=>ab a f ds U' B (h U' hc)
 |cons i z ih=>
  intro l hl G ac a f ds C B h;simp only[mapM_cons,Option.pure_def,Option.bind_eq_bind,Option.bind_eq_some_iff,Option.map_eq_some_iff]at hl;obtain⟨x,⟨st,⟨o,I,X⟩,rfl⟩,l',ae,e⟩:=hl;cases e;simp only[all_cons,Bool.and_eq_true]at G;have Y:=hN i o I;have E:=ih l' ae G.2 (λ j hj=>ac j (mem_cons_of_mem _ hj))
  have M:(i∈rl/\Xc P mu ops rl i=2)\/(i∉rl/\Xc P mu ops rl i=0/\stable (Zb P mu o)=true)\/(i∉rl/\Xc P mu ops rl i=1):=by
   unfold Xc;by_cases H:i∈rl
   .exact .inl ⟨H,by rw[if_pos (by simpa using H)]⟩
   .rw[if_neg (by simpa using H),I];by_cases W:stable (Zb P mu o)=true
    .exact .inr (.inl ⟨H,by simp only[W,if_true],W⟩)
    .exact .inr (.inr ⟨H,by simp only[W];rfl⟩)
  have run:∀{f:Fm}{st:St},st.o=Zb P mu o->st.dst=o.dst->FR N a f ds->Region.wanted o (yielded ops a.tmps)=true->VO S Z (Xc P mu ops rl i) st (Hr S Z l') C K ds f->Xb S ops rl (λ U'=>Z.lg U') Fin (i::z) C a:=by
   intro f st e1 e2 B L h;unfold VO at h;rw[e1,e2]at h;rcases M with⟨H,M⟩|⟨H,M,W⟩|⟨H,M⟩
   .rw[M]at h;obtain⟨F,hF,ad,U,hn⟩:=h;refine .rel F H hF ad I L (λ U' hc=>?_) (λ v hv=>E _ _ _ _ (B.put o.dst v Y) (hn v hv));exact Xj (λ x=>B.eval x) (λ v' U2 U3 W⟨U1,a,b⟩=>⟨U1,W.trans a,b⟩) (U U' hc)
   .rw[M]at h;obtain⟨v,hn,X⟩:=Rr W h;refine .det v H I L (λ U' Q=>?_) (E _ _ _ _ (B.put o.dst v Y) hn);exact Xj (λ x=>B.eval x) Ju (X U' _ Q ⟨rfl,U',.refl _,.refl _⟩)
   .rw[M]at h;obtain⟨v,U,hn⟩:=h;refine .det v H I L (λ U' Q=>?_) (E _ _ _ _ (B.put o.dst v Y) hn);exact Xj (λ x=>B.eval x) Ju (U U' Q)
  cases VX X with
  |plain af hg=>simp only[DS,VN]at h;exact run rfl rfl B (Wv hg) h
  |@guarded j w d af hg aa=>
   simp only[DS,VN]at h;have V:i∉rl:=(ac i (mem_cons_self ..) o I).resolve_left (by rw[hg];simp);split at h
   .rename_i b hb;have L:=Tp (ops:=ops) (o:=o) hg aa (B.slot hb);have e:JK f d (.bool b)=f:=YN hb;cases b <;> cases w <;> simp only[GB,Bool.not_true,Bool.not_false]at h <;> rw[e]at h
    .exact run rfl rfl B (by rw[L];rfl) h
    .exact .un V I (by rw[L];rfl) (E _ _ _ _ (B.put o.dst undef Y) h)
    .exact .un V I (by rw[L];rfl) (E _ _ _ _ (B.put o.dst undef Y) h)
    .exact run rfl rfl B (by rw[L];rfl) h
   .rename_i vs hb;exact .un V I (TK B hg aa hb) (E _ _ _ _ (B.put o.dst undef Y) h)
   .exact h.elim
  |dfr=>simp at G
def P8(N:Nat)(ops:Array Oper)(rl:List Nat)(alts:List (List Nat))(ts:List Nat):Bool:=
 Dk ops rl alts ts&&ops.all (Pj N)&&rl.all λ i=>((ops[i]?).map (·.guard.isNone)).getD true
def sC{N:Nat}{mu:List Nat}{c:Code}{id:Nat}{ops:Array Oper}{n:Zq T}{x:Nat->Zq T}{r:Zq T}{f:Fm}{ds:List Deferred}{U:Qa T}(rl:List Nat)(alts:List (List Nat))(ts:List Nat)(L:List (List (Nat×St)))(lt:List St)(hm:P.follows .mixedOrders=true)
  (hc:c=.region id ops true) (b:P8 N ops rl alts ts=true) (H:alts.mapM (λ qs=>qs.mapM λ i=>((ops[i]?).bind (Jk P mu ops)).map λ st=>(Xc P mu ops rl i,st))=some L) (Y:ts.mapM (λ i=>(ops[i]?).bind (Jk P mu ops))=some lt)
  (F:(L.all λ l=>l.all λ x=>x.2.dfr.isNone)=true) (E:Zq T) (h:∀l∈L,Hr S U.frz l (λ U'=>U.le U') E f ds) (hE:∀B w U',E B w U'->JV S ro lt n B w U'):DG S fn ro N c n x r f ds U:=by
 subst hc;intro a G;unfold P8 at b;simp only[Bool.and_eq_true]at b;obtain⟨⟨b,W⟩,hg⟩:=b
 have hN:∀(i:Nat)(o:Oper),ops[i]?=some o->∀d,o.dst=some d->d<N:=λ i o I d hd=>by
  have:=(Array.all_eq_true'.1 W) o (Array.mem_of_getElem? I);unfold Pj at this;rw[hd]at this;exact of_decide_eq_true this
 have V:∀i∈rl,∀o,ops[i]?=some o->o.guard=none:=λ i M o I=>by
  have:=all_eq_true.1 hg i M;rw[I]at this;simpa using this
 refine N0 (J:=λ U'=>U.frz.lg U') rl alts ts (λ U'=>U.le U') (λ _ _ h k=>h.trans k) (λ U' h=>⟨h.imm,⟨_,(append_nil _).symm⟩,h.tok⟩) (.refl U) hm b λ qs z=>?_
 obtain⟨l,hl,X⟩:∃l,l∈L/\qs.mapM (λ i=>((ops[i]?).bind (Jk P mu ops)).map λ st=>(Xc P mu ops rl i,st))=some l:=by
  clear h F b
  induction alts generalizing L with
  |nil=>cases z
  |cons q alts ih=>
   simp only[mapM_cons,Option.pure_def,Option.bind_eq_bind,Option.bind_eq_some_iff]at H;obtain⟨l,h1,Z,h2,e⟩:=H;cases e;rcases mem_cons.1 z with rfl|z
   .exact⟨l,mem_cons_self ..,h1⟩
   .obtain⟨l',h3,h4⟩:=ih Z h2 z;exact⟨l',mem_cons_of_mem _ h3,h4⟩
 refine MM (K:=E) (λ a' B w U' Q hk=>?_) hN qs l X (all_eq_true.1 F l hl) (λ i _ o I=>?_) a f ds _ G (h l hl)
 .refine Vy (n:=n) (λ a f ds U G h=>?_) hN ts lt Y a' B w U' Q (hE B w U' hk);refine⟨by rw[G.size,‹FR N _ _ _›.size],f,G.get,?_⟩;rw[G.ds];exact h
 .by_cases M:i∈rl
  .exact .inl (V i M o I)
  .exact .inr M
def D8{N:Nat}{mu:List Nat}{c:Code}{id:Nat}{ops:Array Oper}{Q:Ex->Act->Qa T->Prop}{a:Act}{f:Fm}{ds:List Deferred}{U:Qa T}(K:FR N a f ds)(rl:List Nat)(alts:List (List Nat))(ts:List Nat)(w:List (List (Nat×St)))(lt:List St)(W:P.follows .mixedOrders=true)
  (M:c=.region id ops true) (H:P8 N ops rl alts ts=true) (F:alts.mapM (λ qs=>qs.mapM λ i=>((ops[i]?).bind (Jk P mu ops)).map λ st=>(Xc P mu ops rl i,st))=some w) (G:ts.mapM (λ i=>(ops[i]?).bind (Jk P mu ops))=some lt)
  (B:(w.all λ l=>l.all λ x=>x.2.dfr.isNone)=true) (E:Zq T) (h:∀l∈w,Hr S U.frz l (λ U'=>U.le U') E f ds) (L:∀z b U',E z b U'->JV S ro lt (λ f ds U=>∀a',FR N a' f ds->Q .normal a' U) z b U'):Zv S fn ro c Q a U:=by
 have:=sC (S:=S) (fn:=fn) (ro:=ro) (n:=λ f ds U=>∀a',FR N a' f ds->Q .normal a' U) (x:=λ _ _ _ _=>False) (r:=λ _ _ _=>False) (U:=U) rl alts ts w lt W M H F G B E h L a K;refine Zv.mono this λ e a' U'⟨X,z,V,I⟩=>?_;cases e with
 |normal=>exact I a' ⟨rfl,by rw[X];exact K.size,V⟩
 |exit i=>exact I.elim
 |ret=>exact I.elim
structure Pp(U:Qa T)(b:Nat)(e:TypeId)(c:Array Value)(U':Qa T):Prop where
 imm:∀x o,U.I x=some o->U'.I x=some o
 own:U'.M=.obj b (.cells c e (0,0))::U.M
 tok:U'.tok=U.tok
 new:U.I b=none
def Pp.le{U U' U'':Qa T}{b:Nat}{e:TypeId}{c:Array Value}(h:Pp U b e c U')(k:U'.le U''):Pp U b e c U'':=⟨λ x o i=>k.imm x o (h.imm x o i),k.own.trans h.own,k.tok.trans h.tok,h.new⟩
def Pp.write{U U':Qa T}{b:Nat}{e:TypeId}{c:Array Value}{vs:List Value}{Q:Qa T->Prop}(h:Pp U b e c U')(z:c.size=vs.length)(E:∀v∈vs,v.single=true)(B:∀w,U.le w->Zf w b vs.toArray->Q w):ZB ⟨b,0,none⟩ vs 0 (λ U'=>∃w,Qx U' w/\Q w) U':=by
 refine Oa [] vs 0 c U' h.own E O1 ?_;rw[KM z];refine⟨_,Wi (b:=b) (M':=U.M) (Perm.refl _),B _ ⟨λ x o i=>?_,rfl,h.tok⟩ Zf.new⟩;show JF U'.I b _ x=_;unfold JF;rw[if_neg]
 .exact h.imm x o i
 .rintro rfl;rw[h.new]at i;cases i
end Go.TM
set_option linter.unusedSimpArgs false
namespace Go.TM
variable{T:Type}{P:Program}{S:Sys P T}{fn:FuncId}{ro:Option Nat}
def kN{N:Nat}{mu:List Nat}{c:Code}{id:Nat}{ops:Array Oper}{n:Zq T}{x:Nat->Zq T}{r:Zq T}{f:Fm}{ds:List Deferred}{U:Qa T}(Q:Qa T)(V:Q.lg U)(rl:List Nat)(alts:List (List Nat))(ts:List Nat)(L:List (List (Nat×St)))(lt:List St)(hm:P.follows .mixedOrders=true)
  (hc:c=.region id ops true) (b:P8 N ops rl alts ts=true) (H:alts.mapM (λ qs=>qs.mapM λ i=>((ops[i]?).bind (Jk P mu ops)).map λ st=>(Xc P mu ops rl i,st))=some L) (aa:ts.mapM (λ i=>(ops[i]?).bind (Jk P mu ops))=some lt)
  (F:(L.all λ l=>l.all λ x=>x.2.dfr.isNone)=true) (E:Zq T) (h:∀l∈L,Hr S Q l (λ U'=>U.le U') E f ds) (hE:∀B w U',E B w U'->JV S ro lt n B w U'):DG S fn ro N c n x r f ds U:=by
 subst hc;intro a G;unfold P8 at b;simp only[Bool.and_eq_true]at b;obtain⟨⟨b,Y⟩,hg⟩:=b
 have hN:∀(i:Nat)(o:Oper),ops[i]?=some o->∀d,o.dst=some d->d<N:=λ i o I d hd=>by
  have:=(Array.all_eq_true'.1 Y) o (Array.mem_of_getElem? I);unfold Pj at this;rw[hd]at this;exact of_decide_eq_true this
 have X:∀i∈rl,∀o,ops[i]?=some o->o.guard=none:=λ i M o I=>by
  have:=all_eq_true.1 hg i M;rw[I]at this;simpa using this
 refine N0 (J:=λ U'=>Q.lg U') rl alts ts (λ U'=>U.le U') (λ _ _ h k=>h.trans k) (λ U' h=>V.trans h.lg) (.refl U) hm b λ qs z=>?_
 obtain⟨l,hl,Z⟩:∃l,l∈L/\qs.mapM (λ i=>((ops[i]?).bind (Jk P mu ops)).map λ st=>(Xc P mu ops rl i,st))=some l:=by
  clear h F b
  induction alts generalizing L with
  |nil=>cases z
  |cons q alts ih=>
   simp only[mapM_cons,Option.pure_def,Option.bind_eq_bind,Option.bind_eq_some_iff]at H;obtain⟨l,h1,ab,h2,e⟩:=H;cases e;rcases mem_cons.1 z with rfl|z
   .exact⟨l,mem_cons_self ..,h1⟩
   .obtain⟨l',h3,h4⟩:=ih ab h2 z;exact⟨l',mem_cons_of_mem _ h3,h4⟩
 refine MM (K:=E) (λ a' B w U' W hk=>?_) hN qs l Z (all_eq_true.1 F l hl) (λ i _ o I=>?_) a f ds _ G (h l hl)
 .refine Vy (n:=n) (λ a f ds U G h=>?_) hN ts lt aa a' B w U' W (hE B w U' hk);refine⟨by rw[G.size,‹FR N _ _ _›.size],f,G.get,?_⟩;rw[G.ds];exact h
 .by_cases M:i∈rl
  .exact .inl (X i M o I)
  .exact .inr M
def My{N:Nat}{mu:List Nat}{c:Code}{id:Nat}{ops:Array Oper}{Q:Ex->Act->Qa T->Prop}{a:Act}{f:Fm}{ds:List Deferred}{U:Qa T}(M:FR N a f ds)(z:Qa T)(F:z.lg U)(rl:List Nat)(alts:List (List Nat))(ts:List Nat)(w:List (List (Nat×St)))(lt:List St)(Y:P.follows .mixedOrders=true)
  (W:c=.region id ops true) (K:P8 N ops rl alts ts=true) (H:alts.mapM (λ qs=>qs.mapM λ i=>((ops[i]?).bind (Jk P mu ops)).map λ st=>(Xc P mu ops rl i,st))=some w) (I:ts.mapM (λ i=>(ops[i]?).bind (Jk P mu ops))=some lt)
  (G:(w.all λ l=>l.all λ x=>x.2.dfr.isNone)=true) (E:Zq T) (h:∀l∈w,Hr S z l (λ U'=>U.le U') E f ds) (V:∀B b U',E B b U'->JV S ro lt (λ f ds U=>∀a',FR N a' f ds->Q .normal a' U) B b U'):Zv S fn ro c Q a U:=by
 have:=kN (S:=S) (fn:=fn) (ro:=ro) (n:=λ f ds U=>∀a',FR N a' f ds->Q .normal a' U) (x:=λ _ _ _ _=>False) (r:=λ _ _ _=>False) (U:=U) z F rl alts ts w lt Y W K H I G E h V a M;refine Zv.mono this λ e a' U'⟨Z,B,X,L⟩=>?_;cases e with
 |normal=>exact L a' ⟨rfl,by rw[Z];exact M.size,X⟩
 |exit i=>exact L.elim
 |ret=>exact L.elim
end Go.TM
set_option linter.unusedSimpArgs false
namespace Go.TM
variable{T:Type}{P:Program}{S:Sys P T}{f:Fm}{K:Value->Qa T->Prop}{U:Qa T}
def Bc{t t2 e e2 n ty:Nat}{z v:Value}{F:TypeInfo}{x y:Operand}{ya:Option Addr}{yl yc:Nat}{cs new:List Value}{M₀:List Qw}
  (hu:P.underlying t=some (.slice e)) (ao:P.underlying t2=some (.slice e2)) (E:P.info? e=some F) (an:F.size=n) (hz:F.zero=some z) (ap:z.cells.size=n) (ab:F.bytes≠0/\F.bytes<=1024)
  (hx:Zo f x=v) (hy:Zo f y=.slice ya yl yc) (ha:Acc e n v cs U.M M₀) (V:Src U ya new) (W:new.length=yl*n) (hn:0<n) (X:∀w∈new,w.single=true) (aq:cs.length+new.length<=1048576)
  (al:new≠[]) (h:∀v' M' Z,Acc e n v' (cs++new) M' (Z++M₀)->(∀Q B,Acc e n v' (cs++new) Q (Z++B)->∃M3:List Qw,M3.Sublist Q/\Acc e n v cs M3 B)->K v' { U with M:=M' }) :
  OX S (.raw { dst:=none,op:=.call { callee:=.builtin .append,args:=#[x,y],argTypes:=#[t,t2] },type:=ty,pos := "", after:=#[],guard:=none }) f K U:=by
 intro a' aj;obtain⟨sa,sl,sc,G,I,am⟩:=ha.src;have hm:(#[x,y]:Array Operand).map a'.eval=#[.slice sa sl sc,.slice ya yl yc]:=by simp[aj,hx,hy,G]
 simp only[execOp,resolve,hm,Qf,Qk,invoke,builtin];show Qr P (Builtin.append_ #[t,t2] ty #[.slice sa sl sc,.slice ya yl yc]) _ U;unfold Builtin.append_;simp only[getElem?_toArray,getElem?_cons_zero,getElem?_cons_succ,Qf,Zk hu,Zk ao,Jj E,an,Qk,Bool.false_eq_true,if_false,Builtin.lenOf,Wl E,false_or,Bool.not_false,if_true];have aw:sl<=cs.length:=by rw[I];exact Nat.le_mul_of_pos_right _ hn
 have ax:yl<=new.length:=by rw[W];exact Nat.le_mul_of_pos_right _ hn
 have T:(cs++new).length=(sl+yl)*n:=by rw[length_append,I,W,Nat.add_mul]
 split
 .rename_i hle;rw[Qf];refine Hk V W ?_;rcases ha with⟨rfl,rfl,Y⟩|⟨b,c,len,cap,rfl,h1,h2,h3,Y,h4⟩
  .cases G;have:yl=0:=O1
   subst this;have ad:new=[]:=by simpa using W
   exact absurd ad al
  .cases G;simp only[Qf];refine Py _ _ _ ?_;rw[Qp]
   have L:0+sl*n+0+new.length<=c.size:=by
    have:(sl+yl)*n<=sc*n:=Nat.mul_le_mul_right n hle;rw[Nat.add_mul]at this;rw[h3,W];omega
   refine GT _ _ c U Y X L ?_;refine⟨_,.refl _,h _ _ [] (.inr ⟨b,_,sl+yl,sc,rfl,T,hle,by rw[KB];exact h3,rfl,λ i x E=>?_⟩) λ Q B H=>?_⟩
   .rw[PW _ _ _ _ _ L];simp only[getElem?_append]at E;split at E
    .rename_i ak;rw[if_neg O1];exact h4 i x E
    .rename_i hge;have ak:=(List.getElem?_eq_some_iff.1 E).1;rw[if_pos O1];rw[show i-(0+sl*n+0)=i-cs.length by omega];exact E
   .rcases H with⟨N,_,_⟩|⟨b',c',ae,aa,N,g1,g2,g3,g4,g5⟩
    .cases N
    .cases N;refine⟨_,.refl _,.inr ⟨b,c',sl,sc,rfl,I,O1,g3,g4,λ i x E=>?_⟩⟩;refine g5 i x ?_;rw[getElem?_append_left (List.getElem?_eq_some_iff.1 E).1];exact E
 .rename_i hgt;have ah:¬(((sl+yl:Nat):Int) > IntKind.i64.max/\F.bytes=0):=λ h=>ab.1 h.2
  have ai:¬(Builtin.nextslicecap (sl+yl) sc*F.bytes > 2^48):=by
   have:=QG (need:=sl+yl) (old:=sc) O1;have h2:Builtin.nextslicecap (sl+yl) sc*F.bytes<=(2*(sl+yl)+192)*1024:=Nat.mul_le_mul this ab.2;have af:(2:Nat)^48=281474976710656:=D1
   rw[af];omega
  simp only[Wl E,Qf];rw[if_neg ah];simp only[Wl E,Qf];rw[if_neg ai];simp only[choose,Qf];show ∀tt,Qr P _ _ U;intro tt;show Qr P (typeInfo e) _ U;rw[Wl E];refine Vr ?_;refine Hk am I ?_;refine Hk V W ?_;simp only[XM E hz];refine Jl λ b' av=>?_;have ac:sl+yl<=Question.cut (.appendCap (sl+yl) sc e) tt:=by simp only[Question.cut];omega
  obtain⟨Z,hZ,ag⟩:∃Z,U.M=Z++M₀/\∀B,Acc e n (.slice sa sl sc) cs (Z++B) B:=by
   rcases ha with⟨N,e2,Y⟩|⟨b,c,len,cap,N,g1,g2,g3,Y,g5⟩
   .exact⟨[],Y,λ B=>.inl ⟨by rw[<- G];exact N,e2,rfl⟩⟩
   .exact⟨[_],Y,λ B=>.inr ⟨b,c,len,cap,by rw[<- G];exact N,g1,g2,g3,rfl,g5⟩⟩
  refine⟨_,.refl _,h _ _ Z (.inr ⟨b',_,sl+yl,Question.cut (.appendCap (sl+yl) sc e) tt,rfl,T,ac,?_,by rw[<- hZ],λ i x E=>?_⟩) λ Q B H=>?_⟩
  .simp only[Array.size_append,size_toArray,I,W,Builtin.zeroCells,Array.size_map,Array.size_range,ap];rw[<- Nat.add_mul,<- Nat.add_mul];congr 1;omega
  .have:(cs.toArray++new.toArray)=(cs++new).toArray:=S1
   rw[this,Array.getElem?_append_left (by simpa using(List.getElem?_eq_some_iff.1 E).1)];simpa using E
  .refine⟨Z++B,?_,by rw[G];exact ag B⟩;rcases H with⟨N,_,_⟩|⟨au,c',ae,aa,N,g1,g2,g3,g4,g5⟩
   .cases N
   .rw[g4];exact sublist_cons_self _ _
def Mr{t e n ty:Nat}{v:Value}{x y:Operand}{N:Option Addr}{yl yc:Nat}{cs new:List Value}{M₀:List Qw}(k:Xh P t e n)
  (hx:Zo f x=v) (hy:Zo f y=.slice N yl yc) (ha:Acc e n v cs U.M M₀) (G:Src U N new) (hl:new.length=yl*n) (b:∀w∈new,w.single=true) (F:cs.length+new.length<=1048576) (H:new≠[])
  (h:∀I M' Z,Acc e n I (cs++new) M' (Z++M₀)->(∀E B,Acc e n I (cs++new) E (Z++B)->∃L:List Qw,L.Sublist E/\Acc e n v cs L B)->K I { U with M:=M' }) :
  OX S (.raw { dst:=none,op:=.call { callee:=.builtin .append,args:=#[x,y],argTypes:=#[t,t] },type:=ty,pos := "", after:=#[],guard:=none }) f K U:=by
 obtain⟨aa,z,Q,T,V,W,X,Y⟩:=k.i;exact Bc k.u k.u Q T V W ⟨X,Y⟩ hx hy ha G hl k.n b F H h
end Go.TM
namespace Go.TM
section
variable{T:Type}{P:Program}{S:Sys P T}
def XW(S:Sys P T)(f:FuncId)(args:Array Value)(Q:Qa T->Prop)(U:Qa T):Prop:=
 ∀(Stop:QJ T)(m:Bool)(c:Frame)(cs:List Frame),c.mode=.returning->(∀U',Q U'->J S Stop m (Rf c cs) U')->J S Stop m (Rf (Frame.enter P f args .deferred) (c::cs)) U
def XW.mono{f:FuncId}{args:Array Value}{Q b:Qa T->Prop}{U:Qa T}(h:XW S f args Q U)(w:∀U',Q U'->b U'):XW S f args b U:=
 λ Stop m c cs e k=>h Stop m c cs e λ U' q=>k U' (w U' q)
def DB(S:Sys P T)(rl:List RV)(Q:Value->Qa T->Prop)(f:Fm)(l:List Deferred):Qa T->Prop:=
 List.rec (motive:=λ _=>Qa T->Prop) (λ U=>G0 f Q rl [] U) (λ d r _ U=>match d.target with
  |.fn (.func g) b=>r=[]/\(P.funcs[g]?.any λ fd=>fd.body.isSome&&fd.name != "runtime.NumGoroutine")=true/\XW S g (d.args++b) (λ U'=>G0 f Q rl [] U') U
  |_=>False) l
def zp{g:FuncId}(b:(P.funcs[g]?.any λ fd=>fd.body.isSome&&fd.name != "runtime.NumGoroutine")=true)(args:Array Value)(w:World)(es:Array Event):(callFunc g args).runT P w es=(.ok (.enter g args) w,es):=by
 cases z:P.funcs[g]? with
 |none=>rw[z]at b;cases b
 |some fd=>
  rw[z]at b;simp only[Option.any_some,Bool.and_eq_true,bne_iff_ne,ne_eq]at b;obtain⟨H,B⟩:=b;have E:(fd.name== "runtime.NumGoroutine")=false:=by simpa using B
  have F:fd.body.isNone=false:=by cases h:fd.body <;> simp_all
  have G:callFunc g args=(.program λ P=>match P.funcs[g]? with
   |none=>stuck "call: no such function"
   |some fn=>if fn.name== "runtime.NumGoroutine" then pure .numGoroutine else if fn.body.isNone then(do
     mark (.extern g)
     if let some e:=Extern.findNext fn then return <- e args
     match Extern.find fn with
     |some e=>pure (.value (<- e args))
     |none=>if fn.name.endsWith ".init"&&!fn.name.startsWith "("&&!fn.name.startsWith "gosem." then pure (.value (.tuple #[]))else unsupported (.extern fn.name))else pure (.enter g args)):=rfl
  rw[G];simp only[Sem.runT,z,E,F,Bool.false_eq_true,if_false];rfl
def J.defer{b:Frame}{tmps:Array Value}{todo:List Item}{c:Frame}{cs:List Frame}{g:FuncId}{e args:Array Value}{ds:List Deferred}{Stop:QJ T}{m:Bool}{U:Qa T}{Q:Qa T->Prop}
  (E:(P.funcs[g]?.any λ fd=>fd.body.isSome&&fd.name != "runtime.NumGoroutine")=true) (h:XW S g (args++e) Q U)
  (k:∀U',Q U'->J S Stop m (Rf { fr b ⟨tmps,ds⟩ todo with mode:=.returning } (c::cs)) U'):J S Stop m (Rf { fr b ⟨tmps,{ target:=.fn (.func g) e,args:=args }::ds⟩ todo with mode:=.returning } (c::cs)) U:=by
 refine .still rfl (λ w=>?_) (h Stop m { fr b ⟨tmps,ds⟩ todo with mode:=.returning } (c::cs) rfl k);have z:=zp (P:=P) E (args++e) w #[];have F:Sem.run P (invoke (.fn (.func g) e) args) w=.ok (.enter g (args++e)) w:=by rw[<- Sem.runT_fst P _ w #[]];exact congrArg Prod.fst z
 have B:Sem.events P (invoke (.fn (.func g) e) args) w #[]=#[]:=congrArg Prod.snd z;simp[Rf,stepG,unwind,fr,callDeferred,F,B,GStep.after,De]
def Qb.ofD{g:FuncId}{N:Nat}{cc:C}{rl:List RV}(k:Q4 P g N cc rl)(hm:P.follows .mixedOrders=true){args:List Value}(hn:args.length<=N){U:Qa T}{Q:Value->Qa T->Prop}
  (h:WA S g none cc (λ f ds U=>DB S rl Q f ds U) (λ _ _ _ _=>False) (λ f ds U=>DB S rl Q f ds U) (fm args) [] U):Qb S g args.toArray Q U:=by
 obtain⟨fd,mu,dets,Y,Z,hc,rfl,hr,-⟩:=k.ok;intro Stop m w cs hq
 let b:Frame:={ (default:Frame)with fn:=g,kind:=.normal }
 have E:Rf (Frame.enter P g args.toArray .normal) (w::cs)=R b { tmps:=args.toArray++Array.replicate (fd.ntmps-args.toArray.size) undef,defers:=[] } [.code (fd.body.getD .skip)] (w::cs):=by
  simp only[Rf,R,Frame.enter,fr,Y,b,Option.bind_some];rw[Z];rfl
 rw[E]
 have V:FR fd.ntmps { tmps:=args.toArray++Array.replicate (fd.ntmps-args.toArray.size) undef,defers:=[] } (fm args) []:=by
  refine⟨rfl,S3,λ t=>?_⟩;simp only[fm,Array.getD_eq_getD_getElem?,getD_eq_getElem?_getD,Array.getElem?_append,size_toArray,getElem?_toArray];split
  .rfl
  .rename_i hlt;rw[getElem?_eq_none O1,Array.getElem?_replicate];split <;> rfl
 subst hc
 have fin:∀(a':Act)(G:Fm)(z:List Deferred)(U':Qa T),FR fd.ntmps a' G z->DB S rl Q G z U'->∀todo,J S Stop m (Rf { fr b a' todo with mode:=.returning } (w::cs)) U':=by
  intro a' G z U' B F todo
  have ret:∀H,G0 G Q rl [] H->J S Stop m (Rf { fr b ⟨a'.tmps,[]⟩ todo with mode:=.returning } (w::cs)) H:=λ H hx=>
   Xd.step Y (.inl rfl) hq [] todo H (Kz hr [] H hx a'.tmps B.get)
  obtain⟨tm,X⟩:=a';have M:X=z:=B.ds;subst M;cases X with
  |nil=>exact ret U' F
  |cons d r=>
   obtain⟨tg,K⟩:=d;cases tg with
   |fn L W=>
    cases L with
    |func h'=>
     obtain⟨rfl,I,hd⟩:=F;exact J.defer I hd ret
    |_=>exact F.elim
   |_=>exact F.elim
 refine J.body (fn:=g) ⟨rfl,rfl,by simp[b],S1⟩ (GH hm _ V h) λ e a' U' q=>?_;obtain⟨G,z,B,F⟩:=q;cases e with
 |normal=>exact⟨.inl rfl,fin a' G z U' B F⟩
 |ret=>exact⟨.inr rfl,fin a' G z U' B F⟩
 |exit id=>exact F.elim
end
section
variable{P:Program}{t:TypeId}{N:Nat}
def Qb.makeM{f:FuncId}{args:Array Value}{Q:Value->Qa Tk->Prop}{U:Qa Tk}{b:Nat}{x:QW}{M₁ M₂:List Qw}(z:U.tok=⟨0,.par b [] false .run,none⟩)(w:U.M=.obj x.m (.cells #[Zg 0,Qq 0] x.t (0,0))::(M₁++M₂))(e:x.sp false false M₁)
  (h:Qb (Zd P t N) f args Q { U with M:=M₂,tok:=⟨0,.par b [] false .run,some (.par x λ _=>false)⟩ }):Qb (Zd P t N) f args Q U:=
 λ Stop m c cs k=>.syn (QD.makeM z w e (h Stop m c cs k))
end
end Go.TM

