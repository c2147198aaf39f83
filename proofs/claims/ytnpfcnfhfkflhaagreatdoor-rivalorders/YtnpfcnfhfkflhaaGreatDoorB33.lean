/- Lemmas. No conditions. -/
import Derived.Test.YtnpfcnfhfkflhaaGreatDoorB02
import Derived.Test.YtnpfcnfhfkflhaaGreatDoorB13
set_option linter.all false
open List
namespace Go.TM
variable{P:Program}{t:TypeId}{N:Nat}
def NW{T:Type}{S:Sys P T}{fn:FuncId}{ro:Option Nat}{ops:Array Oper}{todo:List Nat}{Q:Ex->Act->Qa T->Prop}{a:Act}{U:Qa T}(h:(∃w,U.ok w)->QX S fn ro ops todo Q a U):QX S fn ro ops todo Q a U:=by
 intro Stop m b k cs f z;by_cases e:∃w,U.ok w
 .exact h e Stop m b k cs f z
 .exact .priv ⟨rfl,λ w ok=>absurd ⟨w,ok⟩ e⟩
def Qb.make{f:FuncId}{args:Array Value}{Q:Value->Qa Tk->Prop}{U:Qa Tk}{b:Nat}{M₁ M₂:List Qx}(w:U.tok=⟨0,.out,none⟩)(e:U.M=M₁++.obj b (.cells #[Q1 0 0,Qq 0] t (0,0))::M₂)
  (h:Qb (Zb P t N) f args Q { U with M:=M₁++M₂,tok:=⟨0,.par b [] false .run,none⟩ }):Qb (Zb P t N) f args Q U:=
 λ Stop m c cs k=>.syn (QD.make w e (h Stop m c cs k))
def W7{T:Type}{U:Qa T}{M':List Qx}(h:Perm U.M M'):Qw U { U with M:=M' }:=by
 refine⟨rfl,λ w ok=>⟨⟨ok.imm,λ r e=>ok.held r (h.mem_iff.2 e),(h.pairwise_iff (λ{x y}h=>Qx.apart_symm h)).1 ok.apart,λ r e=>ok.sep r (h.mem_iff.2 e)⟩,λ l b=>?_,λ l b=>?_⟩⟩
 .rw[Q6]at b ⊢;obtain⟨r,e,b⟩:=b;exact⟨r,h.mem_iff.2 e,b⟩
 grind[Qy,id]
def Qa.base(U:Qa Tk):Qa Tk:=⟨U.I,[],⟨0,.out,none⟩⟩
def Qa.sub(U U':Qa Tk):Prop:=∀b o,U.I b=some o->U'.I b=some o
end Go.TM
namespace Go.TM
attribute [local simp] Nat.mul_one
variable{T:Type}{P:Program}{S:Sys P T}{U:Qa T}{f:Fm}{K:Value->Qa T->Prop}
def SM{m e:Nat}{d:TypeDesc}(B:P.underlying e=some d)(E:WU d=true){xs ys:Array Value}{Q:Option Bool×PUnit->Qa T->Prop}:∀(n j:Nat)(vs ws:List Value),vs.length=n->ws.length=n->(∀v∈vs,X7 d v=true)->(∀v∈ws,X7 d v=true) ->
  (∀i v,vs[i]?=some v->xs[j+i]?=some v)->(∀i v,ws[i]?=some v->ys[j+i]?=some v)->Q (if ZJ vs ws then none else some false,()) U ->
  Qr P (forIn (List.range' j n 1) ((none,()):Option Bool×PUnit) λ i _=>do
    let a <- part e xs (i*1)
    let b <- part e ys (i*1)
    let c <- Op.equalIn (m+1) e a b
    if(!c)=true then pure (ForInStep.done (some false,()))else pure (ForInStep.yield (none,()))) Q U
 |0,j,vs,ws,G,H,_,_,_,_,h=>by
  obtain rfl:=length_eq_zero_iff.1 G;obtain rfl:=length_eq_zero_iff.1 H;exact h
 |n+1,j,v::vs,w::ws,G,H,f,z,L,M,h=>by
  rw[range'_succ,V7];simp only[Qd,Nat.mul_one];have I:xs[j]?=some v:=by simpa using L 0 v rfl
  have K:ys[j]?=some w:=by simpa using M 0 w rfl
  rw[GJ B E I,GJ B E K,FB B E (f v (mem_cons_self ..)) (z w (mem_cons_self ..))];cases N:HY v w with
  |false=>grind[ZJ,Qk]
  |true=>
   simp only[Bool.not_true,Bool.false_eq_true,if_false,Qk]
   have:=SM B E (m:=m) (xs:=xs) (ys:=ys) (Q:=Q) n (j+1) vs ws (by simpa using G) (by simpa using H) (λ v h=>f v (mem_cons_of_mem _ h)) (λ v h=>z v (mem_cons_of_mem _ h))
    (λ i v F=>by have:=L (i+1) v F;rwa [show j+(i+1)=j+1+i by omega]at this)
    (λ i v F=>by have:=M (i+1) v F;rwa [show j+(i+1)=j+1+i by omega]at this) (by simpa[N,ZJ]using h)
   simp_all
def vZ{t X Y e len:Nat}{d:TypeDesc}{w:TypeInfo}(N:P.underlying t=some (.array len e))(G:P.underlying e=some d)(M:WU d=true)(b:P.info? e=some w)(z:w.size=1)(H:P.eqGuardType P.depth t=false)
  {x y:Operand} {vs ws:List Value} (V:Zj f x=.agg vs.toArray) (W:Zj f y=.agg ws.toArray) (I:vs.length=len) (L:ws.length=len) (Q:∀v∈vs,X7 d v=true) (T:∀v∈ws,X7 d v=true) (h:K (.bool (ZJ vs ws)) U) :
  OX S (.raw { dst:=none,op:=.binOp .eql t x y X,type:=Y,pos := "", after:=#[],guard:=none }) f K U:=by
 intro a' E;simp only[execOp,E,V,W];refine rq ?_;rw[Qd];refine O9 H ?_;simp only[binOp,Qd];have B:Op.equal t (.agg vs.toArray) (.agg ws.toArray)=Op.equalIn (9998+1+1) t (.agg vs.toArray) (.agg ws.toArray):=rfl;rw[B,Op.equalIn];simp only[Qd,Zg N,Jh b,z,Std.Legacy.Range.forIn_eq_forIn_range'];refine SM G M _ 0 vs ws S2 S2 Q T (λ i v b=>by simpa using b) (λ i v b=>by simpa using b) ?_;cases F:ZJ vs ws <;> simpa[F,Qk]using⟨U,.refl _,S2⟩
def VP{b off:Nat}{e:TypeId}{M₀:List Qx}{Q:Qa T->Prop}(X:List Qx):∀(vs:List Value)(i:Nat)(c:Array Value)(U:Qa T),U.M=X++.obj b (.cells c e (0,0))::M₀->(∀v∈vs,v.single=true)->off+i+vs.length<=c.size ->
  Q { U with M:=X++.obj b (.cells (JX c off vs i) e (0,0))::M₀ }->ZA ⟨b,off,none⟩ vs i Q U
 |[],i,c,U,f,_,_,h=>by
  have:U={ U with M:=X++.obj b (.cells c e (0,0))::M₀ }:=by rw[<- f]
  show Q U;rw[this];exact h
 |v::vs,i,c,U,f,w,B,h=>by
  simp only[length_cons]at B;refine⟨w v (mem_cons_self ..),X++.obj b (.cells (c.setIfInBounds (off+i) v) e (0,0))::M₀,?_,?_⟩
  .rw[f,Qo];have z:Xy ⟨b,off+i,none⟩ v (.obj b (.cells c e (0,0))::M₀) (.obj b (.cells (c.setIfInBounds (off+i) v) e (0,0))::M₀):=.obj (a:=⟨b,off+i,none⟩) rfl (by show off+i<c.size;omega);clear f h
   induction X with
   |nil=>exact z
   |cons r X F=>exact .there F
  .exact VP X vs (i+1) _ _ rfl (λ v E=>w v (mem_cons_of_mem _ E)) S3 h
def P_{b i:Nat}{e:TypeId}{c:Array Value}{v:Value}{M₀:List Qx}{Q:Qa T->Prop}(X:List Qx)(w:U.M=X++.obj b (.cells c e (0,0))::M₀)(B:i<c.size)(z:v.single=true)
  (h:Q { U with M:=X++.obj b (.cells (c.setIfInBounds i v) e (0,0))::M₀ }):ZA ((Addr.mk b 0 none).add i) [v] 0 (λ U'=>∃f,Qw U' f/\Q f) U:=by
 rw[Qo];refine VP X [v] 0 c U w (by simpa using z) S3 ?_;simp only[JX,Nat.zero_add,Nat.add_zero];exact⟨_,.refl _,h⟩
def VG{b:Nat}{e:TypeId}{c:Array Value}{vs:List Value}{M₀:List Qx}{Q:Qa T->Prop}(X:List Qx)(z:U.M=X++.obj b (.cells c e (0,0))::M₀)(f:c.size=vs.length)(B:∀v∈vs,v.single=true)
  (h:Q { U with M:=X++.obj b (.cells vs.toArray e (0,0))::M₀ }):ZA ⟨b,0,none⟩ vs 0 (λ U'=>∃w,Qw U' w/\Q w) U:=by
 refine VP X vs 0 c U z B O1 ?_;rw[Y7 f];exact⟨_,.refl _,h⟩
def Za{b:Nat}{e:TypeId}{vs:List Value}{M₀:List Qx}(X:List Qx)(f:U.M=X++.obj b (.cells vs.toArray e (0,0))::M₀):Jn U ⟨b,0,none⟩ vs:=by
 intro i v h;rw[Qo];refine⟨rfl,.inl ⟨_,_,_,.inr (by rw[f];simp;exact .inr (.inl ⟨rfl,rfl,rfl⟩)),?_⟩⟩;simpa using h
abbrev setA(s:Nat->Bool):Value:=.agg #[.bool (s 0),.bool (s 1),.bool (s 2),.bool (s 3),.bool (s 4),.bool (s 5),.bool (s 6),.bool (s 7)]
def HE(s:Nat->Bool)(j:Nat)(v:Bool):Nat->Bool:=λ k=>if k=j then v else s k
end Go.TM
namespace Go.TM
variable{T:Type}{P:Program}{S:Sys P T}{U U':Qa T}
def Qa.frz(U:Qa T):Qa T:=⟨U.I,[],U.tok⟩
def Qa.lg.frz(h:U.lg U'):U.frz.lg U':=⟨h.imm,⟨U'.M,by simp[Qa.frz]⟩,h.tok⟩
def Qp:U.frz.lg U:=(⟨λ _ _ h=>h,⟨[],rfl⟩,rfl⟩:U.lg U).frz
def SX{U b e:Qa T}(h:U.frz.lg b)(k:b.le e):U.frz.lg e:=h.trans k.lg
def Qa.lg.frz2(h:U.lg U'):U.frz.lg U'.frz:=⟨h.imm,⟨[],rfl⟩,h.tok⟩
def Qb.grown{f:FuncId}{args:Array Value}{R:Value->Qa T->Prop}(B:∀v e w,e.lg w->R v e->R v w)(h:Qb S f args (λ v U'=>R v U'.frz/\U.lg U') U):Qb S f args (λ v U'=>R v U'.frz/\U.le U') U:=
 h.post λ v U'⟨E,z⟩=>let ⟨U'',h1,h2,h3⟩:=z.shift;⟨U'',h1,B v _ _ (⟨λ b o h=>by show U''.I b=_;rw[h3];exact h,⟨[],rfl⟩,h2.tok.trans z.tok.symm⟩:U'.frz.lg U''.frz) E,h2⟩
def Jd(U:Qa T)(v:Value)(l:List Int):Prop:=∃a cap,v=.slice a l.length cap/\Z5 U a l.length l
def Jd.lg{v:Value}{l:List Int}(h:Jd U v l)(b:U.lg U'):Jd U' v l:=let ⟨a,c,e,h⟩:=h;⟨a,c,e,h.lg b⟩
theorem Acc.freeze{e n:Nat}{v:Value}{cs:List Value}(H:WH U')(h:Acc e n v cs U'.M U.M)(B:∀x F,U.I x=some F->U'.I x=some F)(E:U'.tok=U.tok) :
  ∃f,Qw U' f/\U.le f/\∃a len cap,v=.slice a len cap/\cs.length=len*n/\QS f.frz a cs/\(∀w,a=some w->w.spot=none)/\(∀w,a=some w->w.off=0):=by
 rcases h with⟨rfl,rfl,z⟩|⟨b,c,len,cap,rfl,G,K,L,z,N⟩
 .exact⟨U',.refl _,⟨B,z,E⟩,none,0,0,rfl,S1,.inl ⟨rfl,rfl⟩,S1,S1⟩
 .obtain⟨f,k1,k2,k3⟩:=EF H z B rfl E;refine⟨f,k1,k2,some ⟨b,0,none⟩,len,cap,rfl,G,.inr ⟨_,rfl,?_⟩,S2,S2⟩;intro i x P;rw[Qo];exact⟨rfl,.inl ⟨c,e,(0,0),.inl k3,S2⟩⟩
def Vf{a:Option Addr}{l:List Int}(h:QS U a (l.map λ n=>.int .i64 n))(e:∀b,a=some b->b.spot=none):Z5 U a l.length l:=by
 refine⟨rfl,λ i x w=>?_⟩;rcases h with⟨_,z⟩|⟨b,rfl,f⟩
 .simp_all
 .exact⟨b,rfl,e b rfl,by rw[Nat.mul_one];exact f i _ (by simp[w])⟩
def Qb.ints{f:FuncId}{args:Array Value}{e:Nat}{l:List Int}(h:Qb S f args (λ v U'=>Acc e 1 v (l.map λ n=>.int .i64 n) U'.M U.M/\(∀x B,U.I x=some B->U'.I x=some B)/\U'.tok=U.tok) U) :
  Qb S f args (λ v U'=>Jd U'.frz v l/\U.le U') U:=by
 refine h.sep λ v U' G⟨F,E,H⟩=>?_;obtain⟨w,K,L,a,len,cap,rfl,N,b,z,_⟩:=F.freeze G E H;refine⟨w,K,⟨a,cap,?_,Vf b z⟩,L⟩;simp_all
end Go.TM
namespace Go.TM
variable{T:Type}{P:Program}{S:Sys P T}{U:Qa T}{f:Fm}{K:Value->Qa T->Prop}
def In(P:Program)(t len:Nat):Bool:=
 match P.underlying t with
 |some (.array b e)=>decide (b=len)&&(match P.underlying e with|some .bool=>true|_=>false)&&(match P.info? e with|some f=>decide (f.size=1)|none=>false)&&!P.eqGuardType P.depth t
 |_=>false
structure TW(P:Program)(t len:Nat):Prop where
 h:∃e inf,P.underlying t=some (.array len e)/\P.underlying e=some .bool/\P.info? e=some inf/\inf.size=1/\P.eqGuardType P.depth t=false
theorem TW.of{t len:Nat}(h:In P t len=true):TW P t len:=by
 unfold In at h;split at h
 .rename_i len' e hu;simp only[Bool.and_eq_true,decide_eq_true_eq,Bool.not_eq_true']at h;obtain⟨⟨⟨rfl,f⟩,b⟩,w⟩:=h;split at f
  .rename_i hb;split at b
   .rename_i inf hi;exact⟨e,inf,hu,hb,hi,by simpa using b,w⟩
   .cases b
  .cases f
 .cases h
end Go.TM
namespace Go.TM
variable{T:Type}{P:Program}{S:Sys P T}{f:Fm}{U:Qa T}
structure Zp0(U:Qa T)(I:Nat->Qa T->Prop):Prop where
 le:∀k U1 U2,U1.le U2->I k U1->I k U2
 lg:∀k U1,I k U1->U.frz.lg U1
def Qa.on(U:Qa T)(A D:Qx):Qa T:={ U with M:=A::D::U.M }
end Go.TM
namespace Go.TM
variable{T:Type}{U U':Qa T}
def Zi.imI{b:Nat}{c:Array Value}(h:Zi U b c)(e:∀x o,U.I x=some o->U'.I x=some o):Zi U' b c:=let ⟨t,fr,h⟩:=h;⟨t,fr,e _ _ h⟩
end Go.TM
set_option linter.unusedSimpArgs false
namespace Go.TM
variable{T:Type}{P:Program}{S:Sys P T}{f:Fm}{K:Value->Qa T->Prop}{U:Qa T}
def Gy{κ:Type}(enc:κ->Value):∀(l:List (κ×Value))(j i:Nat)(p:κ×Value),l[i]?=some p->(Qs enc l j)[i]?=some ⟨enc p.1,p.2,j+i⟩
 |[],_,_,_,h=>by simp at h
 |q::l,j,0,p,h=>by
  grind[Qs]
 |q::l,j,i+1,p,h=>by
  simp only[Qs,getElem?_cons_succ];rw[Gy enc l (j+1) i p (by simpa using h)];congr 2;omega
theorem TS{κ:Type}(enc:κ->Value):∀(l:List (κ×Value))(j:Nat)(e:MapEntry),e∈Qs enc l j->∃i p,l[i]?=some p/\e=⟨enc p.1,p.2,j+i⟩
 |[],_,e,h=>by cases h
 |q::l,j,e,h=>by
  simp only[Qs,mem_cons]at h;rcases h with rfl|h
  .exact⟨0,q,rfl,rfl⟩
  .obtain⟨i,p,h1,rfl⟩:=TS enc l (j+1) e h;exact⟨i+1,p,by simpa using h1,by congr 1;omega⟩
def Jz(b n:Nat)(seen:Array Nat):Obj:=.mapIter (some b) n seen n
def OC{κ:Type}{enc:κ->Value}{t F H G b:Nat}{l:List (κ×Value)}{x:Operand}(B:P.underlying t=some (.map F H))(E:Zj f x=.map (some b))(w:U.has b (Qt enc l))
  (h:∀r,U.free r->K (.pointer (some ⟨r,0,none⟩)) (U.put r (Jz b l.length #[]))) :
  OX S (.raw { dst:=none,op:=.range t x,type:=G,pos := "", after:=#[],guard:=none }) f K U:=by
 intro a' e;simp only[execOp,e,E];refine rq ?_;simp only[Instr.range,Qd,Zg B,getObj];refine⟨_,w,rfl,rfl,?_⟩;simp only[Qr,Qt,Qk,Qd,newObj];exact λ r z=>⟨_,.refl _,h r z⟩
def YX{κ:Type}{enc:κ->Value}{ty b r:Nat}{l:List (κ×Value)}{seen:Array Nat}{x:Operand}(M':Obj->List Qx)(hx:Zj f x=.pointer (some ⟨r,0,none⟩))(hm:U.has b (Qt enc l))
  (hu:∀o,J4 r o (Jz b l.length seen) U.M (M' o))
  (h0:(∀i,i<l.length->i∈seen)->K (.tuple #[.bool false]) U)
  (h1:∀(i:Nat)p,l[i]?=some p->i∉seen->K (.tuple #[.bool true,enc p.1,p.2]) { U with M:=M' (Jz b l.length (seen.push i)) }) :
  OX S (.raw { dst:=none,op:=.next x false,type:=ty,pos := "", after:=#[],guard:=none }) f K U:=by
 intro a' ha;simp only[execOp,ha,hx];refine rq ?_;unfold Instr.next;simp only[Qd,getObj];refine⟨_,.inr (hu (Jz b l.length seen)).mem,rfl,rfl,?_⟩;simp only[Qr,Jz,Qk,Qd];refine⟨_,hm,rfl,rfl,?_⟩
 have z:∀e∈(Qs enc l 0).toArray,e.born<l.length:=λ e E=>by
  grind[TS]
 simp only[Qr,Qt,Qk,Qd];generalize F:(Qs enc l 0).toArray=es at z
 have hc:(!seen.isEmpty&&!es.isEmpty&&es.all λ x=>decide (x.born ≥ l.length))=false:=by
  cases E:es.isEmpty with
  |true=>simp
  |false=>
   have:es.all (λ x=>decide (x.born ≥ l.length))=false:=by
    rw[Array.all_eq_false'];rw[Array.isEmpty_eq_false_iff]at E;obtain⟨e,T⟩:=Array.exists_mem_of_ne_empty _ E;exact⟨e,T,S2⟩
   rw[this];simp
 rw[hc];simp only[Bool.false_eq_true,if_false];generalize w:es.filter (λ e=>!seen.contains e.born)=left
 have I:left.filter (λ x=>decide (x.born<l.length))=left:=Array.filter_eq_self.2 λ e E=>by
  grind
 have H:left.filter (λ x=>decide (x.born ≥ l.length))=#[]:=Array.filter_eq_empty_iff.2 λ e E=>by
  simp_all
 simp only[I,H,Array.append_empty];cases B:left.isEmpty with
 |true=>
  have L:left=#[]:=by simpa using B
  subst L;simp only[if_true,Array.map_empty,Array.append_empty];refine⟨_,.refl _,h0 λ i N=>?_⟩;have Q:l[i]?=some l[i]:=getElem?_eq_getElem N;have G:=mem_of_getElem? (Gy enc l 0 i _ Q);have V:(⟨enc l[i].1,l[i].2,0+i⟩:MapEntry)∈es:=by rw[<- F];simpa using G
  have:=Array.filter_eq_empty_iff.1 w _ V;simpa using this
 |false=>
  have W:0<left.size:=by
   rw[Array.isEmpty_eq_false_iff]at B;exact Array.size_pos_iff.2 B
  have key:∀j,j<left.size->Qr P (match(#[]++left.map some)[j]? with
    |some (some e)=>do
     setObj r (.mapIter (some b) l.length (seen.push e.born) l.length)
     pure (.tuple #[.bool true,e.key,e.val])
    |some none=>pure (.tuple #[.bool false])
    |none=>stuck "Next: no such candidate") (λ v U'=>∃Y,Qw U' Y/\K v Y) U:=by
   intro j hj;have h2:(#[]++left.map some)[j]?=some (some left[j]):=by simp[hj]
   rw[h2];have h:left[j]∈left:=Array.getElem_mem hj;generalize left[j]=e at h;rw[<- w,Array.mem_filter]at h;obtain⟨h,X⟩:=h;rw[<- F]at h;obtain⟨i,p,N,rfl⟩:=TS enc l 0 e (by simpa using h);simp only[Qd,setObj,Qr,Qk];have Z:=h1 i p N (by simpa using X);rw[<- Nat.zero_add i]at Z;exact⟨_,_,hu _,rfl,rfl,rfl,_,.refl _,Z⟩
  simp only[Bool.false_eq_true,if_false];rw[Qd];show(if(Question.mapNext (#[]++Array.map some left).size).forced then _ else _);have aa:(#[]++Array.map some left).size=left.size:=S1
  split
  .exact key 0 W
  .intro t;refine key _ ?_;show t % (#[]++Array.map some left).size<left.size;simp_all[Nat.mod_lt]
def Su{κ:Type}{enc:κ->Value}{Q b r i:Nat}{l:List (κ×Value)}{seen:Array Nat}{p:κ×Value}{x:Operand}(P:Zj f x=.pointer (some ⟨r,0,none⟩))(I:U.has b (Qt enc l))(N:U.has r (Jz b l.length (seen.push i)))
  (L:l[i]?=some p) (h:K (.tuple #[enc p.1,p.2]) U) :
  OX S (.raw { dst:=none,op:=.entry x,type:=Q,pos := "", after:=#[],guard:=none }) f K U:=by
 intro a' G;simp only[execOp,G,P];refine rq ?_;unfold Instr.entry;simp only[Qd,getObj];refine⟨_,N,rfl,rfl,?_⟩;simp only[Qr,Jz,Qk,Qd,Array.back?_push];refine⟨_,I,rfl,rfl,?_⟩;simp only[Qr,Qt,Qk,Qd,bne_self_eq_false,Bool.false_eq_true,if_false]
 have e:(Qs enc l 0).toArray.find? (λ x=>x.born==i)=some ⟨enc p.1,p.2,i⟩:=by
  rw[find?_toArray,find?_eq_some_iff_getElem];have E:=Gy enc l 0 i p L;rw[Nat.zero_add]at E;obtain⟨B,H⟩:=List.getElem?_eq_some_iff.1 E;refine⟨S1,i,B,H,λ j T=>?_⟩;obtain⟨q,M⟩:∃q,l[j]?=some q:=⟨_,getElem?_eq_getElem (by grind)⟩;have z:=Gy enc l 0 j q M;obtain⟨F,w⟩:=List.getElem?_eq_some_iff.1 z;rw[w];simp;omega
 rw[e];exact⟨_,.refl _,h⟩
def X3{κ:Type}[DecidableEq κ](k:κ)(z:Value)(l:List (κ×Value)):List (κ×Value):=if(lk k l).isSome then l else l++[(k,z)]
def XX{κ:Type}[DecidableEq κ](k:κ)(l:List (κ×Value)):Nat:=match QM k l 0 with|some (i,_)=>i|none=>l.length
def IP{κ:Type}[DecidableEq κ]{enc:κ->Value}{k:κ}:∀{l:List (κ×Value)}{i j n:Nat}{x:Value},QM k l i=some (n,x)->i<=n/\(∃e,(Qs enc l j)[n-i]?=some e/\e.key=enc k/\e.born=j+(n-i)) /\
   (Qs enc l j).modify (n-i) (λ e=>{ e with key:=enc k })=Qs enc l j
 |[],_,_,_,_,h=>by cases h
 |p::l,i,j,n,x,h=>by
  simp only[QM]at h;split at h
  .simp_all[Nat.le_refl,Qs]
  .rename_i e;obtain⟨B,⟨y,b,f,w⟩,E⟩:=IP (enc:=enc) (j:=j+1) h;have z:n-i=(n-(i+1))+1:=O1
   refine⟨O1,?_,?_⟩
   .rw[z];exact⟨y,by simpa[Qs]using b,f,by rw[w];omega⟩
   grind[Qs,modify_succ_cons]
def EE{κ:Type}[DecidableEq κ]{enc:κ->Value}{t L N ty:TypeId}{b:Nat}{l:List (κ×Value)}{k:κ}{z:Value}{x y:Operand}{M':List Qx}(E:WJ T P L enc)(Z:P.underlying t=some (.map L N))(hz:Xq P N=some z)
  (hx:Zj f x=.map (some b)) (hy:Zj f y=enc k) (B:J4 b (Qt enc (X3 k z l)) (Qt enc l) U.M M') (h:K (.tuple #[(lk k l).getD z,.int .i64 (XX k l)]) { U with M:=M' }) :
  OX S (.raw { dst:=none,op:=.mapEntry t x y,type:=ty,pos := "", after:=#[],guard:=none }) f K U:=by
 intro a' W;obtain⟨aa,Y,F⟩:=PF hz;simp only[execOp,W,hx,hy];refine rq ?_;unfold Instr.mapEntry;simp only[Qd,Zg Z,getObj];refine⟨_,.inr B.mem,rfl,rfl,?_⟩;simp only[Qr,Qt,Qk,Qd];refine E.chk _ _ ?_;refine E.find k l ?_;unfold XX lk at h;unfold X3 lk at B;cases e:QM k l 0 with
 |none=>
  simp only[e,Option.map_none,Option.getD_none,Option.isSome_none,Bool.false_eq_true,if_false]at h B;simp only[Qd,XN Y F,setObj,Qr,Qk];refine⟨Qt enc l,M',?_,rfl,rfl,rfl,⟨_,.refl _,h⟩⟩
  have:Obj.map ((Qs enc l 0).toArray.push { key:=enc k,val:=z,born:=l.length }) (l.length+1)=Qt enc (l++[(k,z)]):=by
   simp only[Qt,length_append,length_cons,length_nil,TK,Qs,Nat.zero_add];congr 1;apply Array.ext';simp
  simp_all
 |some p=>
  obtain⟨n,w⟩:=p;simp only[e,Option.map_some,Option.getD_some,Option.isSome_some,if_true]at h B;obtain⟨h1,⟨Q,G,V,H⟩,I⟩:=IP (enc:=enc) (j:=0) e;rw[Nat.sub_zero]at G H I;have X:(Qs enc l 0).toArray[n]?=some Q:=by simpa using G
  simp only[X,Option.map_some,Option.getD_some,V,Qd];unfold Instr.keyThatStays;rw[E.bits k];simp only[if_true,Qk,setObj,Qr,H];refine⟨Qt enc l,M',?_,rfl,rfl,rfl,⟨_,.refl _,?_⟩⟩
  .have:Obj.map ((Qs enc l 0).toArray.modify n λ e=>{ e with key:=enc k }) l.length=Qt enc l:=by
    simp only[Qt];congr 1;apply Array.ext';rw[Array.toList_modify];exact I
   simp_all
  .rw[Nat.zero_add];exact h
def IG{κ:Type}(enc:κ->Value)(v:Value):∀(l:List (κ×Value))(j n:Nat),(Qs enc l j).modify n (λ e=>{ e with val:=v })=Qs enc (l.modify n λ p=>(p.1,v)) j
 |[],_,_=>by simp[Qs]
 |p::l,j,0=>by simp[Qs]
 |p::l,j,n+1=>by
  simp_all[Qs,modify_succ_cons,IG]
def yG{κ:Type}{enc:κ->Value}{t X:TypeId}{b n:Nat}{l:List (κ×Value)}{v:Value}{x s u:Operand}{M':List Qx}
  (W:Zj f x=.map (some b)) (T:Zj f s=.int .i64 n) (N:n<l.length) (V:Zj f u=v) (L:J4 b (Qt enc (l.modify n λ p=>(p.1,v))) (Qt enc l) U.M M') (h:K undef { U with M:=M' }) :
  OX S (.raw { dst:=none,op:=.entryStore t x s u,type:=X,pos := "", after:=#[],guard:=none }) f K U:=by
 intro a' G;simp only[execOp,G,W,T,V];refine ru ?_;unfold Instr.entryStore;simp only[Qd,getObj];refine⟨_,.inr L.mem,rfl,rfl,?_⟩;simp only[Qr,Qt,Qk,Qd,asInt,asIntOf]
 have w:(Qs enc l 0).toArray.findIdx? (λ e=>(e.born:Int)==(n:Int))=some n:=by
  rw[findIdx?_toArray,findIdx?_eq_some_iff_getElem];have P:l[n]?=some l[n]:=getElem?_eq_getElem N;have I:=Gy enc l 0 n _ P;obtain⟨E,H⟩:=List.getElem?_eq_some_iff.1 I;refine⟨E,by rw[H];simp,λ j Y=>?_⟩;obtain⟨q,Q⟩:∃q,l[j]?=some q:=⟨_,getElem?_eq_getElem O1⟩;have B:=Gy enc l 0 j q Q;obtain⟨F,z⟩:=List.getElem?_eq_some_iff.1 B;rw[z];simp;omega
 rw[w];simp only[setObj,Qr];refine⟨Qt enc l,M',?_,rfl,rfl,rfl,⟨_,.refl _,h⟩⟩
 have:Obj.map ((Qs enc l 0).toArray.modify n λ e=>{ e with val:=v }) l.length=Qt enc (l.modify n λ p=>(p.1,v)):=by
  simp only[Qt,length_modify];congr 1;apply Array.ext';rw[Array.toList_modify];exact IG enc v l 0 n
 simp_all
def CO{κ:Type}[DecidableEq κ](k:κ)(z v:Value)(l:List (κ×Value)):(X3 k z l).modify (XX k l) (λ p=>(p.1,v))=ZF k v l/\XX k l<(X3 k z l).length:=by
 have key:∀(l:List (κ×Value))(i:Nat),(match QM k l i with
   |some (n,_)=>i<=n/\n-i<l.length/\l.modify (n-i) (λ p=>(p.1,v))=ZF k v l
   |none=>ZF k v l=l++[(k,v)]):=by
  intro l
  induction l with
  |nil=>intro i;rfl
  |cons p l f=>
   intro i;simp only[QM];by_cases e:k=p.1
   .simp[e,ZF]
   .rw[if_neg e];have:=f (i+1);cases b:QM k l (i+1)with
    |none=>
     simp_all[ZF,if_neg]
    |some q=>
     obtain⟨n,w⟩:=q;rw[b]at this;simp only at this ⊢;obtain⟨B,E,F⟩:=this;have G:n-i=(n-(i+1))+1:=O1
     refine⟨O1,S3,?_⟩;simp_all[modify_succ_cons,ZF,if_neg]
 have h:=key l 0;unfold X3 XX lk;cases b:QM k l 0 with
 |none=>
  rw[b]at h;simp only at h;simp only[Option.map_none,Option.isSome_none,Bool.false_eq_true,if_false,length_append,length_cons,length_nil];refine⟨?_,O1⟩;rw[h];apply ext_getElem?;grind
 |some q=>
  simp_all
end Go.TM
set_option linter.unusedSimpArgs false
namespace Go.TM
variable{T:Type}{P:Program}{S:Sys P T}{fn:FuncId}{ro:Option Nat}
inductive X0(S:Sys P T)(ops:Array Oper)(rl:List Nat)(J:Qa T->Prop)(QA:Act->Qa T->Prop):List Nat->(Qa T->Prop)->Act->Prop
 |nil {C a}:(∀U',C U'->QA a U')->X0 S ops rl J QA [] C a
 |un {i rest C a o}:i∉rl->ops[i]?=some o->Region.wanted o (yielded ops a.tmps)=false->X0 S ops rl J QA rest C (a.put o.dst undef)->X0 S ops rl J QA (i::rest) C a
 |det {i rest C a o} (v:Value):i∉rl->ops[i]?=some o->Region.wanted o (yielded ops a.tmps)=true ->
   (∀U',J U'->QN S o a (λ v' U2=>v'=v/\∃U1,Qw U2 U1/\U'.le U1) U')->X0 S ops rl J QA rest C (a.put o.dst v)->X0 S ops rl J QA (i::rest) C a
 |rel {i rest C a o} (F:Value->Qa T->Prop):i∈rl->(∀v,XM (F v))->(∀v U',F v U'->J U')->ops[i]?=some o->Region.wanted o (yielded ops a.tmps)=true ->
   (∀U',C U'->QN S o a (λ v' U2=>∃U1,Qw U2 U1/\F v' U1) U')->(∀v,(∃U',F v U')->X0 S ops rl J QA rest (F v) (a.put o.dst v))->X0 S ops rl J QA (i::rest) C a
section sound
variable{ops:Array Oper}{rl qs ts:List Nat}
structure Xk(S:Sys P T)(ops:Array Oper)(rl qs:List Nat)(J:Qa T->Prop)(a_0:Act)(QA:Act->Qa T->Prop)(listed:Array Bool)(ac:Act)(U:Qa T)
  (pre L:List Nat) (C:Qa T->Prop) (av:Act) (val:Nat->Value):Prop where
 split:qs=pre++L
 der:X0 S ops rl J QA L C av
 mono:XM C
 inJ:∀U',C U'->J U'
 c:C U
 av:Jm ops val (·∈pre) a_0 av
 ac:Jm ops val (Li listed) a_0 ac
 sub:∀i,Li listed i->i∈pre
 size:listed.size=ops.size
 down:∀i,Li listed i->∀j∈Wx ops i,Li listed j
 rels:∀i∈pre,i∈rl->Li listed i
 pend:∀i∈pre,¬Li listed i->∃o ai p,qs[p]?=some i/\ops[i]?=some o/\Jm ops val (·∈qs.take p) a_0 ai /\
  ((Region.wanted o (yielded ops ai.tmps)=false/\val i=undef) \/
   (Region.wanted o (yielded ops ai.tmps)=true/\∀U',J U'->QN S o ai (λ v' U2=>v'=val i/\∃U1,Qw U2 U1/\U'.le U1) U'))
variable{J:Qa T->Prop}{a_0:Act}{QA:Act->Qa T->Prop}{listed:Array Bool}{ac av:Act}{U:Qa T}{pre L:List Nat}{C:Qa T->Prop}{val:Nat->Value}
def Xk.note(E:Jx ops [] qs ts){x:Nat}{rest:List Nat}(h:Xk S ops rl qs J a_0 QA listed ac U pre (x::rest) C av val)(v:Value) :
  Jm ops (ZV val x v) (·∈pre) a_0 av/\Jm ops (ZV val x v) (Li listed) a_0 ac /\
  (∀i∈pre,¬Li listed i->∃o f p,qs[p]?=some i/\ops[i]?=some o/\Jm ops (ZV val x v) (·∈qs.take p) a_0 f /\
   ((Region.wanted o (yielded ops f.tmps)=false/\ZV val x v i=undef) \/
    (Region.wanted o (yielded ops f.tmps)=true/\∀U',J U'->QN S o f (λ T M=>T=ZV val x v i/\∃I,Qw M I/\U'.le I) U'))):=by
 have H:=PV E h.split;refine⟨h.av.val λ j w=>Hr (λ e=>H (e▸w)),h.ac.val λ j w=>Hr (λ e=>H (e▸h.sub j w)),λ i F N=>?_⟩;obtain⟨o,f,p,K,Q,B,X⟩:=h.pend i F N;have P:i≠x:=λ e=>H (e▸F);refine⟨o,f,p,K,Q,B.val λ j w=>Hr λ e=>?_,by grind[Hr]⟩;subst e;obtain⟨p',b⟩:=mem_iff_getElem?.1 w;rw[getElem?_take]at b;split at b
 .rename_i hlt;have V:=HQ E (WY (ts:=ts) b) (WY (W9 h.split).2);obtain⟨L,z⟩:=mem_iff_getElem?.1 F;have G:L<pre.length:=(List.getElem?_eq_some_iff.1 z).1;have W:=HQ E (WY (ts:=ts) K) (WY (ts:=ts) (p:=L) (i:=i) (by rw[h.split,getElem?_append_left G];exact z));omega
 .cases b
def Xk.adv(w:Jx ops [] qs ts){x:Nat}{rest:List Nat}(h:Xk S ops rl qs J a_0 QA listed ac U pre (x::rest) C av val){v:Value}{o:Oper}(z:ops[x]?=some o)(H:x∉rl)
  (F:X0 S ops rl J QA rest C (av.put o.dst v))
  (G:(Region.wanted o (yielded ops av.tmps)=false/\v=undef)\/(Region.wanted o (yielded ops av.tmps)=true/\∀U',J U'->QN S o av (λ L E=>L=v/\∃f,Qw E f/\U'.le f) U')) :
  Xk S ops rl qs J a_0 QA listed ac U (pre++[x]) rest C (av.put o.dst v) (ZV val x v):=by
 obtain⟨B,I,K⟩:=h.note w v;have e:=Jm.put w B z;rw[HO]at e;refine⟨by rw[h.split];simp,F,h.mono,h.inJ,h.c,?_,I,λ i b=>mem_append_left _ (h.sub i b),h.size,h.down,?_,?_⟩
 .simp_all
 .intro i b hr;rcases mem_append.1 b with b|b
  .exact h.rels i b hr
  simp_all
 .intro i b hl;rcases mem_append.1 b with b|b
  .exact K i b hl
  .simp at b;subst b;refine⟨o,av,pre.length,(W9 h.split).2,z,by rw[(W9 h.split).1];exact B,?_⟩;rw[HO];exact G
def K7(ops:Array Oper)(rl qs:List Nat):Prop:=∀p x,qs[p]?=some x->x∈rl->∀i∈qs.drop (p+1),i∉rl->∃r∈qs.drop p,r∈rl/\JF ops r i
def Xk.reach(N:Jx ops [] qs ts)(E:K7 ops rl qs){i:Nat}(w:i∈qs)(hr:∀j∈Wx ops i,Li listed j) :
  ∀(L pre:List Nat)(C:Qa T->Prop)(av:Act)(val:Nat->Value),Xk S ops rl qs J a_0 QA listed ac U pre L C av val->(i∈rl->(L.filter λ x=>rl.contains x).head?=some i) ->
   ∃f I Z K G,Xk S ops rl qs J a_0 QA listed ac U f I Z K G/\(I.filter λ x=>rl.contains x)=(L.filter λ x=>rl.contains x)/\(i∈f\/∃rest,I=i::rest/\i∈rl):=by
 intro L
 induction L with
 |nil=>
  intro pre C av val h _;exact⟨pre,[],C,av,val,h,rfl,.inl (by have:=h.split;simp_all)⟩
 |cons x rest Y=>
  intro pre C av val h b;by_cases H:x∈rl
  .by_cases e:x=i
   .grind
   .by_cases hpre:i∈pre
    .grind
    .exfalso
     have X:i∈rest:=by
      rw[h.split]at w;simp at w;rcases w with w|w|w
      .simp_all
      .simp_all
      .exact w
     by_cases B:i∈rl
     .simp_all
     .obtain⟨r,hr1,hr2,hb⟩:=E pre.length x (W9 h.split).2 H i (by rw[h.split];simp[X]) B;have aa:=h.sub r (Wd h.down hb hr);rw[h.split]at hr1;simp at hr1;have P:=(nodup_append.1 N.nodup).1;rw[h.split]at P;grind
  .have hfil:((x::rest).filter λ x=>rl.contains x)=rest.filter λ x=>rl.contains x:=by rw[filter_cons,if_neg (by simpa using H)]
   rw[hfil]at b ⊢;have z:=h.der;cases z with
   |un _ Q W M=>exact Y _ _ _ _ (h.adv N Q H M (.inl ⟨W,rfl⟩)) b
   |det v _ Q W V M=>exact Y _ _ _ _ (h.adv N Q H M (.inr ⟨W,V⟩)) b
   |rel F X=>simp_all
def jM(M:Jx ops [] qs ts)(aq:K7 ops rl qs)(a5:∀i∈ts,i∉rl){Q:Ex->Act->Qa T->Prop}:∀(r t:Nat)(listed:Array Bool)(ac:Act)(U:Qa T)(pre L:List Nat)(C:Qa T->Prop)(av:Act)(val:Nat->Value),
  Xk S ops rl qs J a_0 (λ a U=>QX S fn ro ops ts Q a U) listed ac U pre L C av val->(qs.filter λ i=>!listed.getD i false).length=r ->
  ((Region.linearise.go .any ops (r+ts.length) t listed []).filter λ x=>rl.contains x)=(L.filter λ x=>rl.contains x) ->
  QX S fn ro ops (Region.linearise.go .any ops (r+ts.length) t listed []) Q ac U:=by
 intro r
 induction r with
 |zero=>
  intro t listed ac U pre L C av val h hr _
  have X:∀i∈qs,Li listed i:=by
   intro i hi;have:=filter_eq_nil_iff.1 (length_eq_zero_iff.1 hr) i hi;simpa[Li]using this
  have hL:L=[]:=by
   cases L with
   |nil=>rfl
   |cons x rest=>exact absurd (h.sub x (X x (by rw[h.split];simp))) (PV M h.split)
  subst hL;have z:pre=qs:=by have:=h.split;simp at this;exact this.symm
  subst z;have Y:=h.der;cases Y with
  |nil am=>
   have e:av=ac:=h.av.eq h.ac λ j=>⟨X j,h.sub j⟩;have:=am U h.c;rw[e]at this;rw[Nat.zero_add,Df M ts.length 0 t listed O1 h.size λ i=>?_]
   .simpa using this
   .rw[Nat.add_zero,take_left']
    .exact⟨h.sub i,X i⟩
    .rfl
 |succ r ih=>
  intro t listed ac U pre L C av val h hr E;obtain⟨q,hq⟩:∃q,q∈qs.filter λ i=>!listed.getD i false:=exists_mem_of_length_pos O1;have ax:=(mem_filter.1 hq).1;have aw:¬Li listed q:=by have:=(mem_filter.1 hq).2;simpa[Li]using this
  obtain⟨pq,a3⟩:=mem_iff_getElem?.1 ax;obtain⟨y,hy⟩:=Yt M h.size _ _ (WY (ts:=ts) a3) aw;obtain⟨i,hi,t',a0⟩:=Kt (k:=r+ts.length) (t:=t) (ne_nil_of_mem hy);have ae:=VU hi;have G:=(J6.1 hi).2.2;have au:=(J6.1 hi).1
  have ao:i∈qs:=by
   rcases mem_append.1 ((M.mem i).1 au)with hm|hm
   .exact hm
   .obtain⟨p1,hp1⟩:=mem_iff_getElem?.1 hm;exact absurd (Wd h.down (M.tail p1 i hp1 q (mem_append_left _ ax)) G) aw
  rw[show r+1+ts.length=(r+ts.length)+1 by omega,a0]at E ⊢;have B:∀j,Li (listed.setIfInBounds i true) j↔Li listed j\/j=i:=λ j=>VD (by rw[h.size];exact au)
  have I:(qs.filter λ x=>!(listed.setIfInBounds i true).getD x false).length=r:=by
   have a2:=(nodup_append.1 M.nodup).1
   have e:(qs.filter λ x=>!(listed.setIfInBounds i true).getD x false)=(qs.filter λ x=>!listed.getD x false).filter (λ x=>x != i):=by
    rw[filter_filter];refine filter_congr λ x _=>?_;have:=B x;simp only[Li]at this;grind
   rw[e,<- Nodup.erase_eq_filter (a2.filter _),length_erase_of_mem (mem_filter.2 ⟨ao,by grind[Li]⟩),hr];rfl
  have ad:i∈rl->(L.filter λ x=>rl.contains x).head?=some i:=λ aa=>by
   grind
  obtain⟨ab,L',C',af,P,b,al,ag⟩:=Xk.reach M aq ao G L pre C av val h ad;rw[<- al]at E
  have K:∀j,Li (listed.setIfInBounds i true) j->∀k∈Wx ops j,Li (listed.setIfInBounds i true) k:=by
   intro j f k hk;rw[B]at f ⊢;rcases f with f|rfl
   .exact .inl (h.down j f k hk)
   .exact .inl (G k hk)
  have N:∀{val:Nat->Value}{o:Oper},ops[i]?=some o->Jm ops val (Li listed) a_0 ac->Jm ops val (Li (listed.setIfInBounds i true)) a_0 (ac.put o.dst (val i)):=by
   intro val o V ha;have:=Jm.put M ha V;have e:Li (listed.setIfInBounds i true)=λ j=>Li listed j\/j=i:=by funext j;exact propext (B j)
   rw[e];exact this
  by_cases z:i∈ab
  .obtain⟨o,ai,p,hp,V,hag,hh⟩:=b.pend i z ae;have ap:i∉rl:=λ aa=>ae (b.rels i z aa)
   have H:((Region.linearise.go .any ops (r+ts.length) t' (listed.setIfInBounds i true) []).filter λ x=>rl.contains x)=(L'.filter λ x=>rl.contains x):=by
    rw[<- E,filter_cons,if_neg (by simpa using ap)]
   have w:=Px V (M.nosel i o V) (a:=ac) (a':=ai) λ s hs=>b.ac.slot hag λ j f=>P0 M b.down hp ae G hs f
   have next:∀W,U.le W->Xk S ops rl qs J a_0 (λ a U=>QX S fn ro ops ts Q a U) (listed.setIfInBounds i true) (ac.put o.dst (P i)) W ab L' C' af P:=λ W a1=>
    ⟨b.split,b.der,b.mono,b.inJ,b.mono _ _ b.c a1,b.av,N V b.ac,λ j f=>((B j).1 f).elim (b.sub j) (λ e=>e▸z),by simpa using b.size,K,λ j f hr=>(B j).2 (.inl (b.rels j f hr)),
     λ j f hl=>b.pend j f λ hx=>hl ((B j).2 (.inl hx))⟩
   rcases hh with⟨hw,hv⟩|⟨hw,ah⟩
   .refine PE V (by rw[w.2];exact hw) ?_;have:=ih t' _ _ _ _ _ _ _ _ (next U (.refl U)) I H;simp_all
   .have Z:QN S o ac (λ v' U2=>v'=P i/\∃W,Qw U2 W/\U.le W) U:=by have:=ah U (b.inJ U b.c);unfold QN at this ⊢;rw[w.1];exact this
    refine H0 V (by rw[w.2];exact hw) (.inr (PW Z)) (P6 Z λ v U2 hv=>?_);grind[Ge]
  .obtain⟨rest,rfl,aa⟩:=ag.resolve_left z
   have H:((Region.linearise.go .any ops (r+ts.length) t' (listed.setIfInBounds i true) []).filter λ x=>rl.contains x)=(rest.filter λ x=>rl.contains x):=by
    rw[filter_cons,if_pos (by simpa using aa),filter_cons,if_pos (by simpa using aa)]at E;exact(List.cons.inj E).2
   have Y:=b.der;cases Y with
   |un hx _ _ _=>simp_all
   |det _ hx _ _ _ _=>simp_all
   |@rel _ _ _ _ o F _ hF ay V hw ah hd=>
    obtain⟨a4,an⟩:=W9 b.split
    have w:=Px V (M.nosel i o V) (a:=ac) (a':=af) λ s hs=>b.ac.slot b.av λ j f=>by
     have:=P0 M b.down an ae G hs f;simp_all
    have Z:QN S o ac (λ v' U2=>∃W,Qw U2 W/\F v' W) U:=by have:=ah U b.c;unfold QN at this ⊢;rw[w.1];exact this
    refine H0 V S2 (.inr (PW Z)) (P6 Z λ v U2 hv=>?_);obtain⟨W,hs,aj⟩:=hv;refine Ge hs ?_;obtain⟨n1,n2,n3⟩:=b.note M v;have az:=Jm.put M n1 V;have ak:=N V n2;rw[HO]at az ak;refine ih t' _ _ W (ab++[i]) rest (F v) (af.put o.dst v) (ZV P i v) ⟨by rw[b.split];simp,hd v ⟨W,aj⟩,hF v,ay v,aj,?_,ak,?_,by simpa using b.size,K,?_,?_⟩ I H
    .simp_all
    .intro j f;rcases(B j).1 f with f|rfl
     .exact mem_append_left _ (b.sub j f)
     .simp
    .intro j f hr;rw[B];rcases mem_append.1 f with f|f
     .exact .inl (b.rels j f hr)
     simp_all
    .intro j f hl;rcases mem_append.1 f with f|f
     .exact n3 j f λ hx=>hl ((B j).2 (.inl hx))
     simp_all
def zV(G:Jx ops [] qs ts):∀(r t:Nat)(listed:Array Bool),listed.size=ops.size->(∀i,Li listed i->∀j∈Wx ops i,Li listed j)->((qs++ts).filter λ i=>!listed.getD i false).length=r ->
  let g:=Region.linearise.go .any ops r t listed [];(∀i,i∈g↔i<ops.size/\¬Li listed i)/\g.Nodup/\g.Pairwise λ i j=>¬JF ops j i:=by
 intro r
 induction r with
 |zero=>
  intro t listed H _ N
  have P:∀i,i<ops.size->Li listed i:=λ i B=>by
   have:=filter_eq_nil_iff.1 (length_eq_zero_iff.1 N) i ((G.mem i).1 B);simpa[Li]using this
  simp_all[Region.linearise.go,reverse_nil,absurd]
 |succ r Z=>
  intro t listed H z N;obtain⟨q,Q⟩:∃q,q∈(qs++ts).filter λ i=>!listed.getD i false:=exists_mem_of_length_pos O1;have M:¬Li listed q:=by have:=(mem_filter.1 Q).2;simpa[Li]using this
  obtain⟨pq,L⟩:=mem_iff_getElem?.1 (mem_filter.1 Q).1;obtain⟨y,Y⟩:=Yt G H _ _ L M;obtain⟨i,B,T,I⟩:=Kt (k:=r) (t:=t) (ne_nil_of_mem Y);have X:=VU B;have w:=(J6.1 B).2.2;have F:=(J6.1 B).1;have h:∀j,Li (listed.setIfInBounds i true) j↔Li listed j\/j=i:=λ j=>VD (by rw[H];exact F)
  have f:∀j,Li (listed.setIfInBounds i true) j->∀k∈Wx ops j,Li (listed.setIfInBounds i true) k:=by
   intro j E k V;rw[h]at E ⊢;rcases E with E|rfl
   .grind
   .exact .inl (w k V)
  have b:((qs++ts).filter λ x=>!(listed.setIfInBounds i true).getD x false).length=r:=by
   have e:((qs++ts).filter λ x=>!(listed.setIfInBounds i true).getD x false)=((qs++ts).filter λ x=>!listed.getD x false).filter (λ x=>x != i):=by
    rw[filter_filter];refine filter_congr λ x _=>?_;have:=h x;simp only[Li]at this;grind
   rw[e,<- Nodup.erase_eq_filter (G.nodup.filter _),length_erase_of_mem (mem_filter.2 ⟨(G.mem i).1 F,by grind[Li]⟩),N];rfl
  obtain⟨S,k2,k3⟩:=Z T _ (by simpa using H) f b;simp only;rw[I];have K:i∉Region.linearise.go .any ops r T (listed.setIfInBounds i true) []:=λ W=>((S i).1 W).2 ((h i).2 (.inr rfl));refine⟨λ j=>?_,nodup_cons.2 ⟨K,k2⟩,pairwise_cons.2 ⟨λ j E U=>?_,k3⟩⟩
  .grind
  .exact((S j).1 E).2 ((h j).2 (.inl (Wd z U w)))
end sound
def SF(b:Nat->Nat->Bool)(ok:List Nat->Bool):Nat->List Nat->List Nat->Bool
 |0,_,pre=>ok pre
 |n+1,rem,pre=>rem.all λ i=>(rem.any λ j=>j != i&&b j i)|| SF b ok n (rem.erase i) (pre++[i])
def Lg{G:Nat->Nat->Bool}{ok:List Nat->Bool}:∀(n:Nat)(rem pre ρ:List Nat),SF G ok n rem pre=true->rem.length=n->ρ.Perm rem->ρ.Nodup->(ρ.Pairwise λ i j=>G j i=false)->ok (pre++ρ)=true
 |0,rem,pre,ρ,h,H,z,_,_=>by
  have:ρ=[]:=length_eq_zero_iff.1 S2;subst this;rw[append_nil];exact h
 |n+1,rem,pre,ρ,h,H,z,E,I=>by
  cases ρ with
  |nil=>simp_all
  |cons i ρ=>
   have B:i∈rem:=z.subset (mem_cons_self ..);have f:=pairwise_cons.1 I;have w:=nodup_cons.1 E;have b:=all_eq_true.1 h i B;rw[Bool.or_eq_true]at b;rcases b with b|b
   .obtain⟨j,hj,h2⟩:=any_eq_true.1 b;rw[Bool.and_eq_true]at h2;have F:j≠i:=by simpa using h2.1
    rcases mem_cons.1 (z.symm.subset hj)with e|K
    .exact absurd e F
    .rw[f.1 j K]at h2;cases h2.2
   .have:=Lg n (rem.erase i) (pre++[i]) ρ b (by rw[length_erase_of_mem B,H];rfl) ((perm_cons_erase B).symm.trans z.symm|>.cons_inv|>.symm) w.2 f.2
    rwa [append_assoc]at this
def E6(ops:Array Oper)(rl qs:List Nat):Bool:=
 let b:=W_ ops ops.size
 (range qs.length).all λ p=>!rl.contains (qs.getD p 0)|| (qs.drop (p+1)).all λ i=>rl.contains i|| (qs.drop p).any λ r=>rl.contains r&&(b.getD i 0).testBit r
def wG{ops:Array Oper}{rl qs:List Nat}(h:E6 ops rl qs=true):K7 ops rl qs:=λ p x B F i E z=>by
 have w:=(List.getElem?_eq_some_iff.1 B).1;have b:=all_eq_true.1 h p (mem_range.2 w);have e:qs.getD p 0=x:=by rw[getD_eq_getElem?_getD,B];rfl
 rw[e]at b;simp only[Bool.or_eq_true,Bool.not_eq_true']at b;rcases b with b|b
 .simp_all
 .have f:=all_eq_true.1 b i E;rw[Bool.or_eq_true]at f;rcases f with f|f
  .simp_all
  .obtain⟨r,hr,h3⟩:=any_eq_true.1 f;rw[Bool.and_eq_true]at h3;grind[Wr]
def Tm(ops:Array Oper)(rl:List Nat)(alts:List (List Nat))(ts:List Nat):Bool:=
 !alts.isEmpty&&alts.all (λ qs=>PB ops [] qs ts&&E6 ops rl qs)&&ts.all (λ i=>!rl.contains i)&&(decide rl.Nodup&&rl.all λ i=>decide (i<ops.size)) &&
 SF (λ j i=>((W_ ops ops.size).getD i 0).testBit j) (λ ρ=>alts.any λ qs=>(qs.filter λ x=>rl.contains x)==ρ) rl.length rl []
def Ik{J:Qa T->Prop}{Q:Ex->Act->Qa T->Prop}{a:Act}{U:Qa T}{id:Nat}{ops:Array Oper}(rl:List Nat)(alts:List (List Nat))(ts:List Nat)(C:Qa T->Prop)(hC:XM C)(N:∀U',C U'->J U')(V:C U)(hm:P.follows .mixedOrders=true)(z:Tm ops rl alts ts=true)
  (h:∀qs∈alts,X0 S ops rl J (λ a U=>QX S fn ro ops ts Q a U) qs C a):Zw S fn ro (.region id ops true) Q a U:=by
 unfold Tm at z;simp only[Bool.and_eq_true,Bool.not_eq_true']at z;obtain⟨⟨⟨⟨M,h2⟩,h3⟩,h4,h5⟩,h6⟩:=z
 have Z:∀i∈ts,i∉rl:=λ i W hr=>by
  have:=all_eq_true.1 h3 i W;rw[show rl.contains i=true by simpa using hr]at this;cases this
 have X:rl.Nodup:=of_decide_eq_true h4;have Y:∀i∈rl,i<ops.size:=λ i W=>of_decide_eq_true (all_eq_true.1 h5 i W)
 have f:∀qs∈alts,Jx ops [] qs ts/\K7 ops rl qs:=λ qs E=>by
  have:=all_eq_true.1 h2 qs E;rw[Bool.and_eq_true]at this;exact⟨FY this.1,wG this.2⟩
 have e:∀i,¬Li (Array.replicate ops.size false) i:=by
  intro i h;simp only[Li,Array.getD_eq_getD_getElem?,Array.getElem?_replicate]at h;split at h <;> simp at h
 have b:∀l:List Nat,(l.filter λ i=>!(Array.replicate ops.size false).getD i false).length=l.length:=λ l=>by
  congr 1;rw[filter_eq_self];intro x _;have:=e x;simp only[Li]at this;simpa using this
 have w:∀qs∈alts,ops.size=qs.length+ts.length:=λ qs E=>by
  have L:=(f qs E).1
  have M:(qs++ts).Perm (range ops.size):=by
   refine(perm_ext_iff_of_nodup L.nodup nodup_range).2 λ x=>?_;rw[mem_range];exact(L.mem x).symm
  have:=M.length_eq;simp at this;omega
 refine M5 λ t=>?_;simp only[Region.schedule,hm,Bool.true_or,if_true,Region.linearise];obtain⟨K,I⟩:∃q,q∈alts:=by cases alts with|nil=>cases M|cons q _=>exact⟨q,mem_cons_self ..⟩
 obtain⟨g1,g2,g3⟩:=zV (f K I).1 ops.size t (Array.replicate ops.size false) S1 (λ i h=>absurd h (e i)) (by rw[b,length_append,<- w K I])
 have B:((Region.linearise.go .any ops ops.size t (Array.replicate ops.size false) []).filter λ x=>rl.contains x).Perm rl:=by
  refine(perm_ext_iff_of_nodup (g2.filter _) X).2 λ x=>?_;rw[mem_filter,g1];constructor
  .rintro⟨_,h⟩;simpa using h
  .intro h;exact⟨⟨Y x h,e x⟩,by simpa using h⟩
 have G:=Lg rl.length rl [] _ h6 rfl B (g2.filter _) ((g3.filter _).imp λ{i j}hb=>by
  cases hx:((W_ ops ops.size).getD i 0).testBit j with
  |false=>rfl
  |true=>exact absurd (Wr ops _ _ _ hx) hb)
 obtain⟨qs,F,E⟩:=any_eq_true.1 G;have E:(qs.filter λ x=>rl.contains x)=(Region.linearise.go .any ops ops.size t (Array.replicate ops.size false) []).filter λ x=>rl.contains x:=by simpa using E
 obtain⟨L,H⟩:=f qs F
 have:=jM (S:=S) (fn:=fn) (ro:=ro) (Q:=Q) (J:=J) L H Z qs.length t (Array.replicate ops.size false) a U [] qs C a (λ _=>undef)
  ⟨rfl,h qs F,hC,N,V,⟨rfl,rfl,λ _ _ _ h=>by simp at h,λ _ _=>rfl⟩,⟨rfl,rfl,λ _ j _ h=>absurd h (e j),λ _ _=>rfl⟩,λ i h=>absurd h (e i),S1,λ i h=>absurd h (e i),S1,S1⟩ (b qs) (by rw[<- w qs F,E])
 grind
end Go.TM
set_option linter.unusedSimpArgs false
namespace Go.TM
variable{T:Type}{P:Program}{S:Sys P T}{fn:FuncId}{ro:Option Nat}
def KP(S:Sys P T)(h:Qa T)(kd:Nat)(st:St)(w:(Qa T->Prop)->Zm T->Fm->List Deferred->Prop)(C:Qa T->Prop)(K:Zm T)(ds:List Deferred)(f:Fm):Prop:=match kd with
 |0=>OX S st.o f (λ v _=>w C K (ZD f st.dst v) ds) h
 |1=>∃v,(∀U',h.lg U'->OX S st.o f (λ z e=>z=v/\∃b,Qw e b/\U'.le b) U')/\w C K (ZD f st.dst v) ds
 |_=>∃F:Value->Qa T->Prop,(∀v,XM (F v))/\(∀v U',F v U'->h.lg U')/\(∀U',C U'->OX S st.o f (λ z e=>∃b,Qw e b/\F z b) U')/\∀v,(∃U',F v U')->w (F v) K (ZD f st.dst v) ds
def KY(S:Sys P T)(w:Qa T)(kd:Nat)(st:St)(h:(Qa T->Prop)->Zm T->Fm->List Deferred->Prop)(C:Qa T->Prop)(K:Zm T)(f:Fm)(ds:List Deferred):Prop:=match st.g with
 |some (j,e)=>(match f j with
  |.bool b=>GB b e (KP S w kd st h C K ds (JH f j (.bool e))) (h C K (ZD (JH f j (.bool !e)) st.dst undef) ds)
  |.tuple _=>h C K (ZD f st.dst undef) ds
  |_=>False)
 |none=>KP S w kd st h C K ds f
def Hv(S:Sys P T)(b:Qa T)(l:List (Nat×St)):(Qa T->Prop)->Zm T->Fm->List Deferred->Prop:=
 List.rec (motive:=λ _=>(Qa T->Prop)->Zm T->Fm->List Deferred->Prop) (λ C K f ds=>∀U',C U'->K f ds U') (λ p _ e=>KY S b p.1 p.2 e) l
def IV(S:Sys P T)(b:Qa T)(kd:Nat)(st:St)(r:List (Nat×St)):Hv S b ((kd,st)::r)=KY S b kd st (Hv S b r):=rfl
def oL{o:O}{f:Fm}{K:Value->Qa T->Prop}{U:Qa T}(B:stable o=true)(h:OX S o f K U):∃v,K v U/\∀(U':Qa T)(z:Value->Qa T->Prop),U.lg U'->z v U'->OX S o f z U':=by
 by_cases w:GO o=true
 .cases o with
  |ld x=>
   simp only[OX,Qz]at h;split at h <;> rename_i e
   .obtain⟨v,a,b⟩:=h;exact⟨v,b,λ U' z w k=>by simp only[OX,Qz,e];exact⟨v,a.lg w,k⟩⟩
   .exact h.elim
  |ldn n x=>
   simp only[OX]at h;split at h <;> rename_i e
   .obtain⟨v,a,b⟩:=h;exact⟨_,b,λ U' z w k=>by simp only[OX,Qz,e];exact⟨v,⟨a.1,a.2.lg w⟩,k⟩⟩
   .exact h.elim
  |_=>cases w
 grind[OX.stable]
def Xc(P:Program)(mu:List Nat)(ops:Array Oper)(rl:List Nat)(i:Nat):Nat:=
 if rl.contains i then 2 else match ops[i]? with
  |some o=>if stable (Q8 P mu o)then 0 else 1
  |none=>1
def FT{N:Nat}{mu:List Nat}{ops:Array Oper}{QA:Act->Qa T->Prop}{K:Zm T}{Y:Qa T}{rl:List Nat}(aa:∀a f ds U',FR N a f ds->K f ds U'->QA a U')(hN:∀(i:Nat)(o:Oper),ops[i]?=some o->∀d,o.dst=some d->d<N) :
  ∀(z:List Nat)(l:List (Nat×St)),z.mapM (λ i=>((ops[i]?).bind (Jj P mu ops)).map λ st=>(Xc P mu ops rl i,st))=some l->(l.all λ x=>x.2.dfr.isNone)=true->(∀i∈z,∀o,ops[i]?=some o->o.guard=none\/i∉rl) ->
   ∀(a:Act)(f:Fm)(ds:List Deferred)(C:Qa T->Prop),FR N a f ds->Hv S Y l C K f ds->X0 S ops rl (λ U'=>Y.lg U') QA z C a:=by
 intro z
 induction z with
 |nil=>
  intro l hl _ _ a f ds C B h;simp at hl;subst hl;exact .nil λ U' hc=>aa a f ds U' B (h U' hc)
 |cons i z ih=>
  intro l hl G ab a f ds C B h;simp only[mapM_cons,Option.pure_def,Option.bind_eq_bind,Option.bind_eq_some_iff,Option.map_eq_some_iff]at hl;obtain⟨x,⟨st,⟨o,H,U⟩,rfl⟩,l',ad,e⟩:=hl;cases e;simp only[all_cons,Bool.and_eq_true]at G;have W:=hN i o H;have E:=ih l' ad G.2 (λ j hj=>ab j (mem_cons_of_mem _ hj))
  have I:(i∈rl/\Xc P mu ops rl i=2)\/(i∉rl/\Xc P mu ops rl i=0/\stable (Q8 P mu o)=true)\/(i∉rl/\Xc P mu ops rl i=1):=by
   unfold Xc;by_cases X:i∈rl
   .simp_all
   .simp_all
  have run:∀{f:Fm}{st:St},st.o=Q8 P mu o->st.dst=o.dst->FR N a f ds->Region.wanted o (yielded ops a.tmps)=true->KP S Y (Xc P mu ops rl i) st (Hv S Y l') C K ds f->X0 S ops rl (λ U'=>Y.lg U') QA (i::z) C a:=by
   intro f st e1 e2 B V h;unfold KP at h;rw[e1,e2]at h;rcases I with⟨X,I⟩|⟨X,I,hs⟩|⟨X,I⟩
   .rw[I]at h;obtain⟨F,hF,ac,M,hn⟩:=h;refine .rel F X hF ac H V (λ U' hc=>?_) (λ v hv=>E _ _ _ _ (B.put o.dst v W) (hn v hv));exact W2 (λ x=>B.eval x) (λ v' U2 U3 hs⟨U1,a,b⟩=>⟨U1,hs.trans a,b⟩) (M U' hc)
   .rw[I]at h;obtain⟨v,hn,U⟩:=oL hs h;refine .det v X H V (λ U' L=>?_) (E _ _ _ _ (B.put o.dst v W) hn);exact W2 (λ x=>B.eval x) Jt (U U' _ L ⟨rfl,U',.refl _,.refl _⟩)
   .rw[I]at h;obtain⟨v,M,hn⟩:=h;refine .det v X H V (λ U' L=>?_) (E _ _ _ _ (B.put o.dst v W) hn);exact W2 (λ x=>B.eval x) Jt (M U' L)
  cases Vd U with
  |plain ae hg=>simp only[IV,KY]at h;grind[Wp]
  |@guarded j w d ae hg Z=>
   simp only[IV,KY]at h;have Q:i∉rl:=(ab i (mem_cons_self ..) o H).resolve_left (by rw[hg];simp);split at h
   .rename_i b hb;have V:=Tb (ops:=ops) (o:=o) hg Z (B.slot hb);have e:JH f d (.bool b)=f:=Kz hb;cases b <;> cases w <;> simp only[GB,Bool.not_true,Bool.not_false]at h <;> rw[e]at h
    .exact run rfl rfl B (by rw[V];rfl) h
    .exact .un Q H (by rw[V];rfl) (E _ _ _ _ (B.put o.dst undef W) h)
    .exact .un Q H (by rw[V];rfl) (E _ _ _ _ (B.put o.dst undef W) h)
    grind
   .rename_i vs hb;exact .un Q H (TU B hg Z hb) (E _ _ _ _ (B.put o.dst undef W) h)
   .exact h.elim
  |dfr=>simp at G
def Gz(N:Nat)(ops:Array Oper)(rl:List Nat)(alts:List (List Nat))(ts:List Nat):Bool:=
 Tm ops rl alts ts&&ops.all (Gn N)&&rl.all λ i=>((ops[i]?).map (·.guard.isNone)).getD true
def pp{N:Nat}{mu:List Nat}{c:Code}{id:Nat}{ops:Array Oper}{n:Zm T}{x:Nat->Zm T}{r:Zm T}{f:Fm}{ds:List Deferred}{U:Qa T}(rl:List Nat)(alts:List (List Nat))(ts:List Nat)(I:List (List (Nat×St)))(lt:List St)(hm:P.follows .mixedOrders=true)
  (hc:c=.region id ops true) (b:Gz N ops rl alts ts=true) (H:alts.mapM (λ qs=>qs.mapM λ i=>((ops[i]?).bind (Jj P mu ops)).map λ st=>(Xc P mu ops rl i,st))=some I) (W:ts.mapM (λ i=>(ops[i]?).bind (Jj P mu ops))=some lt)
  (F:(I.all λ l=>l.all λ x=>x.2.dfr.isNone)=true) (E:Zm T) (h:∀l∈I,Hv S U.frz l (λ U'=>U.le U') E f ds) (hE:∀B w U',E B w U'->JW S ro lt n B w U'):TB S fn ro N c n x r f ds U:=by
 subst hc;intro a G;unfold Gz at b;simp only[Bool.and_eq_true]at b;obtain⟨⟨b,Q⟩,hg⟩:=b
 have Y:∀(i:Nat)(o:Oper),ops[i]?=some o->∀d,o.dst=some d->d<N:=λ i o L d hd=>by
  have:=(Array.all_eq_true'.1 Q) o (Array.mem_of_getElem? L);unfold Gn at this;rw[hd]at this;exact of_decide_eq_true this
 have aa:∀i∈rl,∀o,ops[i]?=some o->o.guard=none:=λ i hi o L=>by
  have:=all_eq_true.1 hg i hi;rw[L]at this;simpa using this
 refine Ik (J:=λ U'=>U.frz.lg U') rl alts ts (λ U'=>U.le U') (λ _ _ h k=>h.trans k) (λ U' h=>⟨h.imm,⟨_,(append_nil _).symm⟩,h.tok⟩) (.refl U) hm b λ qs z=>?_
 obtain⟨l,Z,V⟩:∃l,l∈I/\qs.mapM (λ i=>((ops[i]?).bind (Jj P mu ops)).map λ st=>(Xc P mu ops rl i,st))=some l:=by
  clear h F b
  induction alts generalizing I with
  |nil=>cases z
  |cons q alts ih=>
   simp only[mapM_cons,Option.pure_def,Option.bind_eq_bind,Option.bind_eq_some_iff]at H;obtain⟨l,h1,X,h2,e⟩:=H;cases e;rcases mem_cons.1 z with rfl|z
   .exact⟨l,mem_cons_self ..,h1⟩
   .obtain⟨l',h3,h4⟩:=ih X h2 z;exact⟨l',mem_cons_of_mem _ h3,h4⟩
 refine FT (K:=E) (λ a' B w U' M hk=>?_) Y qs l V (all_eq_true.1 F l Z) (λ i _ o L=>?_) a f ds _ G (h l Z)
 .refine P8 (n:=n) (λ a f ds U G h=>?_) Y ts lt W a' B w U' M (hE B w U' hk);refine⟨by rw[G.size,‹FR N _ _ _›.size],f,G.get,?_⟩;rw[G.ds];exact h
 grind
def SQ{N:Nat}{mu:List Nat}{c:Code}{id:Nat}{ops:Array Oper}{Q:Ex->Act->Qa T->Prop}{a:Act}{f:Fm}{ds:List Deferred}{U:Qa T}(K:FR N a f ds)(rl:List Nat)(alts:List (List Nat))(ts:List Nat)(w:List (List (Nat×St)))(lt:List St)(W:P.follows .mixedOrders=true)
  (M:c=.region id ops true) (H:Gz N ops rl alts ts=true) (F:alts.mapM (λ qs=>qs.mapM λ i=>((ops[i]?).bind (Jj P mu ops)).map λ st=>(Xc P mu ops rl i,st))=some w) (G:ts.mapM (λ i=>(ops[i]?).bind (Jj P mu ops))=some lt)
  (B:(w.all λ l=>l.all λ x=>x.2.dfr.isNone)=true) (E:Zm T) (h:∀l∈w,Hv S U.frz l (λ U'=>U.le U') E f ds) (L:∀z b U',E z b U'->JW S ro lt (λ f ds U=>∀a',FR N a' f ds->Q .normal a' U) z b U'):Zw S fn ro c Q a U:=by
 have:=pp (S:=S) (fn:=fn) (ro:=ro) (n:=λ f ds U=>∀a',FR N a' f ds->Q .normal a' U) (x:=λ _ _ _ _=>False) (r:=λ _ _ _=>False) (U:=U) rl alts ts w lt W M H F G B E h L a K;refine Zw.mono this λ e a' U'⟨X,z,V,I⟩=>?_;cases e with
 |normal=>exact I a' ⟨rfl,by rw[X];exact K.size,V⟩
 |exit i=>exact I.elim
 |ret=>exact I.elim
structure V3(U:Qa T)(b:Nat)(e:TypeId)(c:Array Value)(U':Qa T):Prop where
 imm:∀x o,U.I x=some o->U'.I x=some o
 own:U'.M=.obj b (.cells c e (0,0))::U.M
 tok:U'.tok=U.tok
 new:U.I b=none
def V3.le{U U' f:Qa T}{b:Nat}{e:TypeId}{c:Array Value}(h:V3 U b e c U')(k:U'.le f):V3 U b e c f:=⟨λ x o i=>k.imm x o (h.imm x o i),k.own.trans h.own,k.tok.trans h.tok,h.new⟩
def V3.write{U U':Qa T}{b:Nat}{e:TypeId}{c:Array Value}{vs:List Value}{Q:Qa T->Prop}(h:V3 U b e c U')(w:c.size=vs.length)(B:∀v∈vs,v.single=true)(z:∀f,U.le f->Zi f b vs.toArray->Q f):ZA ⟨b,0,none⟩ vs 0 (λ U'=>∃f,Qw U' f/\Q f) U':=by
 refine VP [] vs 0 c U' h.own B O1 ?_;rw[Y7 w];refine⟨_,We (b:=b) (M':=U.M) (Perm.refl _),z _ ⟨λ x o i=>?_,rfl,h.tok⟩ Zi.new⟩;show JI U'.I b _ x=_;unfold JI;rw[if_neg]
 .exact h.imm x o i
 .rintro rfl;rw[h.new]at i;cases i
end Go.TM
set_option linter.unusedSimpArgs false
namespace Go.TM
variable{T:Type}{P:Program}{S:Sys P T}{fn:FuncId}{ro:Option Nat}
def A5{N:Nat}{mu:List Nat}{c:Code}{id:Nat}{ops:Array Oper}{n:Zm T}{x:Nat->Zm T}{r:Zm T}{f:Fm}{ds:List Deferred}{U:Qa T}(M:Qa T)(Q:M.lg U)(rl:List Nat)(alts:List (List Nat))(ts:List Nat)(I:List (List (Nat×St)))(lt:List St)(hm:P.follows .mixedOrders=true)
  (hc:c=.region id ops true) (b:Gz N ops rl alts ts=true) (H:alts.mapM (λ qs=>qs.mapM λ i=>((ops[i]?).bind (Jj P mu ops)).map λ st=>(Xc P mu ops rl i,st))=some I) (Y:ts.mapM (λ i=>(ops[i]?).bind (Jj P mu ops))=some lt)
  (F:(I.all λ l=>l.all λ x=>x.2.dfr.isNone)=true) (E:Zm T) (h:∀l∈I,Hv S M l (λ U'=>U.le U') E f ds) (hE:∀B w U',E B w U'->JW S ro lt n B w U'):TB S fn ro N c n x r f ds U:=by
 subst hc;intro a G;unfold Gz at b;simp only[Bool.and_eq_true]at b;obtain⟨⟨b,W⟩,hg⟩:=b
 have hN:∀(i:Nat)(o:Oper),ops[i]?=some o->∀d,o.dst=some d->d<N:=λ i o L d hd=>by
  have:=(Array.all_eq_true'.1 W) o (Array.mem_of_getElem? L);unfold Gn at this;rw[hd]at this;exact of_decide_eq_true this
 have aa:∀i∈rl,∀o,ops[i]?=some o->o.guard=none:=λ i hi o L=>by
  have:=all_eq_true.1 hg i hi;rw[L]at this;simpa using this
 refine Ik (J:=λ U'=>M.lg U') rl alts ts (λ U'=>U.le U') (λ _ _ h k=>h.trans k) (λ U' h=>Q.trans h.lg) (.refl U) hm b λ qs z=>?_
 obtain⟨l,hl,X⟩:∃l,l∈I/\qs.mapM (λ i=>((ops[i]?).bind (Jj P mu ops)).map λ st=>(Xc P mu ops rl i,st))=some l:=by
  clear h F b
  induction alts generalizing I with
  |nil=>cases z
  |cons q alts ih=>
   simp only[mapM_cons,Option.pure_def,Option.bind_eq_bind,Option.bind_eq_some_iff]at H;obtain⟨l,h1,Z,h2,e⟩:=H;cases e;rcases mem_cons.1 z with rfl|z
   .exact⟨l,mem_cons_self ..,h1⟩
   .obtain⟨l',h3,h4⟩:=ih Z h2 z;exact⟨l',mem_cons_of_mem _ h3,h4⟩
 refine FT (K:=E) (λ a' B w U' V hk=>?_) hN qs l X (all_eq_true.1 F l hl) (λ i _ o L=>?_) a f ds _ G (h l hl)
 .refine P8 (n:=n) (λ a f ds U G h=>?_) hN ts lt Y a' B w U' V (hE B w U' hk);refine⟨by rw[G.size,‹FR N _ _ _›.size],f,G.get,?_⟩;rw[G.ds];exact h
 grind
def LE{N:Nat}{mu:List Nat}{c:Code}{id:Nat}{ops:Array Oper}{Q:Ex->Act->Qa T->Prop}{a:Act}{f:Fm}{ds:List Deferred}{U:Qa T}(M:FR N a f ds)(z:Qa T)(F:z.lg U)(rl:List Nat)(alts:List (List Nat))(ts:List Nat)(w:List (List (Nat×St)))(lt:List St)(Y:P.follows .mixedOrders=true)
  (W:c=.region id ops true) (K:Gz N ops rl alts ts=true) (H:alts.mapM (λ qs=>qs.mapM λ i=>((ops[i]?).bind (Jj P mu ops)).map λ st=>(Xc P mu ops rl i,st))=some w) (I:ts.mapM (λ i=>(ops[i]?).bind (Jj P mu ops))=some lt)
  (G:(w.all λ l=>l.all λ x=>x.2.dfr.isNone)=true) (E:Zm T) (h:∀l∈w,Hv S z l (λ U'=>U.le U') E f ds) (V:∀B b U',E B b U'->JW S ro lt (λ f ds U=>∀a',FR N a' f ds->Q .normal a' U) B b U'):Zw S fn ro c Q a U:=by
 have:=A5 (S:=S) (fn:=fn) (ro:=ro) (n:=λ f ds U=>∀a',FR N a' f ds->Q .normal a' U) (x:=λ _ _ _ _=>False) (r:=λ _ _ _=>False) (U:=U) z F rl alts ts w lt Y W K H I G E h V a M;refine Zw.mono this λ e a' U'⟨Z,B,X,L⟩=>?_;cases e with
 |normal=>exact L a' ⟨rfl,by rw[Z];exact M.size,X⟩
 |exit i=>exact L.elim
 |ret=>exact L.elim
end Go.TM
set_option linter.unusedSimpArgs false
namespace Go.TM
variable{T:Type}{P:Program}{S:Sys P T}{f:Fm}{K:Value->Qa T->Prop}{U:Qa T}
def kw{t t2 e e2 n ty:Nat}{z v:Value}{E:TypeInfo}{x y:Operand}{ya:Option Addr}{yl yc:Nat}{cs new:List Value}{M₀:List Qx}
  (hu:P.underlying t=some (.slice e)) (al:P.underlying t2=some (.slice e2)) (L:P.info? e=some E) (ak:E.size=n) (hz:E.zero=some z) (am:z.cells.size=n) (ab:E.bytes≠0/\E.bytes<=1024)
  (hx:Zj f x=v) (hy:Zj f y=.slice ya yl yc) (ha:Acc e n v cs U.M M₀) (T:QS U ya new) (Y:new.length=yl*n) (hn:0<n) (V:∀w∈new,w.single=true) (an:cs.length+new.length<=1048576)
  (aq:new≠[]) (h:∀v' M' Z,Acc e n v' (cs++new) M' (Z++M₀)->(∀I B,Acc e n v' (cs++new) I (Z++B)->∃M3:List Qx,M3.Sublist I/\Acc e n v cs M3 B)->K v' { U with M:=M' }) :
  OX S (.raw { dst:=none,op:=.call { callee:=.builtin .append,args:=#[x,y],argTypes:=#[t,t2] },type:=ty,pos := "", after:=#[],guard:=none }) f K U:=by
 intro a' ai;obtain⟨sa,sl,sc,W,G,aj⟩:=ha.src;have hm:(#[x,y]:Array Operand).map a'.eval=#[.slice sa sl sc,.slice ya yl yc]:=by simp[ai,hx,hy,W]
 simp only[execOp,resolve,hm,Qd,Qk,invoke,builtin];show Qr P (Builtin.append_ #[t,t2] ty #[.slice sa sl sc,.slice ya yl yc]) _ U;unfold Builtin.append_;simp only[getElem?_toArray,getElem?_cons_zero,getElem?_cons_succ,Qd,Zg hu,Zg al,Jh L,ak,Qk,Bool.false_eq_true,if_false,Builtin.lenOf,Wi L,false_or,Bool.not_false,if_true];have au:sl<=cs.length:=by rw[G];exact Nat.le_mul_of_pos_right _ hn
 have av:yl<=new.length:=by rw[Y];exact Nat.le_mul_of_pos_right _ hn
 have Q:(cs++new).length=(sl+yl)*n:=by rw[length_append,G,Y,Nat.add_mul]
 split
 .rename_i hle;rw[Qd];refine H6 T Y ?_;rcases ha with⟨rfl,rfl,X⟩|⟨b,c,len,cap,rfl,h1,h2,h3,X,h4⟩
  .grind
  .cases W;simp only[Qd];refine GR _ _ _ ?_;rw[Qo]
   have H:0+sl*n+0+new.length<=c.size:=by
    have:(sl+yl)*n<=sc*n:=Nat.mul_le_mul_right n hle;rw[Nat.add_mul]at this;rw[h3,Y];omega
   refine GE _ _ c U X V H ?_;refine⟨_,.refl _,h _ _ [] (.inr ⟨b,_,sl+yl,sc,rfl,Q,hle,by rw[V_];exact h3,rfl,λ i x L=>?_⟩) λ I B F=>?_⟩
   .rw[PK _ _ _ _ _ H];grind
   .rcases F with⟨N,_,_⟩|⟨b',c',ad,aa,N,g1,g2,g3,g4,g5⟩
    .cases N
    .cases N;refine⟨_,.refl _,.inr ⟨b,c',sl,sc,rfl,G,O1,g3,g4,λ i x L=>?_⟩⟩;grind
 .rename_i hgt;have ag:¬(((sl+yl:Nat):Int) > IntKind.i64.max/\E.bytes=0):=λ h=>ab.1 h.2
  have ah:¬(Builtin.nextslicecap (sl+yl) sc*E.bytes > 2^48):=by
   have:=QF (need:=sl+yl) (old:=sc) O1;have h2:Builtin.nextslicecap (sl+yl) sc*E.bytes<=(2*(sl+yl)+192)*1024:=Nat.mul_le_mul this ab.2;have ae:(2:Nat)^48=281474976710656:=D1
   rw[ae];omega
  simp only[Wi L,Qd];rw[if_neg ag];simp only[Wi L,Qd];rw[if_neg ah];simp only[choose,Qd];show ∀tt,Qr P _ _ U;intro tt;show Qr P (typeInfo e) _ U;rw[Wi L];refine GZ ?_;refine H6 aj G ?_;refine H6 T Y ?_;simp only[XN L hz];refine Jk λ b' ap=>?_;have ac:sl+yl<=Question.cut (.appendCap (sl+yl) sc e) tt:=by simp only[Question.cut];omega
  obtain⟨Z,hZ,af⟩:∃Z,U.M=Z++M₀/\∀B,Acc e n (.slice sa sl sc) cs (Z++B) B:=by
   rcases ha with⟨N,e2,X⟩|⟨b,c,len,cap,N,g1,g2,g3,X,g5⟩
   .exact⟨[],X,λ B=>.inl ⟨by grind,e2,rfl⟩⟩
   .exact⟨[_],X,λ B=>.inr ⟨b,c,len,cap,S2,g1,g2,g3,rfl,g5⟩⟩
  refine⟨_,.refl _,h _ _ Z (.inr ⟨b',_,sl+yl,Question.cut (.appendCap (sl+yl) sc e) tt,rfl,Q,ac,?_,by rw[<- hZ],λ i x L=>?_⟩) λ I B F=>?_⟩
  .simp only[Array.size_append,size_toArray,G,Y,Builtin.zeroCells,Array.size_map,Array.size_range,am];rw[<- Nat.add_mul,<- Nat.add_mul];congr 1;omega
  .grind
  .refine⟨Z++B,?_,by rw[W];exact af B⟩;rcases F with⟨N,_,_⟩|⟨ao,c',ad,aa,N,g1,g2,g3,g4,g5⟩
   .cases N
   simp_all
def F6{t e n ty:Nat}{v:Value}{x y:Operand}{N:Option Addr}{yl yc:Nat}{cs new:List Value}{M₀:List Qx}(k:Xa P t e n)
  (hx:Zj f x=v) (hy:Zj f y=.slice N yl yc) (ha:Acc e n v cs U.M M₀) (G:QS U N new) (hl:new.length=yl*n) (b:∀w∈new,w.single=true) (F:cs.length+new.length<=1048576) (H:new≠[])
  (h:∀I M' Z,Acc e n I (cs++new) M' (Z++M₀)->(∀E B,Acc e n I (cs++new) E (Z++B)->∃L:List Qx,L.Sublist E/\Acc e n v cs L B)->K I { U with M:=M' }) :
  OX S (.raw { dst:=none,op:=.call { callee:=.builtin .append,args:=#[x,y],argTypes:=#[t,t] },type:=ty,pos := "", after:=#[],guard:=none }) f K U:=by
 obtain⟨aa,z,Q,T,V,W,X,Y⟩:=k.i;exact kw k.u k.u Q T V W ⟨X,Y⟩ hx hy ha G hl k.n b F H h
end Go.TM
namespace Go.TM
section
variable{T:Type}{P:Program}{S:Sys P T}
def XK(S:Sys P T)(f:FuncId)(args:Array Value)(Q:Qa T->Prop)(U:Qa T):Prop:=
 ∀(Stop:QJ T)(m:Bool)(c:Frame)(cs:List Frame),c.mode=.returning->(∀U',Q U'->J S Stop m (Rf c cs) U')->J S Stop m (Rf (Frame.enter P f args .deferred) (c::cs)) U
theorem XK.mono{f:FuncId}{args:Array Value}{Q b:Qa T->Prop}{U:Qa T}(h:XK S f args Q U)(w:∀U',Q U'->b U'):XK S f args b U:=
 λ Stop m c cs e k=>h Stop m c cs e λ U' q=>k U' (w U' q)
def YY(S:Sys P T)(rl:List RV)(Q:Value->Qa T->Prop)(f:Fm)(l:List Deferred):Qa T->Prop:=
 List.rec (motive:=λ _=>Qa T->Prop) (λ U=>HZ f Q rl [] U) (λ d r _ U=>match d.target with
  |.fn (.func g) b=>r=[]/\(P.funcs[g]?.any λ fd=>fd.body.isSome&&fd.name != "runtime.NumGoroutine")=true/\XK S g (d.args++b) (λ U'=>HZ f Q rl [] U') U
  |_=>False) l
def vw{g:FuncId}(b:(P.funcs[g]?.any λ fd=>fd.body.isSome&&fd.name != "runtime.NumGoroutine")=true)(args:Array Value)(w:World)(es:Array Event):(callFunc g args).runT P w es=(.ok (.enter g args) w,es):=by
 cases f:P.funcs[g]? with
 |none=>simp_all
 |some fd=>
  rw[f]at b;simp only[Option.any_some,Bool.and_eq_true,bne_iff_ne,ne_eq]at b;obtain⟨G,z⟩:=b;have B:(fd.name== "runtime.NumGoroutine")=false:=by simpa using z
  have E:fd.body.isNone=false:=by cases h:fd.body <;> simp_all
  have F:callFunc g args=(.program λ P=>match P.funcs[g]? with
   |none=>stuck "call: no such function"
   |some fn=>if fn.name== "runtime.NumGoroutine" then pure .numGoroutine else if fn.body.isNone then(do
     mark (.extern g)
     if let some e:=Extern.findNext fn then return <- e args
     match Extern.find fn with
     |some e=>pure (.value (<- e args))
     |none=>if fn.name.endsWith ".init"&&!fn.name.startsWith "("&&!fn.name.startsWith "gosem." then pure (.value (.tuple #[]))else unsupported (.extern fn.name))else pure (.enter g args)):=rfl
  rw[F];simp only[Sem.runT,f,B,E,Bool.false_eq_true,if_false];rfl
def J.defer{b:Frame}{tmps:Array Value}{todo:List Item}{c:Frame}{cs:List Frame}{g:FuncId}{e args:Array Value}{ds:List Deferred}{Stop:QJ T}{m:Bool}{U:Qa T}{Q:Qa T->Prop}
  (B:(P.funcs[g]?.any λ fd=>fd.body.isSome&&fd.name != "runtime.NumGoroutine")=true) (h:XK S g (args++e) Q U)
  (k:∀U',Q U'->J S Stop m (Rf { fr b ⟨tmps,ds⟩ todo with mode:=.returning } (c::cs)) U'):J S Stop m (Rf { fr b ⟨tmps,{ target:=.fn (.func g) e,args:=args }::ds⟩ todo with mode:=.returning } (c::cs)) U:=by
 refine .still rfl (λ w=>?_) (h Stop m { fr b ⟨tmps,ds⟩ todo with mode:=.returning } (c::cs) rfl k);have f:=vw (P:=P) B (args++e) w #[];have E:Sem.run P (invoke (.fn (.func g) e) args) w=.ok (.enter g (args++e)) w:=by rw[<- Sem.runT_fst P _ w #[]];exact congrArg Prod.fst f
 have z:Sem.events P (invoke (.fn (.func g) e) args) w #[]=#[]:=congrArg Prod.snd f;simp[Rf,stepG,unwind,fr,callDeferred,E,z,GStep.after,Uf]
def Qb.ofD{g:FuncId}{N:Nat}{cc:C}{rl:List RV}(k:Zf P g N cc rl)(hm:P.follows .mixedOrders=true){args:List Value}(hn:args.length<=N){U:Qa T}{Q:Value->Qa T->Prop}
  (h:JV S g none cc (λ f ds U=>YY S rl Q f ds U) (λ _ _ _ _=>False) (λ f ds U=>YY S rl Q f ds U) (fm args) [] U):Qb S g args.toArray Q U:=by
 obtain⟨fd,mu,dets,Y,Z,hc,rfl,hr,-⟩:=k.ok;intro Stop m w cs hq
 let b:Frame:={ (default:Frame)with fn:=g,kind:=.normal }
 have B:Rf (Frame.enter P g args.toArray .normal) (w::cs)=R b { tmps:=args.toArray++Array.replicate (fd.ntmps-args.toArray.size) undef,defers:=[] } [.code (fd.body.getD .skip)] (w::cs):=by
  simp only[Rf,R,Frame.enter,fr,Y,b,Option.bind_some];rw[Z];rfl
 rw[B]
 have V:FR fd.ntmps { tmps:=args.toArray++Array.replicate (fd.ntmps-args.toArray.size) undef,defers:=[] } (fm args) []:=by
  refine⟨rfl,S3,λ t=>?_⟩;simp only[fm,Array.getD_eq_getD_getElem?,getD_eq_getElem?_getD,Array.getElem?_append,size_toArray,getElem?_toArray];split
  .rfl
  .rename_i hlt;rw[getElem?_eq_none O1,Array.getElem?_replicate];split <;> rfl
 subst hc
 have fin:∀(a':Act)(G:Fm)(z:List Deferred)(U':Qa T),FR fd.ntmps a' G z->YY S rl Q G z U'->∀todo,J S Stop m (Rf { fr b a' todo with mode:=.returning } (w::cs)) U':=by
  intro a' G z U' E I todo
  have ret:∀F,HZ G Q rl [] F->J S Stop m (Rf { fr b ⟨a'.tmps,[]⟩ todo with mode:=.returning } (w::cs)) F:=λ F hx=>
   X9.step Y (.inl rfl) hq [] todo F (Yr hr [] F hx a'.tmps E.get)
  obtain⟨tm,X⟩:=a';have M:X=z:=E.ds;subst M;cases X with
  |nil=>exact ret U' I
  |cons d r=>
   obtain⟨tg,K⟩:=d;cases tg with
   |fn L W=>
    cases L with
    |func h'=>
     obtain⟨rfl,H,hd⟩:=I;exact J.defer H hd ret
    |_=>exact I.elim
   |_=>exact I.elim
 refine J.body (fn:=g) ⟨rfl,rfl,by simp[b],S1⟩ (G4 hm _ V h) λ e a' U' q=>?_;obtain⟨G,z,E,I⟩:=q;grind
end
section
variable{P:Program}{t:TypeId}{N:Nat}
def Qb.makeM{f:FuncId}{args:Array Value}{Q:Value->Qa Tk->Prop}{U:Qa Tk}{b:Nat}{x:QY}{M₁ M₂:List Qx}(z:U.tok=⟨0,.par b [] false .run,none⟩)(w:U.M=.obj x.m (.cells #[Zc 0,Qq 0] x.t (0,0))::(M₁++M₂))(e:x.sp false false M₁)
  (h:Qb (Zb P t N) f args Q { U with M:=M₂,tok:=⟨0,.par b [] false .run,some (.par x λ _=>false)⟩ }):Qb (Zb P t N) f args Q U:=
 λ Stop m c cs k=>.syn (QD.makeM z w e (h Stop m c cs k))
end
end Go.TM

