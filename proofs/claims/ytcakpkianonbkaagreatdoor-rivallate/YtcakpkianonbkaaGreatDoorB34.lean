/- Lemmas. No conditions. -/
import Derived.Test.YtcakpkianonbkaaGreatDoorB02
import Derived.Test.YtcakpkianonbkaaGreatDoorB14
set_option linter.all false
open List
namespace Go.TM
variable{P:Program}{t:TypeId}{N:Nat}
def Zul{T:Type}{S:Sys P T}{fn:FuncId}{ro:Option Nat}{c:Code}{Q:Ex->Act->Qa T->Prop}{a:Act}{U:Qa T}(h:(∃w,U.ok w)->Zu S fn ro c Q a U):Zu S fn ro c Q a U:=by
 intro Stop m b k cs hb hc;by_cases hw:∃w,U.ok w
 .exact h hw Stop m b k cs hb hc
 .exact .priv ⟨rfl,λ w ok=>absurd ⟨w,ok⟩ hw⟩
def Zsh{T:Type}{S:Sys P T}{fn:FuncId}{ro:Option Nat}{ops:Array Oper}{todo:List Nat}{Q:Ex->Act->Qa T->Prop}{a:Act}{U:Qa T}(h:(∃w,U.ok w)->Qbm S fn ro ops todo Q a U):Qbm S fn ro ops todo Q a U:=by
 intro Stop m b k cs hb hc;by_cases hw:∃w,U.ok w
 .exact h hw Stop m b k cs hb hc
 .exact .priv ⟨rfl,λ w ok=>absurd ⟨w,ok⟩ hw⟩
def Qb.make{f:FuncId}{args:Array Value}{Q:Value->Qa Tk->Prop}{U:Qa Tk}{b:Nat}{M₁ M₂:List Qv}(ht:U.tok=⟨0,.out,none⟩)(hM:U.M=M₁++.obj b (.cells #[Q1 0 0,Qp 0] t (0,0))::M₂)
  (h:Qb (Zb P t N) f args Q { U with M:=M₁++M₂,tok:=⟨0,.par b [] false .run,none⟩ }):Qb (Zb P t N) f args Q U:=
 λ Stop m c cs k=>.syn (Syn.make ht hM (h Stop m c cs k))
def Qaa{T:Type}{U:Qa T}{M':List Qv}(h:Perm U.M M'):Qw U { U with M:=M' }:=by
 refine⟨rfl,λ w ok=>⟨⟨ok.imm,λ r hr=>ok.held r (h.mem_iff.2 hr),(h.pairwise_iff (λ{x y}h=>Qv.apart_symm h)).1 ok.apart,λ r hr=>ok.sep r (h.mem_iff.2 hr)⟩,λ l hl=>?_,λ l hl=>?_⟩⟩
 .rw[Q6]at hl ⊢;obtain⟨r,hr,hl⟩:=hl;exact⟨r,h.mem_iff.2 hr,hl⟩
 .rw[Qy]at hl ⊢;exact hl.imp (λ⟨r,hr,hl⟩=>⟨r,h.mem_iff.2 hr,hl⟩) id
def Qa.base(U:Qa Tk):Qa Tk:=⟨U.I,[],⟨0,.out,none⟩⟩
def Qa.sub(U U':Qa Tk):Prop:=∀b o,U.I b=some o->U'.I b=some o
end Go.TM
namespace Go.TM
attribute [local simp] Nat.mul_one
variable{T:Type}{P:Program}{S:Sys P T}{U:Qa T}{f:Fm}{K:Value->Qa T->Prop}
def Q01{m e:Nat}{d:TypeDesc}(hd:P.underlying e=some d)(hs:Qai d=true){xs ys:Array Value}{Q:Option Bool×PUnit->Qa T->Prop}:∀(n j:Nat)(vs ws:List Value),vs.length=n->ws.length=n->(∀v∈vs,Qq2 d v=true)->(∀v∈ws,Qq2 d v=true) ->
  (∀i v,vs[i]?=some v->xs[j+i]?=some v)->(∀i v,ws[i]?=some v->ys[j+i]?=some v)->Q (if Qdi vs ws then none else some false,()) U ->
  Qr P (forIn (List.range' j n 1) ((none,()):Option Bool×PUnit) λ i _=>do
    let a <- part e xs (i*1)
    let b <- part e ys (i*1)
    let c <- Op.equalIn (m+1) e a b
    if(!c)=true then pure (ForInStep.done (some false,()))else pure (ForInStep.yield (none,()))) Q U
 |0,j,vs,ws,hv,hw,_,_,_,_,h=>by
  obtain rfl:=length_eq_zero_iff.1 hv;obtain rfl:=length_eq_zero_iff.1 hw;exact h
 |n+1,j,v::vs,w::ws,hv,hw,hfv,hfw,hx,hy,h=>by
  rw[range'_succ,Qb6];simp only[Qf,Nat.mul_one];have hx0:xs[j]?=some v:=by simpa using hx 0 v rfl
  have hy0:ys[j]?=some w:=by simpa using hy 0 w rfl
  rw[Qi8 hd hs hx0,Qi8 hd hs hy0,Qzo hd hs (hfv v (mem_cons_self ..)) (hfw w (mem_cons_self ..))];cases hb:eqv v w with
  |false=>simpa[hb,Qdi,Qi]using h
  |true=>
   simp only[Bool.not_true,Bool.false_eq_true,if_false,Qi]
   have:=Q01 hd hs (m:=m) (xs:=xs) (ys:=ys) (Q:=Q) n (j+1) vs ws (by simpa using hv) (by simpa using hw) (λ v h=>hfv v (mem_cons_of_mem _ h)) (λ v h=>hfw v (mem_cons_of_mem _ h))
    (λ i v hi=>by have:=hx (i+1) v hi;rwa [show j+(i+1)=j+1+i by omega]at this)
    (λ i v hi=>by have:=hy (i+1) v hi;rwa [show j+(i+1)=j+1+i by omega]at this) (by simpa[hb,Qdi]using h)
   simpa only[Nat.mul_one,Qf]using this
def Zqt{t t' ty e len:Nat}{d:TypeDesc}{inf:TypeInfo}(hu:P.underlying t=some (.array len e))(hd:P.underlying e=some d)(hs:Qai d=true)(hi:P.info? e=some inf)(hsz:inf.size=1)(hg:P.eqGuardType P.depth t=false)
  {x y:Operand} {vs ws:List Value} (hx:Zl f x=.agg vs.toArray) (hy:Zl f y=.agg ws.toArray) (hlv:vs.length=len) (hlw:ws.length=len) (hv:∀v∈vs,Qq2 d v=true) (hw:∀v∈ws,Qq2 d v=true) (h:K (.bool (Qdi vs ws)) U) :
  OX S (.raw { dst:=none,op:=.binOp .eql t x y t',type:=ty,pos := "", after:=#[],guard:=none }) f K U:=by
 intro a' ha;simp only[execOp,ha,hx,hy];refine rq ?_;rw[Qf];refine Qo4 hg ?_;simp only[binOp,Qf];have e1:Op.equal t (.agg vs.toArray) (.agg ws.toArray)=Op.equalIn (9998+1+1) t (.agg vs.toArray) (.agg ws.toArray):=rfl;rw[e1,Op.equalIn];simp only[Qf,Zg hu,Jh hi,hsz,Std.Legacy.Range.forIn_eq_forIn_range'];refine Q01 hd hs _ 0 vs ws (by simpa[Std.Legacy.Range.size]using hlv) (by simpa[Std.Legacy.Range.size]using hlw) hv hw (λ i v hi=>by simpa using hi) (λ i v hi=>by simpa using hi) ?_;cases hb:Qdi vs ws <;> simpa[hb,Qi]using⟨U,.refl _,by simpa[hb]using h⟩
def Qrk{b off:Nat}{e:TypeId}{M₀:List Qv}{Q:Qa T->Prop}(X:List Qv):∀(vs:List Value)(i:Nat)(c:Array Value)(U:Qa T),U.M=X++.obj b (.cells c e (0,0))::M₀->(∀v∈vs,v.single=true)->off+i+vs.length<=c.size ->
  Q { U with M:=X++.obj b (.cells (Qcv c off vs i) e (0,0))::M₀ }->StV ⟨b,off,none⟩ vs i Q U
 |[],i,c,U,hM,_,_,hq=>by
  have:U={ U with M:=X++.obj b (.cells c e (0,0))::M₀ }:=by rw[<- hM]
  show Q U;rw[this];exact hq
 |v::vs,i,c,U,hM,hs,hb,hq=>by
  simp only[length_cons]at hb;refine⟨hs v (mem_cons_self ..),X++.obj b (.cells (c.setIfInBounds (off+i) v) e (0,0))::M₀,?_,?_⟩
  .rw[hM,Qo];have h0:Upd ⟨b,off+i,none⟩ v (.obj b (.cells c e (0,0))::M₀) (.obj b (.cells (c.setIfInBounds (off+i) v) e (0,0))::M₀):=.obj (a:=⟨b,off+i,none⟩) rfl (by show off+i<c.size;omega);clear hM hq
   induction X with
   |nil=>exact h0
   |cons r X ih=>exact .there ih
  .exact Qrk X vs (i+1) _ _ rfl (λ v hv=>hs v (mem_cons_of_mem _ hv)) (by simp;omega) hq
def Q6s{b i:Nat}{e:TypeId}{c:Array Value}{v:Value}{M₀:List Qv}{Q:Qa T->Prop}(X:List Qv)(hM:U.M=X++.obj b (.cells c e (0,0))::M₀)(hi:i<c.size)(hs:v.single=true)
  (h:Q { U with M:=X++.obj b (.cells (c.setIfInBounds i v) e (0,0))::M₀ }):StV ((Addr.mk b 0 none).add i) [v] 0 (λ U'=>∃U1,Qw U' U1/\Q U1) U:=by
 rw[Qo];refine Qrk X [v] 0 c U hM (by simpa using hs) (by simp;omega) ?_;simp only[Qcv,Nat.zero_add,Nat.add_zero];exact⟨_,.refl _,h⟩
def Q1p{b:Nat}{e:TypeId}{c:Array Value}{vs:List Value}{M₀:List Qv}{Q:Qa T->Prop}(X:List Qv)(hM:U.M=X++.obj b (.cells c e (0,0))::M₀)(hsz:c.size=vs.length)(hs:∀v∈vs,v.single=true)
  (h:Q { U with M:=X++.obj b (.cells vs.toArray e (0,0))::M₀ }):StV ⟨b,0,none⟩ vs 0 (λ U'=>∃U1,Qw U' U1/\Q U1) U:=by
 refine Qrk X vs 0 c U hM hs (by omega) ?_;rw[Qi2 hsz];exact⟨_,.refl _,h⟩
def Q7{b:Nat}{e:TypeId}{vs:List Value}{M₀:List Qv}(X:List Qv)(hM:U.M=X++.obj b (.cells vs.toArray e (0,0))::M₀):Z7 U ⟨b,0,none⟩ vs:=by
 intro i v hv;rw[Qo];refine⟨rfl,.inl ⟨_,_,_,.inr (by rw[hM];simp;exact .inr (.inl ⟨rfl,rfl,rfl⟩)),?_⟩⟩;simpa using hv
abbrev setA(s:Nat->Bool):Value:=.agg #[.bool (s 0),.bool (s 1),.bool (s 2),.bool (s 3),.bool (s 4),.bool (s 5),.bool (s 6),.bool (s 7)]
def Q6g(s:Nat->Bool)(j:Nat)(v:Bool):Nat->Bool:=λ k=>if k=j then v else s k
end Go.TM
namespace Go.TM
variable{T:Type}{P:Program}{S:Sys P T}{U U':Qa T}
def Qa.frz(U:Qa T):Qa T:=⟨U.I,[],U.tok⟩
def Qa.lg.frz(h:U.lg U'):U.frz.lg U':=⟨h.imm,⟨U'.M,by simp[Qa.frz]⟩,h.tok⟩
def Qq:U.frz.lg U:=(⟨λ _ _ h=>h,⟨[],rfl⟩,rfl⟩:U.lg U).frz
def Zdt{U U1 U2:Qa T}(h:U.frz.lg U1)(k:U1.le U2):U.frz.lg U2:=h.trans k.lg
def Qa.lg.frz2(h:U.lg U'):U.frz.lg U'.frz:=⟨h.imm,⟨[],rfl⟩,h.tok⟩
def Qb.grown{f:FuncId}{args:Array Value}{R:Value->Qa T->Prop}(hR:∀v U1 U2,U1.lg U2->R v U1->R v U2)(h:Qb S f args (λ v U'=>R v U'.frz/\U.lg U') U):Qb S f args (λ v U'=>R v U'.frz/\U.le U') U:=
 h.post λ v U'⟨hr,hl⟩=>let ⟨U'',h1,h2,h3⟩:=hl.shift;⟨U'',h1,hR v _ _ (⟨λ b o h=>by show U''.I b=_;rw[h3];exact h,⟨[],rfl⟩,h2.tok.trans hl.tok.symm⟩:U'.frz.lg U''.frz) hr,h2⟩
def J0(U:Qa T)(v:Value)(l:List Int):Prop:=∃a cap,v=.slice a l.length cap/\Z3 U a l.length l
def J0.lg{v:Value}{l:List Int}(h:J0 U v l)(hl:U.lg U'):J0 U' v l:=let ⟨a,c,e,h⟩:=h;⟨a,c,e,h.lg hl⟩
def Acc.freeze{e n:Nat}{v:Value}{cs:List Value}(hs:Sep U')(h:Acc e n v cs U'.M U.M)(hI:∀x ox,U.I x=some ox->U'.I x=some ox)(ht:U'.tok=U.tok) :
  ∃U'',Qw U' U''/\U.le U''/\∃a len cap,v=.slice a len cap/\cs.length=len*n/\Src U''.frz a cs/\(∀ad,a=some ad->ad.spot=none)/\(∀ad,a=some ad->ad.off=0):=by
 rcases h with⟨rfl,rfl,hM⟩|⟨b,c,len,cap,rfl,h1,h2,h3,hM,h4⟩
 .exact⟨U',.refl _,⟨hI,hM,ht⟩,none,0,0,rfl,by simp,.inl ⟨rfl,rfl⟩,by simp,by simp⟩
 .obtain⟨U'',k1,k2,k3⟩:=Qze hs hM hI rfl ht;refine⟨U'',k1,k2,some ⟨b,0,none⟩,len,cap,rfl,h1,.inr ⟨_,rfl,?_⟩,by rintro _⟨⟩;rfl,by rintro _⟨⟩;rfl⟩;intro i x hx;rw[Qo];exact⟨rfl,.inl ⟨c,e,(0,0),.inl k3,by simpa using h4 i x hx⟩⟩
def Qmd{a:Option Addr}{l:List Int}(h:Src U a (l.map λ n=>.int .i64 n))(hsp:∀ad,a=some ad->ad.spot=none):Z3 U a l.length l:=by
 refine⟨rfl,λ i x hx=>?_⟩;rcases h with⟨_,hn⟩|⟨ad,rfl,hr⟩
 .rw[map_eq_nil_iff]at hn;subst hn;simp at hx
 .exact⟨ad,rfl,hsp ad rfl,by rw[Nat.mul_one];exact hr i _ (by simp[hx])⟩
def Qb.ints{f:FuncId}{args:Array Value}{e:Nat}{l:List Int}(h:Qb S f args (λ v U'=>Acc e 1 v (l.map λ n=>.int .i64 n) U'.M U.M/\(∀x ox,U.I x=some ox->U'.I x=some ox)/\U'.tok=U.tok) U) :
  Qb S f args (λ v U'=>J0 U'.frz v l/\U.le U') U:=by
 refine h.sep λ v U' hs⟨ha,hI,ht⟩=>?_;obtain⟨U'',k1,k2,a,len,cap,rfl,hl,hsrc,hsp,_⟩:=ha.freeze hs hI ht;refine⟨U'',k1,⟨a,cap,?_,Qmd hsrc hsp⟩,k2⟩;simp at hl;rw[hl]
end Go.TM
namespace Go.TM
variable{T:Type}{P:Program}{S:Sys P T}{U:Qa T}{f:Fm}{K:Value->Qa T->Prop}
def Zti(P:Program)(t len:Nat):Bool:=
 match P.underlying t with
 |some (.array len' e)=>decide (len'=len)&&(match P.underlying e with|some .bool=>true|_=>false)&&(match P.info? e with|some inf=>decide (inf.size=1)|none=>false)&&!P.eqGuardType P.depth t
 |_=>false
structure Zrz(P:Program)(t len:Nat):Prop where
 h:∃e inf,P.underlying t=some (.array len e)/\P.underlying e=some .bool/\P.info? e=some inf/\inf.size=1/\P.eqGuardType P.depth t=false
def Zrz.of{t len:Nat}(h:Zti P t len=true):Zrz P t len:=by
 unfold Zti at h;split at h
 .rename_i len' e hu;simp only[Bool.and_eq_true,decide_eq_true_eq,Bool.not_eq_true']at h;obtain⟨⟨⟨rfl,h1⟩,h2⟩,h3⟩:=h;split at h1
  .rename_i hb;split at h2
   .rename_i inf hi;exact⟨e,inf,hu,hb,hi,by simpa using h2,h3⟩
   .cases h2
  .cases h1
 .cases h
end Go.TM
namespace Go.TM
variable{T:Type}{P:Program}{S:Sys P T}{f:Fm}{U:Qa T}
structure Zut(U:Qa T)(I:Nat->Qa T->Prop):Prop where
 le:∀k U1 U2,U1.le U2->I k U1->I k U2
 lg:∀k U1,I k U1->U.frz.lg U1
def Qa.on(U:Qa T)(A D:Qv):Qa T:={ U with M:=A::D::U.M }
end Go.TM
namespace Go.TM
variable{T:Type}{U U':Qa T}
def Zd.imI{b:Nat}{c:Array Value}(h:Zd U b c)(hI:∀x o,U.I x=some o->U'.I x=some o):Zd U' b c:=let ⟨t,fr,h⟩:=h;⟨t,fr,hI _ _ h⟩
end Go.TM
set_option linter.unusedSimpArgs false
namespace Go.TM
variable{T:Type}{P:Program}{S:Sys P T}{f:Fm}{K:Value->Qa T->Prop}{U:Qa T}
def Qaz{κ:Type}(enc:κ->Value):∀(l:List (κ×Value))(j i:Nat)(p:κ×Value),l[i]?=some p->(Qs enc l j)[i]?=some ⟨enc p.1,p.2,j+i⟩
 |[],_,_,_,h=>by simp at h
 |q::l,j,0,p,h=>by
  simp at h;subst h;simp[Qs]
 |q::l,j,i+1,p,h=>by
  simp only[Qs,getElem?_cons_succ];rw[Qaz enc l (j+1) i p (by simpa using h)];congr 2;omega
def Qh5{κ:Type}(enc:κ->Value):∀(l:List (κ×Value))(j:Nat)(e:MapEntry),e∈Qs enc l j->∃i p,l[i]?=some p/\e=⟨enc p.1,p.2,j+i⟩
 |[],_,e,h=>by cases h
 |q::l,j,e,h=>by
  simp only[Qs,mem_cons]at h;rcases h with rfl|h
  .exact⟨0,q,rfl,rfl⟩
  .obtain⟨i,p,h1,rfl⟩:=Qh5 enc l (j+1) e h;exact⟨i+1,p,by simpa using h1,by congr 1;omega⟩
def J1(b n:Nat)(seen:Array Nat):Obj:=.mapIter (some b) n seen n
def Qoy{κ:Type}{enc:κ->Value}{t kt vt ty b:Nat}{l:List (κ×Value)}{x:Operand}(hu:P.underlying t=some (.map kt vt))(hx:Zl f x=.map (some b))(hm:U.has b (Qt enc l))
  (h:∀r,U.free r->K (.pointer (some ⟨r,0,none⟩)) (U.put r (J1 b l.length #[]))) :
  OX S (.raw { dst:=none,op:=.range t x,type:=ty,pos := "", after:=#[],guard:=none }) f K U:=by
 intro a' ha;simp only[execOp,ha,hx];refine rq ?_;simp only[Instr.range,Qf,Zg hu,getObj];refine⟨_,hm,rfl,rfl,?_⟩;simp only[Qr,Qt,Qi,Qf,newObj];exact λ r hr=>⟨_,.refl _,h r hr⟩
def Qv2{κ:Type}{enc:κ->Value}{ty b r:Nat}{l:List (κ×Value)}{seen:Array Nat}{x:Operand}(M':Obj->List Qv)(hx:Zl f x=.pointer (some ⟨r,0,none⟩))(hm:U.has b (Qt enc l))
  (hu:∀o,J4 r o (J1 b l.length seen) U.M (M' o))
  (h0:(∀i,i<l.length->i∈seen)->K (.tuple #[.bool false]) U)
  (h1:∀(i:Nat)p,l[i]?=some p->i∉seen->K (.tuple #[.bool true,enc p.1,p.2]) { U with M:=M' (J1 b l.length (seen.push i)) }) :
  OX S (.raw { dst:=none,op:=.next x false,type:=ty,pos := "", after:=#[],guard:=none }) f K U:=by
 intro a' ha;simp only[execOp,ha,hx];refine rq ?_;unfold Instr.next;simp only[Qf,getObj];refine⟨_,.inr (hu (J1 b l.length seen)).mem,rfl,rfl,?_⟩;simp only[Qr,J1,Qi,Qf];refine⟨_,hm,rfl,rfl,?_⟩
 have hborn:∀e∈(Qs enc l 0).toArray,e.born<l.length:=λ e he=>by
  obtain⟨i,p,hi,rfl⟩:=Qh5 enc l 0 e (by simpa using he);have:=(List.getElem?_eq_some_iff.1 hi).1;show 0+i<_;omega
 simp only[Qr,Qt,Qi,Qf];generalize hes:(Qs enc l 0).toArray=es at hborn
 have hc:(!seen.isEmpty&&!es.isEmpty&&es.all λ x=>decide (x.born ≥ l.length))=false:=by
  cases he:es.isEmpty with
  |true=>simp
  |false=>
   have:es.all (λ x=>decide (x.born ≥ l.length))=false:=by
    rw[Array.all_eq_false'];rw[Array.isEmpty_eq_false_iff]at he;obtain⟨e,hm'⟩:=Array.exists_mem_of_ne_empty _ he;exact⟨e,hm',by have:=hborn e hm';simp;omega⟩
   rw[this];simp
 rw[hc];simp only[Bool.false_eq_true,if_false];generalize hleft:es.filter (λ e=>!seen.contains e.born)=left
 have hold:left.filter (λ x=>decide (x.born<l.length))=left:=Array.filter_eq_self.2 λ e he=>by
  rw[<- hleft]at he;have:=hborn e (Array.mem_filter.1 he).1;simpa using this
 have hnew:left.filter (λ x=>decide (x.born ≥ l.length))=#[]:=Array.filter_eq_empty_iff.2 λ e he=>by
  rw[<- hleft]at he;have:=hborn e (Array.mem_filter.1 he).1;simp;omega
 simp only[hold,hnew,Array.append_empty];cases hle:left.isEmpty with
 |true=>
  have he0:left=#[]:=by simpa using hle
  subst he0;simp only[if_true,Array.map_empty,Array.append_empty];refine⟨_,.refl _,h0 λ i hi=>?_⟩;have hi':l[i]?=some l[i]:=getElem?_eq_getElem hi;have hmem:=mem_of_getElem? (Qaz enc l 0 i _ hi');have hme:(⟨enc l[i].1,l[i].2,0+i⟩:MapEntry)∈es:=by rw[<- hes];simpa using hmem
  have:=Array.filter_eq_empty_iff.1 hleft _ hme;simpa using this
 |false=>
  have hne:0<left.size:=by
   rw[Array.isEmpty_eq_false_iff]at hle;exact Array.size_pos_iff.2 hle
  have key:∀j,j<left.size->Qr P (match(#[]++left.map some)[j]? with
    |some (some e)=>do
     setObj r (.mapIter (some b) l.length (seen.push e.born) l.length)
     pure (.tuple #[.bool true,e.key,e.val])
    |some none=>pure (.tuple #[.bool false])
    |none=>stuck "Next: no such candidate") (λ v U'=>∃U1,Qw U' U1/\K v U1) U:=by
   intro j hj;have h2:(#[]++left.map some)[j]?=some (some left[j]):=by simp[hj]
   rw[h2];have hin:left[j]∈left:=Array.getElem_mem hj;generalize left[j]=e at hin;rw[<- hleft,Array.mem_filter]at hin;obtain⟨hin,hns⟩:=hin;rw[<- hes]at hin;obtain⟨i,p,hi,rfl⟩:=Qh5 enc l 0 e (by simpa using hin);simp only[Qf,setObj,Qr,Qi];have h3:=h1 i p hi (by simpa using hns);rw[<- Nat.zero_add i]at h3;exact⟨_,_,hu _,rfl,rfl,rfl,_,.refl _,h3⟩
  simp only[Bool.false_eq_true,if_false];rw[Qf];show(if(Question.mapNext (#[]++Array.map some left).size).forced then _ else _);have hsz:(#[]++Array.map some left).size=left.size:=by simp
  split
  .exact key 0 hne
  .intro t;refine key _ ?_;show t % (#[]++Array.map some left).size<left.size;rw[hsz];exact Nat.mod_lt _ hne
def Qox{κ:Type}{enc:κ->Value}{ty b r i:Nat}{l:List (κ×Value)}{seen:Array Nat}{p:κ×Value}{x:Operand}(hx:Zl f x=.pointer (some ⟨r,0,none⟩))(hm:U.has b (Qt enc l))(hr:U.has r (J1 b l.length (seen.push i)))
  (hp:l[i]?=some p) (h:K (.tuple #[enc p.1,p.2]) U) :
  OX S (.raw { dst:=none,op:=.entry x,type:=ty,pos := "", after:=#[],guard:=none }) f K U:=by
 intro a' ha;simp only[execOp,ha,hx];refine rq ?_;unfold Instr.entry;simp only[Qf,getObj];refine⟨_,hr,rfl,rfl,?_⟩;simp only[Qr,J1,Qi,Qf,Array.back?_push];refine⟨_,hm,rfl,rfl,?_⟩;simp only[Qr,Qt,Qi,Qf,bne_self_eq_false,Bool.false_eq_true,if_false]
 have hfind:(Qs enc l 0).toArray.find? (λ x=>x.born==i)=some ⟨enc p.1,p.2,i⟩:=by
  rw[find?_toArray,find?_eq_some_iff_getElem];have hg:=Qaz enc l 0 i p hp;rw[Nat.zero_add]at hg;obtain⟨hlt,he⟩:=List.getElem?_eq_some_iff.1 hg;refine⟨by simp,i,hlt,he,λ j hj=>?_⟩;obtain⟨q,hq⟩:∃q,l[j]?=some q:=⟨_,getElem?_eq_getElem (by rw[Ql9]at hlt;omega)⟩;have hg':=Qaz enc l 0 j q hq;obtain⟨hlt',he'⟩:=List.getElem?_eq_some_iff.1 hg';rw[he'];simp;omega
 rw[hfind];exact⟨_,.refl _,h⟩
def Qq1{κ:Type}[DecidableEq κ](k:κ)(z:Value)(l:List (κ×Value)):List (κ×Value):=if(lk k l).isSome then l else l++[(k,z)]
def Q1f{κ:Type}[DecidableEq κ](k:κ)(l:List (κ×Value)):Nat:=match lkI k l 0 with|some (i,_)=>i|none=>l.length
def Qvu{κ:Type}[DecidableEq κ]{enc:κ->Value}{k:κ}:∀{l:List (κ×Value)}{i j n:Nat}{x:Value},lkI k l i=some (n,x)->i<=n/\(∃e,(Qs enc l j)[n-i]?=some e/\e.key=enc k/\e.born=j+(n-i)) /\
   (Qs enc l j).modify (n-i) (λ e=>{ e with key:=enc k })=Qs enc l j
 |[],_,_,_,_,h=>by cases h
 |p::l,i,j,n,x,h=>by
  simp only[lkI]at h;split at h
  .rename_i e;cases h;refine⟨Nat.le_refl _,?_,?_⟩
   .simp[Qs,e]
   .simp[Qs,e]
  .rename_i e;obtain⟨h1,⟨y,h2,h3,h4⟩,h5⟩:=Qvu (enc:=enc) (j:=j+1) h;have hs:n-i=(n-(i+1))+1:=by omega
   refine⟨by omega,?_,?_⟩
   .rw[hs];exact⟨y,by simpa[Qs]using h2,h3,by rw[h4];omega⟩
   .rw[hs];simp only[Qs,modify_succ_cons,h5]
def Qmk{κ:Type}[DecidableEq κ]{enc:κ->Value}{t kt vt ty:TypeId}{b:Nat}{l:List (κ×Value)}{k:κ}{z:Value}{x y:Operand}{M':List Qv}(hk:Qjx T P kt enc)(hu:P.underlying t=some (.map kt vt))(hz:Qdy P vt=some z)
  (hx:Zl f x=.map (some b)) (hy:Zl f y=enc k) (hm:J4 b (Qt enc (Qq1 k z l)) (Qt enc l) U.M M') (h:K (.tuple #[(lk k l).getD z,.int .i64 (Q1f k l)]) { U with M:=M' }) :
  OX S (.raw { dst:=none,op:=.mapEntry t x y,type:=ty,pos := "", after:=#[],guard:=none }) f K U:=by
 intro a' ha;obtain⟨inf,hi,hzz⟩:=Qcn hz;simp only[execOp,ha,hx,hy];refine rq ?_;unfold Instr.mapEntry;simp only[Qf,Zg hu,getObj];refine⟨_,.inr hm.mem,rfl,rfl,?_⟩;simp only[Qr,Qt,Qi,Qf];refine hk.chk _ _ ?_;refine hk.find k l ?_;unfold Q1f lk at h;unfold Qq1 lk at hm;cases e:lkI k l 0 with
 |none=>
  simp only[e,Option.map_none,Option.getD_none,Option.isSome_none,Bool.false_eq_true,if_false]at h hm;simp only[Qf,Qb7 hi hzz,setObj,Qr,Qi];refine⟨Qt enc l,M',?_,rfl,rfl,rfl,⟨_,.refl _,h⟩⟩
  have:Obj.map ((Qs enc l 0).toArray.push { key:=enc k,val:=z,born:=l.length }) (l.length+1)=Qt enc (l++[(k,z)]):=by
   simp only[Qt,length_append,length_cons,length_nil,Qcr,Qs,Nat.zero_add];congr 1;apply Array.ext';simp
  rw[this];exact hm
 |some p=>
  obtain⟨n,w⟩:=p;simp only[e,Option.map_some,Option.getD_some,Option.isSome_some,if_true]at h hm;obtain⟨h1,⟨en,h2,h3,h4⟩,h5⟩:=Qvu (enc:=enc) (j:=0) e;rw[Nat.sub_zero]at h2 h4 h5;have hg:(Qs enc l 0).toArray[n]?=some en:=by simpa using h2
  simp only[hg,Option.map_some,Option.getD_some,h3,Qf];unfold Instr.keyThatStays;rw[hk.bits k];simp only[if_true,Qi,setObj,Qr,h4];refine⟨Qt enc l,M',?_,rfl,rfl,rfl,⟨_,.refl _,?_⟩⟩
  .have:Obj.map ((Qs enc l 0).toArray.modify n λ e=>{ e with key:=enc k }) l.length=Qt enc l:=by
    simp only[Qt];congr 1;apply Array.ext';rw[Array.toList_modify];exact h5
   rw[this];exact hm
  .rw[Nat.zero_add];exact h
def Qma{κ:Type}(enc:κ->Value)(v:Value):∀(l:List (κ×Value))(j n:Nat),(Qs enc l j).modify n (λ e=>{ e with val:=v })=Qs enc (l.modify n λ p=>(p.1,v)) j
 |[],_,_=>by simp[Qs]
 |p::l,j,0=>by simp[Qs]
 |p::l,j,n+1=>by
  simp only[Qs,modify_succ_cons];rw[Qma enc v l (j+1) n]
def Qv1{κ:Type}{enc:κ->Value}{t ty:TypeId}{b n:Nat}{l:List (κ×Value)}{v:Value}{x s u:Operand}{M':List Qv}
  (hx:Zl f x=.map (some b)) (hs:Zl f s=.int .i64 n) (hn:n<l.length) (hv:Zl f u=v) (hm:J4 b (Qt enc (l.modify n λ p=>(p.1,v))) (Qt enc l) U.M M') (h:K undef { U with M:=M' }) :
  OX S (.raw { dst:=none,op:=.entryStore t x s u,type:=ty,pos := "", after:=#[],guard:=none }) f K U:=by
 intro a' ha;simp only[execOp,ha,hx,hs,hv];refine ru ?_;unfold Instr.entryStore;simp only[Qf,getObj];refine⟨_,.inr hm.mem,rfl,rfl,?_⟩;simp only[Qr,Qt,Qi,Qf,asInt,asIntOf]
 have hfind:(Qs enc l 0).toArray.findIdx? (λ e=>(e.born:Int)==(n:Int))=some n:=by
  rw[findIdx?_toArray,findIdx?_eq_some_iff_getElem];have hp:l[n]?=some l[n]:=getElem?_eq_getElem hn;have hg:=Qaz enc l 0 n _ hp;obtain⟨hlt,he⟩:=List.getElem?_eq_some_iff.1 hg;refine⟨hlt,by rw[he];simp,λ j hj=>?_⟩;obtain⟨q,hq⟩:∃q,l[j]?=some q:=⟨_,getElem?_eq_getElem (by omega)⟩;have hg':=Qaz enc l 0 j q hq;obtain⟨hlt',he'⟩:=List.getElem?_eq_some_iff.1 hg';rw[he'];simp;omega
 rw[hfind];simp only[setObj,Qr];refine⟨Qt enc l,M',?_,rfl,rfl,rfl,⟨_,.refl _,h⟩⟩
 have:Obj.map ((Qs enc l 0).toArray.modify n λ e=>{ e with val:=v }) l.length=Qt enc (l.modify n λ p=>(p.1,v)):=by
  simp only[Qt,length_modify];congr 1;apply Array.ext';rw[Array.toList_modify];exact Qma enc v l 0 n
 rw[this];exact hm
def Zrc{κ:Type}[DecidableEq κ](k:κ)(z v:Value)(l:List (κ×Value)):(Qq1 k z l).modify (Q1f k l) (λ p=>(p.1,v))=ups k v l/\Q1f k l<(Qq1 k z l).length:=by
 have key:∀(l:List (κ×Value))(i:Nat),(match lkI k l i with
   |some (n,_)=>i<=n/\n-i<l.length/\l.modify (n-i) (λ p=>(p.1,v))=ups k v l
   |none=>ups k v l=l++[(k,v)]):=by
  intro l
  induction l with
  |nil=>intro i;rfl
  |cons p l ih=>
   intro i;simp only[lkI];by_cases e:k=p.1
   .simp[e,ups]
   .rw[if_neg e];have:=ih (i+1);cases hl:lkI k l (i+1)with
    |none=>
     rw[hl]at this;simp only[ups,if_neg e]at this ⊢;rw[this];rfl
    |some q=>
     obtain⟨n,w⟩:=q;rw[hl]at this;simp only at this ⊢;obtain⟨h1,h2,h3⟩:=this;have hs:n-i=(n-(i+1))+1:=by omega
     refine⟨by omega,by simp;omega,?_⟩;rw[hs,modify_succ_cons,h3];simp only[ups,if_neg e]
 have h:=key l 0;unfold Qq1 Q1f lk;cases hl:lkI k l 0 with
 |none=>
  rw[hl]at h;simp only at h;simp only[Option.map_none,Option.isSome_none,Bool.false_eq_true,if_false,length_append,length_cons,length_nil];refine⟨?_,by omega⟩;rw[h];apply ext_getElem?;intro i;rw[getElem?_modify];by_cases hi:l.length=i
  .subst hi;simp
  .simp only[if_neg hi];by_cases hlt:i<l.length
   .rw[getElem?_append_left hlt,getElem?_append_left hlt];simp
   .rw[getElem?_eq_none (by simp;omega),getElem?_eq_none (by simp;omega)];rfl
 |some q=>
  obtain⟨n,w⟩:=q;rw[hl]at h;simp only[Nat.sub_zero]at h;simp only[Option.map_some,Option.isSome_some,if_true];exact⟨h.2.2,h.2.1⟩
end Go.TM
set_option linter.unusedSimpArgs false
namespace Go.TM
variable{T:Type}{P:Program}{S:Sys P T}{fn:FuncId}{ro:Option Nat}
inductive Qgq(S:Sys P T)(ops:Array Oper)(rl:List Nat)(J:Qa T->Prop)(Fin:Act->Qa T->Prop):List Nat->(Qa T->Prop)->Act->Prop
 |nil {C a}:(∀U',C U'->Fin a U')->Qgq S ops rl J Fin [] C a
 |un {i rest C a o}:i∉rl->ops[i]?=some o->Region.wanted o (yielded ops a.tmps)=false->Qgq S ops rl J Fin rest C (a.put o.dst undef)->Qgq S ops rl J Fin (i::rest) C a
 |det {i rest C a o} (v:Value):i∉rl->ops[i]?=some o->Region.wanted o (yielded ops a.tmps)=true ->
   (∀U',J U'->OpQ S o a (λ v' U2=>v'=v/\∃U1,Qw U2 U1/\U'.le U1) U')->Qgq S ops rl J Fin rest C (a.put o.dst v)->Qgq S ops rl J Fin (i::rest) C a
 |rel {i rest C a o} (F:Value->Qa T->Prop):i∈rl->(∀v,Qwd (F v))->(∀v U',F v U'->J U')->ops[i]?=some o->Region.wanted o (yielded ops a.tmps)=true ->
   (∀U',C U'->OpQ S o a (λ v' U2=>∃U1,Qw U2 U1/\F v' U1) U')->(∀v,(∃U',F v U')->Qgq S ops rl J Fin rest (F v) (a.put o.dst v))->Qgq S ops rl J Fin (i::rest) C a
section sound
variable{ops:Array Oper}{rl qs ts:List Nat}
structure Qrq(S:Sys P T)(ops:Array Oper)(rl qs:List Nat)(J:Qa T->Prop)(a_0:Act)(Fin:Act->Qa T->Prop)(listed:Array Bool)(ac:Act)(U:Qa T)
  (pre L:List Nat) (C:Qa T->Prop) (av:Act) (val:Nat->Value):Prop where
 split:qs=pre++L
 der:Qgq S ops rl J Fin L C av
 mono:Qwd C
 inJ:∀U',C U'->J U'
 c:C U
 av:Jm ops val (·∈pre) a_0 av
 ac:Jm ops val (Li listed) a_0 ac
 sub:∀i,Li listed i->i∈pre
 size:listed.size=ops.size
 down:∀i,Li listed i->∀j∈Ww ops i,Li listed j
 rels:∀i∈pre,i∈rl->Li listed i
 pend:∀i∈pre,¬Li listed i->∃o ai p,qs[p]?=some i/\ops[i]?=some o/\Jm ops val (·∈qs.take p) a_0 ai /\
  ((Region.wanted o (yielded ops ai.tmps)=false/\val i=undef) \/
   (Region.wanted o (yielded ops ai.tmps)=true/\∀U',J U'->OpQ S o ai (λ v' U2=>v'=val i/\∃U1,Qw U2 U1/\U'.le U1) U'))
variable{J:Qa T->Prop}{a_0:Act}{Fin:Act->Qa T->Prop}{listed:Array Bool}{ac av:Act}{U:Qa T}{pre L:List Nat}{C:Qa T->Prop}{val:Nat->Value}
def Qrq.note(hf:Jy ops [] qs ts){x:Nat}{rest:List Nat}(h:Qrq S ops rl qs J a_0 Fin listed ac U pre (x::rest) C av val)(v:Value) :
  Jm ops (Qf6 val x v) (·∈pre) a_0 av/\Jm ops (Qf6 val x v) (Li listed) a_0 ac /\
  (∀i∈pre,¬Li listed i->∃o ai p,qs[p]?=some i/\ops[i]?=some o/\Jm ops (Qf6 val x v) (·∈qs.take p) a_0 ai /\
   ((Region.wanted o (yielded ops ai.tmps)=false/\Qf6 val x v i=undef) \/
    (Region.wanted o (yielded ops ai.tmps)=true/\∀U',J U'->OpQ S o ai (λ v' U2=>v'=Qf6 val x v i/\∃U1,Qw U2 U1/\U'.le U1) U'))):=by
 have hx:=Qmg hf h.split;refine⟨h.av.val λ j hj=>Qe2 (λ e=>hx (e▸hj)),h.ac.val λ j hj=>Qe2 (λ e=>hx (e▸h.sub j hj)),λ i hi hl=>?_⟩;obtain⟨o,ai,p,hp,ho,hag,hh⟩:=h.pend i hi hl;have hne:i≠x:=λ e=>hx (e▸hi);refine⟨o,ai,p,hp,ho,hag.val λ j hj=>Qe2 λ e=>?_,by rw[Qe2 hne];exact hh⟩;subst e;obtain⟨p',hp'⟩:=mem_iff_getElem?.1 hj;rw[getElem?_take]at hp';split at hp'
 .rename_i hlt;have e1:=Qds hf (Qaf (ts:=ts) hp') (Qaf (Qac h.split).2);obtain⟨pi,hpi⟩:=mem_iff_getElem?.1 hi;have hpl:pi<pre.length:=(List.getElem?_eq_some_iff.1 hpi).1;have e2:=Qds hf (Qaf (ts:=ts) hp) (Qaf (ts:=ts) (p:=pi) (i:=i) (by rw[h.split,getElem?_append_left hpl];exact hpi));omega
 .cases hp'
def Qrq.adv(hf:Jy ops [] qs ts){x:Nat}{rest:List Nat}(h:Qrq S ops rl qs J a_0 Fin listed ac U pre (x::rest) C av val){v:Value}{o:Oper}(ho:ops[x]?=some o)(hrl:x∉rl)
  (hd:Qgq S ops rl J Fin rest C (av.put o.dst v))
  (hh:(Region.wanted o (yielded ops av.tmps)=false/\v=undef)\/(Region.wanted o (yielded ops av.tmps)=true/\∀U',J U'->OpQ S o av (λ v' U2=>v'=v/\∃U1,Qw U2 U1/\U'.le U1) U')) :
  Qrq S ops rl qs J a_0 Fin listed ac U (pre++[x]) rest C (av.put o.dst v) (Qf6 val x v):=by
 obtain⟨n1,n2,n3⟩:=h.note hf v;have hput:=Jm.put hf n1 ho;rw[Qb2]at hput;refine⟨by rw[h.split];simp,hd,h.mono,h.inJ,h.c,?_,n2,λ i hi=>mem_append_left _ (h.sub i hi),h.size,h.down,?_,?_⟩
 .have e:(λ j=>j∈pre\/j=x)=(·∈pre++[x]):=by funext j;simp
  rw[<- e];exact hput
 .intro i hi hr;rcases mem_append.1 hi with hi|hi
  .exact h.rels i hi hr
  .simp at hi;subst hi;exact absurd hr hrl
 .intro i hi hl;rcases mem_append.1 hi with hi|hi
  .exact n3 i hi hl
  .simp at hi;subst hi;refine⟨o,av,pre.length,(Qac h.split).2,ho,by rw[(Qac h.split).1];exact n1,?_⟩;rw[Qb2];exact hh
def Zes(ops:Array Oper)(rl qs:List Nat):Prop:=∀p x,qs[p]?=some x->x∈rl->∀i∈qs.drop (p+1),i∉rl->∃r∈qs.drop p,r∈rl/\Qbo ops r i
def Qrq.reach(hf:Jy ops [] qs ts)(hlat:Zes ops rl qs){i:Nat}(hi:i∈qs)(hr:∀j∈Ww ops i,Li listed j) :
  ∀(L pre:List Nat)(C:Qa T->Prop)(av:Act)(val:Nat->Value),Qrq S ops rl qs J a_0 Fin listed ac U pre L C av val->(i∈rl->(L.filter λ x=>rl.contains x).head?=some i) ->
   ∃pre' L' C' av' val',Qrq S ops rl qs J a_0 Fin listed ac U pre' L' C' av' val'/\(L'.filter λ x=>rl.contains x)=(L.filter λ x=>rl.contains x)/\(i∈pre'\/∃rest,L'=i::rest/\i∈rl):=by
 intro L
 induction L with
 |nil=>
  intro pre C av val h _;exact⟨pre,[],C,av,val,h,rfl,.inl (by have:=h.split;simp at this;exact this▸hi)⟩
 |cons x rest ih=>
  intro pre C av val h hfirst;by_cases hx:x∈rl
  .by_cases e:x=i
   .subst e;exact⟨pre,_,C,av,val,h,rfl,.inr ⟨rest,rfl,hx⟩⟩
   .by_cases hpre:i∈pre
    .exact⟨pre,_,C,av,val,h,rfl,.inl hpre⟩
    .exfalso
     have hm:i∈rest:=by
      rw[h.split]at hi;simp at hi;rcases hi with hi|hi|hi
      .exact absurd hi hpre
      .exact absurd hi.symm e
      .exact hi
     by_cases hirl:i∈rl
     .have:=hfirst hirl;rw[filter_cons,if_pos (by simpa using hx)]at this;simp at this;exact e this
     .obtain⟨r,hr1,hr2,hb⟩:=hlat pre.length x (Qac h.split).2 hx i (by rw[h.split];simp[hm]) hirl;have hrl:=h.sub r (Wd h.down hb hr);rw[h.split]at hr1;simp at hr1;have hnd:=(nodup_append.1 hf.nodup).1;rw[h.split]at hnd;exact(nodup_append.1 hnd).2.2 r hrl r (by simpa using hr1) rfl
  .have hfil:((x::rest).filter λ x=>rl.contains x)=rest.filter λ x=>rl.contains x:=by rw[filter_cons,if_neg (by simpa using hx)]
   rw[hfil]at hfirst ⊢;have hder:=h.der;cases hder with
   |un _ ho hw hd=>exact ih _ _ _ _ (h.adv hf ho hx hd (.inl ⟨hw,rfl⟩)) hfirst
   |det v _ ho hw hop hd=>exact ih _ _ _ _ (h.adv hf ho hx hd (.inr ⟨hw,hop⟩)) hfirst
   |rel F hm=>exact absurd hm hx
def Zno(hf:Jy ops [] qs ts)(hlat:Zes ops rl qs)(hts:∀i∈ts,i∉rl){Q:Ex->Act->Qa T->Prop}:∀(r t:Nat)(listed:Array Bool)(ac:Act)(U:Qa T)(pre L:List Nat)(C:Qa T->Prop)(av:Act)(val:Nat->Value),
  Qrq S ops rl qs J a_0 (λ a U=>Qbm S fn ro ops ts Q a U) listed ac U pre L C av val->(qs.filter λ i=>!listed.getD i false).length=r ->
  ((Region.linearise.go .any ops (r+ts.length) t listed []).filter λ x=>rl.contains x)=(L.filter λ x=>rl.contains x) ->
  Qbm S fn ro ops (Region.linearise.go .any ops (r+ts.length) t listed []) Q ac U:=by
 intro r
 induction r with
 |zero=>
  intro t listed ac U pre L C av val h hr _
  have hall:∀i∈qs,Li listed i:=by
   intro i hi;have:=filter_eq_nil_iff.1 (length_eq_zero_iff.1 hr) i hi;simpa[Li]using this
  have hL:L=[]:=by
   cases L with
   |nil=>rfl
   |cons x rest=>exact absurd (h.sub x (hall x (by rw[h.split];simp))) (Qmg hf h.split)
  subst hL;have hpre:pre=qs:=by have:=h.split;simp at this;exact this.symm
  subst hpre;have hder:=h.der;cases hder with
  |nil hfin=>
   have e:av=ac:=h.av.eq h.ac λ j=>⟨hall j,h.sub j⟩;have:=hfin U h.c;rw[e]at this;rw[Nat.zero_add,Zfs hf ts.length 0 t listed (by omega) h.size λ i=>?_]
   .simpa using this
   .rw[Nat.add_zero,take_left']
    .exact⟨h.sub i,hall i⟩
    .rfl
 |succ r ih=>
  intro t listed ac U pre L C av val h hr hord;obtain⟨q,hq⟩:∃q,q∈qs.filter λ i=>!listed.getD i false:=exists_mem_of_length_pos (by omega);have hqs:=(mem_filter.1 hq).1;have hql:¬Li listed q:=by have:=(mem_filter.1 hq).2;simpa[Li]using this
  obtain⟨pq,hpq⟩:=mem_iff_getElem?.1 hqs;obtain⟨y,hy⟩:=Qgl hf h.size _ _ (Qaf (ts:=ts) hpq) hql;obtain⟨i,hi,t',hgo⟩:=Qme (k:=r+ts.length) (t:=t) (ne_nil_of_mem hy);have hnl:=Qml hi;have hred:=(J6.1 hi).2.2;have hlt:=(J6.1 hi).1
  have hiq:i∈qs:=by
   rcases mem_append.1 ((hf.mem i).1 hlt)with hm|hm
   .exact hm
   .obtain⟨p1,hp1⟩:=mem_iff_getElem?.1 hm;exact absurd (Wd h.down (hf.tail p1 i hp1 q (mem_append_left _ hqs)) hred) hql
  rw[show r+1+ts.length=(r+ts.length)+1 by omega,hgo]at hord ⊢;have hls:∀j,Li (listed.setIfInBounds i true) j↔Li listed j\/j=i:=λ j=>Qzz (by rw[h.size];exact hlt)
  have hcount:(qs.filter λ x=>!(listed.setIfInBounds i true).getD x false).length=r:=by
   have hnd:=(nodup_append.1 hf.nodup).1
   have e:(qs.filter λ x=>!(listed.setIfInBounds i true).getD x false)=(qs.filter λ x=>!listed.getD x false).filter (λ x=>x != i):=by
    rw[filter_filter];refine filter_congr λ x _=>?_;have:=hls x;simp only[Li]at this;cases hx:(listed.setIfInBounds i true).getD x false <;> cases hx':listed.getD x false <;> by_cases e:x=i <;> simp_all
   rw[e,<- Nodup.erase_eq_filter (hnd.filter _),length_erase_of_mem (mem_filter.2 ⟨hiq,by simpa[Li]using hnl⟩),hr];rfl
  have hfirst:i∈rl->(L.filter λ x=>rl.contains x).head?=some i:=λ hrl=>by
   rw[<- hord,filter_cons,if_pos (by simpa using hrl)];rfl
  obtain⟨pre',L',C',av',val',h',hfil,hcase⟩:=Qrq.reach hf hlat hiq hred L pre C av val h hfirst;rw[<- hfil]at hord
  have hdown':∀j,Li (listed.setIfInBounds i true) j->∀k∈Ww ops j,Li (listed.setIfInBounds i true) k:=by
   intro j hj k hk;rw[hls]at hj ⊢;rcases hj with hj|rfl
   .exact .inl (h.down j hj k hk)
   .exact .inl (hred k hk)
  have put_ac:∀{val:Nat->Value}{o:Oper},ops[i]?=some o->Jm ops val (Li listed) a_0 ac->Jm ops val (Li (listed.setIfInBounds i true)) a_0 (ac.put o.dst (val i)):=by
   intro val o ho ha;have:=Jm.put hf ha ho;have e:Li (listed.setIfInBounds i true)=λ j=>Li listed j\/j=i:=by funext j;exact propext (hls j)
   rw[e];exact this
  by_cases hpre:i∈pre'
  .obtain⟨o,ai,p,hp,ho,hag,hh⟩:=h'.pend i hpre hnl;have hirl:i∉rl:=λ hrl=>hnl (h'.rels i hpre hrl)
   have hord':((Region.linearise.go .any ops (r+ts.length) t' (listed.setIfInBounds i true) []).filter λ x=>rl.contains x)=(L'.filter λ x=>rl.contains x):=by
    rw[<- hord,filter_cons,if_neg (by simpa using hirl)]
   have hsame:=Qmn ho (hf.nosel i o ho) (a:=ac) (a':=ai) λ s hs=>h'.ac.slot hag λ j hj=>Qci hf h'.down hp hnl hred hs hj
   have next:∀U1,U.le U1->Qrq S ops rl qs J a_0 (λ a U=>Qbm S fn ro ops ts Q a U) (listed.setIfInBounds i true) (ac.put o.dst (val' i)) U1 pre' L' C' av' val':=λ U1 hle=>
    ⟨h'.split,h'.der,h'.mono,h'.inJ,h'.mono _ _ h'.c hle,h'.av,put_ac ho h'.ac,λ j hj=>((hls j).1 hj).elim (h'.sub j) (λ e=>e▸hpre),by simpa using h'.size,hdown',λ j hj hr=>(hls j).2 (.inl (h'.rels j hj hr)),
     λ j hj hl=>h'.pend j hj λ hx=>hl ((hls j).2 (.inl hx))⟩
   rcases hh with⟨hw,hv⟩|⟨hw,hop⟩
   .refine Qcj ho (by rw[hsame.2];exact hw) ?_;have:=ih t' _ _ _ _ _ _ _ _ (next U (.refl U)) hcount hord';rw[hv]at this;exact this
   .have hq':OpQ S o ac (λ v' U2=>v'=val' i/\∃U1,Qw U2 U1/\U.le U1) U:=by have:=hop U (h'.inJ U h'.c);unfold OpQ at this ⊢;rw[hsame.1];exact this
    refine Qc1 ho (by rw[hsame.2];exact hw) (.inr (Qf2 hq')) (Qf3 hq' λ v U2 hv=>?_);obtain⟨rfl,U1,hs,hle⟩:=hv;exact Qf4 hs (ih t' _ _ _ _ _ _ _ _ (next U1 hle) hcount hord')
  .obtain⟨rest,rfl,hrl⟩:=hcase.resolve_left hpre
   have hord':((Region.linearise.go .any ops (r+ts.length) t' (listed.setIfInBounds i true) []).filter λ x=>rl.contains x)=(rest.filter λ x=>rl.contains x):=by
    rw[filter_cons,if_pos (by simpa using hrl),filter_cons,if_pos (by simpa using hrl)]at hord;exact(List.cons.inj hord).2
   have hder:=h'.der;cases hder with
   |un hx _ _ _=>exact absurd hrl hx
   |det _ hx _ _ _ _=>exact absurd hrl hx
   |@rel _ _ _ _ o F _ hF hFJ ho hw hop hd=>
    obtain⟨htk,hget⟩:=Qac h'.split
    have hsame:=Qmn ho (hf.nosel i o ho) (a:=ac) (a':=av') λ s hs=>h'.ac.slot h'.av λ j hj=>by
     have:=Qci hf h'.down hget hnl hred hs hj;rw[htk]at this;exact this
    have hq':OpQ S o ac (λ v' U2=>∃U1,Qw U2 U1/\F v' U1) U:=by have:=hop U h'.c;unfold OpQ at this ⊢;rw[hsame.1];exact this
    refine Qc1 ho (by rw[hsame.2];exact hw) (.inr (Qf2 hq')) (Qf3 hq' λ v U2 hv=>?_);obtain⟨U1,hs,hFv⟩:=hv;refine Qf4 hs ?_;obtain⟨n1,n2,n3⟩:=h'.note hf v;have hav:=Jm.put hf n1 ho;have hac:=put_ac ho n2;rw[Qb2]at hav hac;refine ih t' _ _ U1 (pre'++[i]) rest (F v) (av'.put o.dst v) (Qf6 val' i v) ⟨by rw[h'.split];simp,hd v ⟨U1,hFv⟩,hF v,hFJ v,hFv,?_,hac,?_,by simpa using h'.size,hdown',?_,?_⟩ hcount hord'
    .have e:(λ j=>j∈pre'\/j=i)=(·∈pre'++[i]):=by funext j;simp
     rw[<- e];exact hav
    .intro j hj;rcases(hls j).1 hj with hj|rfl
     .exact mem_append_left _ (h'.sub j hj)
     .simp
    .intro j hj hr;rw[hls];rcases mem_append.1 hj with hj|hj
     .exact .inl (h'.rels j hj hr)
     .exact .inr (by simpa using hj)
    .intro j hj hl;rcases mem_append.1 hj with hj|hj
     .exact n3 j hj λ hx=>hl ((hls j).2 (.inl hx))
     .exact absurd ((hls j).2 (.inr (by simpa using hj))) hl
def Znx(hf:Jy ops [] qs ts):∀(r t:Nat)(listed:Array Bool),listed.size=ops.size->(∀i,Li listed i->∀j∈Ww ops i,Li listed j)->((qs++ts).filter λ i=>!listed.getD i false).length=r ->
  let g:=Region.linearise.go .any ops r t listed [];(∀i,i∈g↔i<ops.size/\¬Li listed i)/\g.Nodup/\g.Pairwise λ i j=>¬Qbo ops j i:=by
 intro r
 induction r with
 |zero=>
  intro t listed hs _ hr
  have hall:∀i,i<ops.size->Li listed i:=λ i hi=>by
   have:=filter_eq_nil_iff.1 (length_eq_zero_iff.1 hr) i ((hf.mem i).1 hi);simpa[Li]using this
  simp only[Region.linearise.go,reverse_nil];exact⟨λ i=>⟨(λ h=>by cases h),λ h=>absurd (hall i h.1) h.2⟩,Pairwise.nil,Pairwise.nil⟩
 |succ r ih=>
  intro t listed hs hdown hr;obtain⟨q,hq⟩:∃q,q∈(qs++ts).filter λ i=>!listed.getD i false:=exists_mem_of_length_pos (by omega);have hql:¬Li listed q:=by have:=(mem_filter.1 hq).2;simpa[Li]using this
  obtain⟨pq,hpq⟩:=mem_iff_getElem?.1 (mem_filter.1 hq).1;obtain⟨y,hy⟩:=Qgl hf hs _ _ hpq hql;obtain⟨i,hi,t',hgo⟩:=Qme (k:=r) (t:=t) (ne_nil_of_mem hy);have hnl:=Qml hi;have hred:=(J6.1 hi).2.2;have hlt:=(J6.1 hi).1;have hls:∀j,Li (listed.setIfInBounds i true) j↔Li listed j\/j=i:=λ j=>Qzz (by rw[hs];exact hlt)
  have hdown':∀j,Li (listed.setIfInBounds i true) j->∀k∈Ww ops j,Li (listed.setIfInBounds i true) k:=by
   intro j hj k hk;rw[hls]at hj ⊢;rcases hj with hj|rfl
   .exact .inl (hdown j hj k hk)
   .exact .inl (hred k hk)
  have hcount:((qs++ts).filter λ x=>!(listed.setIfInBounds i true).getD x false).length=r:=by
   have e:((qs++ts).filter λ x=>!(listed.setIfInBounds i true).getD x false)=((qs++ts).filter λ x=>!listed.getD x false).filter (λ x=>x != i):=by
    rw[filter_filter];refine filter_congr λ x _=>?_;have:=hls x;simp only[Li]at this;cases hx:(listed.setIfInBounds i true).getD x false <;> cases hx':listed.getD x false <;> by_cases e:x=i <;> simp_all
   rw[e,<- Nodup.erase_eq_filter (hf.nodup.filter _),length_erase_of_mem (mem_filter.2 ⟨(hf.mem i).1 hlt,by simpa[Li]using hnl⟩),hr];rfl
  obtain⟨k1,k2,k3⟩:=ih t' _ (by simpa using hs) hdown' hcount;simp only;rw[hgo];have hin:i∉Region.linearise.go .any ops r t' (listed.setIfInBounds i true) []:=λ hm=>((k1 i).1 hm).2 ((hls i).2 (.inr rfl));refine⟨λ j=>?_,nodup_cons.2 ⟨hin,k2⟩,pairwise_cons.2 ⟨λ j hj hb=>?_,k3⟩⟩
  .rw[mem_cons,k1,hls];by_cases e:j=i
   .subst e;simp[hlt,hnl]
   .simp[e]
  .exact((k1 j).1 hj).2 ((hls j).2 (.inl (Wd hdown hb hred)))
end sound
def Zdr(bf:Nat->Nat->Bool)(ok:List Nat->Bool):Nat->List Nat->List Nat->Bool
 |0,_,pre=>ok pre
 |n+1,rem,pre=>rem.all λ i=>(rem.any λ j=>j != i&&bf j i)|| Zdr bf ok n (rem.erase i) (pre++[i])
def Qqa{bf:Nat->Nat->Bool}{ok:List Nat->Bool}:∀(n:Nat)(rem pre ρ:List Nat),Zdr bf ok n rem pre=true->rem.length=n->ρ.Perm rem->ρ.Nodup->(ρ.Pairwise λ i j=>bf j i=false)->ok (pre++ρ)=true
 |0,rem,pre,ρ,h,hn,hp,_,_=>by
  have:ρ=[]:=length_eq_zero_iff.1 (by rw[hp.length_eq,hn]);subst this;rw[append_nil];exact h
 |n+1,rem,pre,ρ,h,hn,hp,hnd,hb=>by
  cases ρ with
  |nil=>have:=hp.length_eq;simp at this;omega
  |cons i ρ=>
   have hi:i∈rem:=hp.subset (mem_cons_self ..);have hb':=pairwise_cons.1 hb;have hnd':=nodup_cons.1 hnd;have h1:=all_eq_true.1 h i hi;rw[Bool.or_eq_true]at h1;rcases h1 with h1|h1
   .obtain⟨j,hj,h2⟩:=any_eq_true.1 h1;rw[Bool.and_eq_true]at h2;have hne:j≠i:=by simpa using h2.1
    rcases mem_cons.1 (hp.symm.subset hj)with e|hm
    .exact absurd e hne
    .rw[hb'.1 j hm]at h2;cases h2.2
   .have:=Qqa n (rem.erase i) (pre++[i]) ρ h1 (by rw[length_erase_of_mem hi,hn];rfl) ((perm_cons_erase hi).symm.trans hp.symm|>.cons_inv|>.symm) hnd'.2 hb'.2
    rwa [append_assoc]at this
def Zn1(ops:Array Oper)(rl qs:List Nat):Bool:=
 let ms:=Qgx ops ops.size
 (range qs.length).all λ p=>!rl.contains (qs.getD p 0)|| (qs.drop (p+1)).all λ i=>rl.contains i|| (qs.drop p).any λ r=>rl.contains r&&(ms.getD i 0).testBit r
def Q51{ops:Array Oper}{rl qs:List Nat}(h:Zn1 ops rl qs=true):Zes ops rl qs:=λ p x hp hx i hi hirl=>by
 have hlt:=(List.getElem?_eq_some_iff.1 hp).1;have h1:=all_eq_true.1 h p (mem_range.2 hlt);have e:qs.getD p 0=x:=by rw[getD_eq_getElem?_getD,hp];rfl
 rw[e]at h1;simp only[Bool.or_eq_true,Bool.not_eq_true']at h1;rcases h1 with h1|h1
 .rw[show rl.contains x=true by simpa using hx]at h1;cases h1
 .have h2:=all_eq_true.1 h1 i hi;rw[Bool.or_eq_true]at h2;rcases h2 with h2|h2
  .exact absurd (by simpa using h2) hirl
  .obtain⟨r,hr,h3⟩:=any_eq_true.1 h2;rw[Bool.and_eq_true]at h3;exact⟨r,hr,by simpa using h3.1,Wr ops _ _ _ h3.2⟩
def Zdl(ops:Array Oper)(rl:List Nat)(alts:List (List Nat))(ts:List Nat):Bool:=
 !alts.isEmpty&&alts.all (λ qs=>Qvh ops [] qs ts&&Zn1 ops rl qs)&&ts.all (λ i=>!rl.contains i)&&(decide rl.Nodup&&rl.all λ i=>decide (i<ops.size)) &&
 Zdr (λ j i=>((Qgx ops ops.size).getD i 0).testBit j) (λ ρ=>alts.any λ qs=>(qs.filter λ x=>rl.contains x)==ρ) rl.length rl []
def Ze2{J:Qa T->Prop}{Q:Ex->Act->Qa T->Prop}{a:Act}{U:Qa T}{id:Nat}{ops:Array Oper}(rl:List Nat)(alts:List (List Nat))(ts:List Nat)(C:Qa T->Prop)(hC:Qwd C)(hCJ:∀U',C U'->J U')(hCU:C U)(hm:P.follows .mixedOrders=true)(hok:Zdl ops rl alts ts=true)
  (h:∀qs∈alts,Qgq S ops rl J (λ a U=>Qbm S fn ro ops ts Q a U) qs C a):Zu S fn ro (.region id ops true) Q a U:=by
 unfold Zdl at hok;simp only[Bool.and_eq_true,Bool.not_eq_true']at hok;obtain⟨⟨⟨⟨h1,h2⟩,h3⟩,h4,h5⟩,h6⟩:=hok
 have hts:∀i∈ts,i∉rl:=λ i hi hr=>by
  have:=all_eq_true.1 h3 i hi;rw[show rl.contains i=true by simpa using hr]at this;cases this
 have hrn:rl.Nodup:=of_decide_eq_true h4;have hrs:∀i∈rl,i<ops.size:=λ i hi=>of_decide_eq_true (all_eq_true.1 h5 i hi)
 have each:∀qs∈alts,Jy ops [] qs ts/\Zes ops rl qs:=λ qs hq=>by
  have:=all_eq_true.1 h2 qs hq;rw[Bool.and_eq_true]at this;exact⟨Qvi this.1,Q51 this.2⟩
 have hno:∀i,¬Li (Array.replicate ops.size false) i:=by
  intro i h;simp only[Li,Array.getD_eq_getD_getElem?,Array.getElem?_replicate]at h;split at h <;> simp at h
 have hfalse:∀l:List Nat,(l.filter λ i=>!(Array.replicate ops.size false).getD i false).length=l.length:=λ l=>by
  congr 1;rw[filter_eq_self];intro x _;have:=hno x;simp only[Li]at this;simpa using this
 have hlen:∀qs∈alts,ops.size=qs.length+ts.length:=λ qs hq=>by
  have hf:=(each qs hq).1
  have h1:(qs++ts).Perm (range ops.size):=by
   refine(perm_ext_iff_of_nodup hf.nodup nodup_range).2 λ x=>?_;rw[mem_range];exact(hf.mem x).symm
  have:=h1.length_eq;simp at this;omega
 refine Ze3 λ t=>?_;simp only[Region.schedule,hm,Bool.true_or,if_true,Region.linearise];obtain⟨q_0,hq0⟩:∃q,q∈alts:=by cases alts with|nil=>cases h1|cons q _=>exact⟨q,mem_cons_self ..⟩
 obtain⟨g1,g2,g3⟩:=Znx (each q_0 hq0).1 ops.size t (Array.replicate ops.size false) (by simp) (λ i h=>absurd h (hno i)) (by rw[hfalse,length_append,<- hlen q_0 hq0])
 have hperm:((Region.linearise.go .any ops ops.size t (Array.replicate ops.size false) []).filter λ x=>rl.contains x).Perm rl:=by
  refine(perm_ext_iff_of_nodup (g2.filter _) hrn).2 λ x=>?_;rw[mem_filter,g1];constructor
  .rintro⟨_,h⟩;simpa using h
  .intro h;exact⟨⟨hrs x h,hno x⟩,by simpa using h⟩
 have hcov:=Qqa rl.length rl [] _ h6 rfl hperm (g2.filter _) ((g3.filter _).imp λ{i j}hb=>by
  cases hx:((Qgx ops ops.size).getD i 0).testBit j with
  |false=>rfl
  |true=>exact absurd (Wr ops _ _ _ hx) hb)
 obtain⟨qs,hqs,hq⟩:=any_eq_true.1 hcov;have hq:(qs.filter λ x=>rl.contains x)=(Region.linearise.go .any ops ops.size t (Array.replicate ops.size false) []).filter λ x=>rl.contains x:=by simpa using hq
 obtain⟨hf,hlat⟩:=each qs hqs
 have:=Zno (S:=S) (fn:=fn) (ro:=ro) (Q:=Q) (J:=J) hf hlat hts qs.length t (Array.replicate ops.size false) a U [] qs C a (λ _=>undef)
  ⟨rfl,h qs hqs,hC,hCJ,hCU,⟨rfl,rfl,λ _ _ _ h=>by simp at h,λ _ _=>rfl⟩,⟨rfl,rfl,λ _ j _ h=>absurd h (hno j),λ _ _=>rfl⟩,λ i h=>absurd h (hno i),by simp,λ i h=>absurd h (hno i),by simp,by simp⟩ (hfalse qs) (by rw[<- hlen qs hqs,hq])
 rw[<- hlen qs hqs]at this;exact this
end Go.TM
set_option linter.unusedSimpArgs false
namespace Go.TM
variable{T:Type}{P:Program}{S:Sys P T}{fn:FuncId}{ro:Option Nat}
def DLr(S:Sys P T)(Ub:Qa T)(kd:Nat)(st:St)(ih:(Qa T->Prop)->Zp T->Fm->List Deferred->Prop)(C:Qa T->Prop)(K:Zp T)(ds:List Deferred)(f:Fm):Prop:=match kd with
 |0=>OX S st.o f (λ v _=>ih C K (Qc3 f st.dst v) ds) Ub
 |1=>∃v,(∀U',Ub.lg U'->OX S st.o f (λ v' U2=>v'=v/\∃U1,Qw U2 U1/\U'.le U1) U')/\ih C K (Qc3 f st.dst v) ds
 |_=>∃F:Value->Qa T->Prop,(∀v,Qwd (F v))/\(∀v U',F v U'->Ub.lg U')/\(∀U',C U'->OX S st.o f (λ v' U2=>∃U1,Qw U2 U1/\F v' U1) U')/\∀v,(∃U',F v U')->ih (F v) K (Qc3 f st.dst v) ds
def DL1(S:Sys P T)(Ub:Qa T)(kd:Nat)(st:St)(ih:(Qa T->Prop)->Zp T->Fm->List Deferred->Prop)(C:Qa T->Prop)(K:Zp T)(f:Fm)(ds:List Deferred):Prop:=match st.g with
 |some (j,want)=>(match f j with
  |.bool b=>GB b want (DLr S Ub kd st ih C K ds (upd f j (.bool want))) (ih C K (Qc3 (upd f j (.bool !want)) st.dst undef) ds)
  |.tuple _=>ih C K (Qc3 f st.dst undef) ds
  |_=>False)
 |none=>DLr S Ub kd st ih C K ds f
def DLX(S:Sys P T)(Ub:Qa T)(l:List (Nat×St)):(Qa T->Prop)->Zp T->Fm->List Deferred->Prop:=
 List.rec (motive:=λ _=>(Qa T->Prop)->Zp T->Fm->List Deferred->Prop) (λ C K f ds=>∀U',C U'->K f ds U') (λ p _ ih=>DL1 S Ub p.1 p.2 ih) l
def Q10(S:Sys P T)(Ub:Qa T)(kd:Nat)(st:St)(r:List (Nat×St)):DLX S Ub ((kd,st)::r)=DL1 S Ub kd st (DLX S Ub r):=rfl
def Q1d{o:O}{f:Fm}{K:Value->Qa T->Prop}{U:Qa T}(hs:stable o=true)(h:OX S o f K U):∃v,K v U/\∀(U':Qa T)(K':Value->Qa T->Prop),U.lg U'->K' v U'->OX S o f K' U':=by
 by_cases hl:Qoq o=true
 .cases o with
  |ld x=>
   simp only[OX,Qz]at h;split at h <;> rename_i e
   .obtain⟨v,a,b⟩:=h;exact⟨v,b,λ U' K' hl k=>by simp only[OX,Qz,e];exact⟨v,a.lg hl,k⟩⟩
   .exact h.elim
  |ldn n x=>
   simp only[OX]at h;split at h <;> rename_i e
   .obtain⟨v,a,b⟩:=h;exact⟨_,b,λ U' K' hl k=>by simp only[OX,Qz,e];exact⟨v,⟨a.1,a.2.lg hl⟩,k⟩⟩
   .exact h.elim
  |_=>cases hl
 .obtain⟨v,a,b⟩:=OX.stable hs h;exact⟨v,a,λ U' K' _ k=>b U' K' (.inl (by simpa using hl)) k⟩
def Qgv(P:Program)(mu:List Nat)(ops:Array Oper)(rl:List Nat)(i:Nat):Nat:=
 if rl.contains i then 2 else match ops[i]? with
  |some o=>if stable (Q9 P mu o)then 0 else 1
  |none=>1
def Ze6{N:Nat}{mu:List Nat}{ops:Array Oper}{Fin:Act->Qa T->Prop}{K:Zp T}{Ub:Qa T}{rl:List Nat}(hfin:∀a f ds U',FR N a f ds->K f ds U'->Fin a U')(hN:∀(i:Nat)(o:Oper),ops[i]?=some o->∀d,o.dst=some d->d<N) :
  ∀(idxs:List Nat)(l:List (Nat×St)),idxs.mapM (λ i=>((ops[i]?).bind (Jj P mu ops)).map λ st=>(Qgv P mu ops rl i,st))=some l->(l.all λ x=>x.2.dfr.isNone)=true->(∀i∈idxs,∀o,ops[i]?=some o->o.guard=none\/i∉rl) ->
   ∀(a:Act)(f:Fm)(ds:List Deferred)(C:Qa T->Prop),FR N a f ds->DLX S Ub l C K f ds->Qgq S ops rl (λ U'=>Ub.lg U') Fin idxs C a:=by
 intro idxs
 induction idxs with
 |nil=>
  intro l hl _ _ a f ds C hf h;simp at hl;subst hl;exact .nil λ U' hc=>hfin a f ds U' hf (h U' hc)
 |cons i idxs ih=>
  intro l hl hnd' hgr a f ds C hf h;simp only[mapM_cons,Option.pure_def,Option.bind_eq_bind,Option.bind_eq_some_iff,Option.map_eq_some_iff]at hl;obtain⟨x,⟨st,⟨o,ho,hst⟩,rfl⟩,l',hl',e⟩:=hl;cases e;simp only[all_cons,Bool.and_eq_true]at hnd';have hd:=hN i o ho;have ihx:=ih l' hl' hnd'.2 (λ j hj=>hgr j (mem_cons_of_mem _ hj))
  have hk:(i∈rl/\Qgv P mu ops rl i=2)\/(i∉rl/\Qgv P mu ops rl i=0/\stable (Q9 P mu o)=true)\/(i∉rl/\Qgv P mu ops rl i=1):=by
   unfold Qgv;by_cases hr:i∈rl
   .exact .inl ⟨hr,by rw[if_pos (by simpa using hr)]⟩
   .rw[if_neg (by simpa using hr),ho];by_cases hs:stable (Q9 P mu o)=true
    .exact .inr (.inl ⟨hr,by simp only[hs,if_true],hs⟩)
    .exact .inr (.inr ⟨hr,by simp only[hs];rfl⟩)
  have run:∀{f:Fm}{st:St},st.o=Q9 P mu o->st.dst=o.dst->FR N a f ds->Region.wanted o (yielded ops a.tmps)=true->DLr S Ub (Qgv P mu ops rl i) st (DLX S Ub l') C K ds f->Qgq S ops rl (λ U'=>Ub.lg U') Fin (i::idxs) C a:=by
   intro f st e1 e2 hf hw h;unfold DLr at h;rw[e1,e2]at h;rcases hk with⟨hr,hk⟩|⟨hr,hk,hs⟩|⟨hr,hk⟩
   .rw[hk]at h;obtain⟨F,hF,hFJ,hop,hn⟩:=h;refine .rel F hr hF hFJ ho hw (λ U' hc=>?_) (λ v hv=>ihx _ _ _ _ (hf.put o.dst v hd) (hn v hv));exact W4 (λ x=>hf.eval x) (λ v' U2 U3 hs⟨U1,a,b⟩=>⟨U1,hs.trans a,b⟩) (hop U' hc)
   .rw[hk]at h;obtain⟨v,hn,hst⟩:=Q1d hs h;refine .det v hr ho hw (λ U' hle=>?_) (ihx _ _ _ _ (hf.put o.dst v hd) hn);exact W4 (λ x=>hf.eval x) Ju (hst U' _ hle ⟨rfl,U',.refl _,.refl _⟩)
   .rw[hk]at h;obtain⟨v,hop,hn⟩:=h;refine .det v hr ho hw (λ U' hle=>?_) (ihx _ _ _ _ (hf.put o.dst v hd) hn);exact W4 (λ x=>hf.eval x) Ju (hop U' hle)
  cases Qau hst with
  |plain hnd hg=>simp only[Q10,DL1]at h;exact run rfl rfl hf (Wp hg) h
  |@guarded j w d hnd hg hdj=>
   simp only[Q10,DL1]at h;have hrl:i∉rl:=(hgr i (mem_cons_self ..) o ho).resolve_left (by rw[hg];simp);split at h
   .rename_i b hb;have hw:=Qii (ops:=ops) (o:=o) hg hdj (hf.slot hb);have e:upd f d (.bool b)=f:=Qmt hb;cases b <;> cases w <;> simp only[GB,Bool.not_true,Bool.not_false]at h <;> rw[e]at h
    .exact run rfl rfl hf (by rw[hw];rfl) h
    .exact .un hrl ho (by rw[hw];rfl) (ihx _ _ _ _ (hf.put o.dst undef hd) h)
    .exact .un hrl ho (by rw[hw];rfl) (ihx _ _ _ _ (hf.put o.dst undef hd) h)
    .exact run rfl rfl hf (by rw[hw];rfl) h
   .rename_i vs hb;exact .un hrl ho (Qkh hf hg hdj hb) (ihx _ _ _ _ (hf.put o.dst undef hd) h)
   .exact h.elim
  |dfr=>simp at hnd'
def Qy1(N:Nat)(ops:Array Oper)(rl:List Nat)(alts:List (List Nat))(ts:List Nat):Bool:=
 Zdl ops rl alts ts&&ops.all (inB N)&&rl.all λ i=>((ops[i]?).map (·.guard.isNone)).getD true
def Zna{N:Nat}{mu:List Nat}{c:Code}{id:Nat}{ops:Array Oper}{n:Zp T}{x:Nat->Zp T}{r:Zp T}{f:Fm}{ds:List Deferred}{U:Qa T}(rl:List Nat)(alts:List (List Nat))(ts:List Nat)(la:List (List (Nat×St)))(lt:List St)(hm:P.follows .mixedOrders=true)
  (hc:c=.region id ops true) (hok:Qy1 N ops rl alts ts=true) (hla:alts.mapM (λ qs=>qs.mapM λ i=>((ops[i]?).bind (Jj P mu ops)).map λ st=>(Qgv P mu ops rl i,st))=some la) (hlt:ts.mapM (λ i=>(ops[i]?).bind (Jj P mu ops))=some lt)
  (hdf:(la.all λ l=>l.all λ x=>x.2.dfr.isNone)=true) (E:Zp T) (h:∀l∈la,DLX S U.frz l (λ U'=>U.le U') E f ds) (hE:∀f' ds' U',E f' ds' U'->OpX S ro lt n f' ds' U'):cdX S fn ro N c n x r f ds U:=by
 subst hc;intro a hf;unfold Qy1 at hok;simp only[Bool.and_eq_true]at hok;obtain⟨⟨hok,hin⟩,hg⟩:=hok
 have hN:∀(i:Nat)(o:Oper),ops[i]?=some o->∀d,o.dst=some d->d<N:=λ i o ho d hd=>by
  have:=(Array.all_eq_true'.1 hin) o (Array.mem_of_getElem? ho);unfold inB at this;rw[hd]at this;exact of_decide_eq_true this
 have hgr:∀i∈rl,∀o,ops[i]?=some o->o.guard=none:=λ i hi o ho=>by
  have:=all_eq_true.1 hg i hi;rw[ho]at this;simpa using this
 refine Ze2 (J:=λ U'=>U.frz.lg U') rl alts ts (λ U'=>U.le U') (λ _ _ h k=>h.trans k) (λ U' h=>⟨h.imm,⟨_,(append_nil _).symm⟩,h.tok⟩) (.refl U) hm hok λ qs hqs=>?_
 obtain⟨l,hl,hl'⟩:∃l,l∈la/\qs.mapM (λ i=>((ops[i]?).bind (Jj P mu ops)).map λ st=>(Qgv P mu ops rl i,st))=some l:=by
  clear h hdf hok
  induction alts generalizing la with
  |nil=>cases hqs
  |cons q alts ih=>
   simp only[mapM_cons,Option.pure_def,Option.bind_eq_bind,Option.bind_eq_some_iff]at hla;obtain⟨l,h1,la',h2,e⟩:=hla;cases e;rcases mem_cons.1 hqs with rfl|hqs
   .exact⟨l,mem_cons_self ..,h1⟩
   .obtain⟨l',h3,h4⟩:=ih la' h2 hqs;exact⟨l',mem_cons_of_mem _ h3,h4⟩
 refine Ze6 (K:=E) (λ a' f' ds' U' hf' hk=>?_) hN qs l hl' (all_eq_true.1 hdf l hl) (λ i _ o ho=>?_) a f ds _ hf (h l hl)
 .refine Qmh (n:=n) (λ a f ds U hf h=>?_) hN ts lt hlt a' f' ds' U' hf' (hE f' ds' U' hk);refine⟨by rw[hf.size,‹FR N _ _ _›.size],f,hf.get,?_⟩;rw[hf.ds];exact h
 .by_cases hi:i∈rl
  .exact .inl (hgr i hi o ho)
  .exact .inr hi
def Qvg{N:Nat}{mu:List Nat}{c:Code}{id:Nat}{ops:Array Oper}{Q:Ex->Act->Qa T->Prop}{a:Act}{f:Fm}{ds:List Deferred}{U:Qa T}(hf:FR N a f ds)(rl:List Nat)(alts:List (List Nat))(ts:List Nat)(la:List (List (Nat×St)))(lt:List St)(hm:P.follows .mixedOrders=true)
  (hc:c=.region id ops true) (hok:Qy1 N ops rl alts ts=true) (hla:alts.mapM (λ qs=>qs.mapM λ i=>((ops[i]?).bind (Jj P mu ops)).map λ st=>(Qgv P mu ops rl i,st))=some la) (hlt:ts.mapM (λ i=>(ops[i]?).bind (Jj P mu ops))=some lt)
  (hdf:(la.all λ l=>l.all λ x=>x.2.dfr.isNone)=true) (E:Zp T) (h:∀l∈la,DLX S U.frz l (λ U'=>U.le U') E f ds) (hE:∀f' ds' U',E f' ds' U'->OpX S ro lt (λ f ds U=>∀a',FR N a' f ds->Q .normal a' U) f' ds' U'):Zu S fn ro c Q a U:=by
 have:=Zna (S:=S) (fn:=fn) (ro:=ro) (n:=λ f ds U=>∀a',FR N a' f ds->Q .normal a' U) (x:=λ _ _ _ _=>False) (r:=λ _ _ _=>False) (U:=U) rl alts ts la lt hm hc hok hla hlt hdf E h hE a hf;refine Zu.mono this λ e a' U'⟨hs,f',hg,hp⟩=>?_;cases e with
 |normal=>exact hp a' ⟨rfl,by rw[hs];exact hf.size,hg⟩
 |exit i=>exact hp.elim
 |ret=>exact hp.elim
structure Hld(U:Qa T)(b:Nat)(e:TypeId)(c:Array Value)(U':Qa T):Prop where
 imm:∀x o,U.I x=some o->U'.I x=some o
 own:U'.M=.obj b (.cells c e (0,0))::U.M
 tok:U'.tok=U.tok
 new:U.I b=none
def Hld.le{U U' U'':Qa T}{b:Nat}{e:TypeId}{c:Array Value}(h:Hld U b e c U')(k:U'.le U''):Hld U b e c U'':=⟨λ x o i=>k.imm x o (h.imm x o i),k.own.trans h.own,k.tok.trans h.tok,h.new⟩
def Hld.frz2{U U':Qa T}{b:Nat}{e:TypeId}{c:Array Value}(h:Hld U b e c U'):U.frz.lg U'.frz:=⟨h.imm,⟨[],rfl⟩,h.tok⟩
def Hld.write{U U':Qa T}{b:Nat}{e:TypeId}{c:Array Value}{vs:List Value}{Q:Qa T->Prop}(h:Hld U b e c U')(hsz:c.size=vs.length)(hs:∀v∈vs,v.single=true)(hQ:∀U1,U.le U1->Zd U1 b vs.toArray->Q U1):StV ⟨b,0,none⟩ vs 0 (λ U'=>∃U1,Qw U' U1/\Q U1) U':=by
 refine Qrk [] vs 0 c U' h.own hs (by omega) ?_;rw[Qi2 hsz];refine⟨_,Wf (b:=b) (M':=U.M) (Perm.refl _),hQ _ ⟨λ x o i=>?_,rfl,h.tok⟩ Zd.new⟩;show Qg0 U'.I b _ x=_;unfold Qg0;rw[if_neg]
 .exact h.imm x o i
 .rintro rfl;rw[h.new]at i;cases i
end Go.TM
set_option linter.unusedSimpArgs false
namespace Go.TM
variable{T:Type}{P:Program}{S:Sys P T}{fn:FuncId}{ro:Option Nat}
def Ziv{N:Nat}{mu:List Nat}{c:Code}{id:Nat}{ops:Array Oper}{n:Zp T}{x:Nat->Zp T}{r:Zp T}{f:Fm}{ds:List Deferred}{U:Qa T}(Ub:Qa T)(hUb:Ub.lg U)(rl:List Nat)(alts:List (List Nat))(ts:List Nat)(la:List (List (Nat×St)))(lt:List St)(hm:P.follows .mixedOrders=true)
  (hc:c=.region id ops true) (hok:Qy1 N ops rl alts ts=true) (hla:alts.mapM (λ qs=>qs.mapM λ i=>((ops[i]?).bind (Jj P mu ops)).map λ st=>(Qgv P mu ops rl i,st))=some la) (hlt:ts.mapM (λ i=>(ops[i]?).bind (Jj P mu ops))=some lt)
  (hdf:(la.all λ l=>l.all λ x=>x.2.dfr.isNone)=true) (E:Zp T) (h:∀l∈la,DLX S Ub l (λ U'=>U.le U') E f ds) (hE:∀f' ds' U',E f' ds' U'->OpX S ro lt n f' ds' U'):cdX S fn ro N c n x r f ds U:=by
 subst hc;intro a hf;unfold Qy1 at hok;simp only[Bool.and_eq_true]at hok;obtain⟨⟨hok,hin⟩,hg⟩:=hok
 have hN:∀(i:Nat)(o:Oper),ops[i]?=some o->∀d,o.dst=some d->d<N:=λ i o ho d hd=>by
  have:=(Array.all_eq_true'.1 hin) o (Array.mem_of_getElem? ho);unfold inB at this;rw[hd]at this;exact of_decide_eq_true this
 have hgr:∀i∈rl,∀o,ops[i]?=some o->o.guard=none:=λ i hi o ho=>by
  have:=all_eq_true.1 hg i hi;rw[ho]at this;simpa using this
 refine Ze2 (J:=λ U'=>Ub.lg U') rl alts ts (λ U'=>U.le U') (λ _ _ h k=>h.trans k) (λ U' h=>hUb.trans h.lg) (.refl U) hm hok λ qs hqs=>?_
 obtain⟨l,hl,hl'⟩:∃l,l∈la/\qs.mapM (λ i=>((ops[i]?).bind (Jj P mu ops)).map λ st=>(Qgv P mu ops rl i,st))=some l:=by
  clear h hdf hok
  induction alts generalizing la with
  |nil=>cases hqs
  |cons q alts ih=>
   simp only[mapM_cons,Option.pure_def,Option.bind_eq_bind,Option.bind_eq_some_iff]at hla;obtain⟨l,h1,la',h2,e⟩:=hla;cases e;rcases mem_cons.1 hqs with rfl|hqs
   .exact⟨l,mem_cons_self ..,h1⟩
   .obtain⟨l',h3,h4⟩:=ih la' h2 hqs;exact⟨l',mem_cons_of_mem _ h3,h4⟩
 refine Ze6 (K:=E) (λ a' f' ds' U' hf' hk=>?_) hN qs l hl' (all_eq_true.1 hdf l hl) (λ i _ o ho=>?_) a f ds _ hf (h l hl)
 .refine Qmh (n:=n) (λ a f ds U hf h=>?_) hN ts lt hlt a' f' ds' U' hf' (hE f' ds' U' hk);refine⟨by rw[hf.size,‹FR N _ _ _›.size],f,hf.get,?_⟩;rw[hf.ds];exact h
 .by_cases hi:i∈rl
  .exact .inl (hgr i hi o ho)
  .exact .inr hi
def Qy6{N:Nat}{mu:List Nat}{c:Code}{id:Nat}{ops:Array Oper}{Q:Ex->Act->Qa T->Prop}{a:Act}{f:Fm}{ds:List Deferred}{U:Qa T}(hf:FR N a f ds)(Ub:Qa T)(hUb:Ub.lg U)(rl:List Nat)(alts:List (List Nat))(ts:List Nat)(la:List (List (Nat×St)))(lt:List St)(hm:P.follows .mixedOrders=true)
  (hc:c=.region id ops true) (hok:Qy1 N ops rl alts ts=true) (hla:alts.mapM (λ qs=>qs.mapM λ i=>((ops[i]?).bind (Jj P mu ops)).map λ st=>(Qgv P mu ops rl i,st))=some la) (hlt:ts.mapM (λ i=>(ops[i]?).bind (Jj P mu ops))=some lt)
  (hdf:(la.all λ l=>l.all λ x=>x.2.dfr.isNone)=true) (E:Zp T) (h:∀l∈la,DLX S Ub l (λ U'=>U.le U') E f ds) (hE:∀f' ds' U',E f' ds' U'->OpX S ro lt (λ f ds U=>∀a',FR N a' f ds->Q .normal a' U) f' ds' U'):Zu S fn ro c Q a U:=by
 have:=Ziv (S:=S) (fn:=fn) (ro:=ro) (n:=λ f ds U=>∀a',FR N a' f ds->Q .normal a' U) (x:=λ _ _ _ _=>False) (r:=λ _ _ _=>False) (U:=U) Ub hUb rl alts ts la lt hm hc hok hla hlt hdf E h hE a hf;refine Zu.mono this λ e a' U'⟨hs,f',hg,hp⟩=>?_;cases e with
 |normal=>exact hp a' ⟨rfl,by rw[hs];exact hf.size,hg⟩
 |exit i=>exact hp.elim
 |ret=>exact hp.elim
end Go.TM
set_option linter.unusedSimpArgs false
namespace Go.TM
variable{T:Type}{P:Program}{S:Sys P T}{f:Fm}{K:Value->Qa T->Prop}{U:Qa T}
def Q6k{t t2 e e2 n ty:Nat}{z v:Value}{inf:TypeInfo}{x y:Operand}{ya:Option Addr}{yl yc:Nat}{cs new:List Value}{M₀:List Qv}
  (hu:P.underlying t=some (.slice e)) (hu2:P.underlying t2=some (.slice e2)) (hi:P.info? e=some inf) (hsz:inf.size=n) (hz:inf.zero=some z) (hzs:z.cells.size=n) (hby:inf.bytes≠0/\inf.bytes<=1024)
  (hx:Zl f x=v) (hy:Zl f y=.slice ya yl yc) (ha:Acc e n v cs U.M M₀) (hsrc:Src U ya new) (hl:new.length=yl*n) (hn:0<n) (hsing:∀w∈new,w.single=true) (hlen:cs.length+new.length<=1048576)
  (hne:new≠[]) (h:∀v' M' Z,Acc e n v' (cs++new) M' (Z++M₀)->(∀M'' B,Acc e n v' (cs++new) M'' (Z++B)->∃M3:List Qv,M3.Sublist M''/\Acc e n v cs M3 B)->K v' { U with M:=M' }) :
  OX S (.raw { dst:=none,op:=.call { callee:=.builtin .append,args:=#[x,y],argTypes:=#[t,t2] },type:=ty,pos := "", after:=#[],guard:=none }) f K U:=by
 intro a' hev;obtain⟨sa,sl,sc,hve,hcl,hss⟩:=ha.src;have hm:(#[x,y]:Array Operand).map a'.eval=#[.slice sa sl sc,.slice ya yl yc]:=by simp[hev,hx,hy,hve]
 simp only[execOp,resolve,hm,Qf,Qi,invoke,builtin];show Qr P (Builtin.append_ #[t,t2] ty #[.slice sa sl sc,.slice ya yl yc]) _ U;unfold Builtin.append_;simp only[getElem?_toArray,getElem?_cons_zero,getElem?_cons_succ,Qf,Zg hu,Zg hu2,Jh hi,hsz,Qi,Bool.false_eq_true,if_false,Builtin.lenOf,Wi hi,false_or,Bool.not_false,if_true];have hsl:sl<=cs.length:=by rw[hcl];exact Nat.le_mul_of_pos_right _ hn
 have hyl:yl<=new.length:=by rw[hl];exact Nat.le_mul_of_pos_right _ hn
 have hcat:(cs++new).length=(sl+yl)*n:=by rw[length_append,hcl,hl,Nat.add_mul]
 split
 .rename_i hle;rw[Qf];refine Qbl hsrc hl ?_;rcases ha with⟨rfl,rfl,hM⟩|⟨b,c,len,cap,rfl,h1,h2,h3,hM,h4⟩
  .cases hve;have:yl=0:=by omega
   subst this;have hnew:new=[]:=by simpa using hl
   exact absurd hnew hne
  .cases hve;simp only[Qf];refine Qat _ _ _ ?_;rw[Qo]
   have hroom:0+sl*n+0+new.length<=c.size:=by
    have:(sl+yl)*n<=sc*n:=Nat.mul_le_mul_right n hle;rw[Nat.add_mul]at this;rw[h3,hl];omega
   refine Qf7 _ _ c U hM hsing hroom ?_;refine⟨_,.refl _,h _ _ [] (.inr ⟨b,_,sl+yl,sc,rfl,hcat,hle,by rw[Qgi];exact h3,rfl,λ i x hi=>?_⟩) λ M'' B hM''=>?_⟩
   .rw[Qfz _ _ _ _ _ hroom];simp only[getElem?_append]at hi;split at hi
    .rename_i hlt;rw[if_neg (by omega)];exact h4 i x hi
    .rename_i hge;have hlt:=(List.getElem?_eq_some_iff.1 hi).1;rw[if_pos (by omega)];rw[show i-(0+sl*n+0)=i-cs.length by omega];exact hi
   .rcases hM'' with⟨e1,_,_⟩|⟨b',c',len',cap',e1,g1,g2,g3,g4,g5⟩
    .cases e1
    .cases e1;refine⟨_,.refl _,.inr ⟨b,c',sl,sc,rfl,hcl,by omega,g3,g4,λ i x hi=>?_⟩⟩;refine g5 i x ?_;rw[getElem?_append_left (List.getElem?_eq_some_iff.1 hi).1];exact hi
 .rename_i hgt;have hb1:¬(((sl+yl:Nat):Int) > IntKind.i64.max/\inf.bytes=0):=λ h=>hby.1 h.2
  have hb2:¬(Builtin.nextslicecap (sl+yl) sc*inf.bytes > 2^48):=by
   have:=nextslicecap_le (need:=sl+yl) (old:=sc) (by omega);have h2:Builtin.nextslicecap (sl+yl) sc*inf.bytes<=(2*(sl+yl)+192)*1024:=Nat.mul_le_mul this hby.2;have e48:(2:Nat)^48=281474976710656:=by decide
   rw[e48];omega
  simp only[Wi hi,Qf];rw[if_neg hb1];simp only[Wi hi,Qf];rw[if_neg hb2];simp only[choose,Qf];show ∀tt,Qr P _ _ U;intro tt;show Qr P (typeInfo e) _ U;rw[Wi hi];refine Qmq ?_;refine Qbl hss hcl ?_;refine Qbl hsrc hl ?_;simp only[Qb7 hi hz];refine Jk λ b' hb'=>?_;have hcut:sl+yl<=Question.cut (.appendCap (sl+yl) sc e) tt:=by simp only[Question.cut];omega
  obtain⟨Z,hZ,hZB⟩:∃Z,U.M=Z++M₀/\∀B,Acc e n (.slice sa sl sc) cs (Z++B) B:=by
   rcases ha with⟨e1,e2,hM⟩|⟨b,c,len,cap,e1,g1,g2,g3,hM,g5⟩
   .exact⟨[],hM,λ B=>.inl ⟨by rw[<- hve];exact e1,e2,rfl⟩⟩
   .exact⟨[_],hM,λ B=>.inr ⟨b,c,len,cap,by rw[<- hve];exact e1,g1,g2,g3,rfl,g5⟩⟩
  refine⟨_,.refl _,h _ _ Z (.inr ⟨b',_,sl+yl,Question.cut (.appendCap (sl+yl) sc e) tt,rfl,hcat,hcut,?_,by rw[<- hZ],λ i x hi=>?_⟩) λ M'' B hM''=>?_⟩
  .simp only[Array.size_append,size_toArray,hcl,hl,Builtin.zeroCells,Array.size_map,Array.size_range,hzs];rw[<- Nat.add_mul,<- Nat.add_mul];congr 1;omega
  .have:(cs.toArray++new.toArray)=(cs++new).toArray:=by simp
   rw[this,Array.getElem?_append_left (by simpa using(List.getElem?_eq_some_iff.1 hi).1)];simpa using hi
  .refine⟨Z++B,?_,by rw[hve];exact hZB B⟩;rcases hM'' with⟨e1,_,_⟩|⟨b'',c',len',cap',e1,g1,g2,g3,g4,g5⟩
   .cases e1
   .rw[g4];exact sublist_cons_self _ _
def Q6j{t e n ty:Nat}{v:Value}{x y:Operand}{ya:Option Addr}{yl yc:Nat}{cs new:List Value}{M₀:List Qv}(k:SlT P t e n)
  (hx:Zl f x=v) (hy:Zl f y=.slice ya yl yc) (ha:Acc e n v cs U.M M₀) (hsrc:Src U ya new) (hl:new.length=yl*n) (hsing:∀w∈new,w.single=true) (hlen:cs.length+new.length<=1048576) (hne:new≠[])
  (h:∀v' M' Z,Acc e n v' (cs++new) M' (Z++M₀)->(∀M'' B,Acc e n v' (cs++new) M'' (Z++B)->∃M3:List Qv,M3.Sublist M''/\Acc e n v cs M3 B)->K v' { U with M:=M' }) :
  OX S (.raw { dst:=none,op:=.call { callee:=.builtin .append,args:=#[x,y],argTypes:=#[t,t] },type:=ty,pos := "", after:=#[],guard:=none }) f K U:=by
 obtain⟨inf,z,h1,h2,h3,h4,h5,h6⟩:=k.i;exact Q6k k.u k.u h1 h2 h3 h4 ⟨h5,h6⟩ hx hy ha hsrc hl k.n hsing hlen hne h
end Go.TM
namespace Go.TM
section
variable{T:Type}{P:Program}{S:Sys P T}
def Qwc(S:Sys P T)(f:FuncId)(args:Array Value)(Q:Qa T->Prop)(U:Qa T):Prop:=
 ∀(Stop:Stp T)(m:Bool)(c:Frame)(cs:List Frame),c.mode=.returning->(∀U',Q U'->J S Stop m (Rf c cs) U')->J S Stop m (Rf (Frame.enter P f args .deferred) (c::cs)) U
def Qwc.mono{f:FuncId}{args:Array Value}{Q Q':Qa T->Prop}{U:Qa T}(h:Qwc S f args Q U)(hq:∀U',Q U'->Q' U'):Qwc S f args Q' U:=
 λ Stop m c cs hc k=>h Stop m c cs hc λ U' q=>k U' (hq U' q)
def Zr3(S:Sys P T)(rl:List RV)(Q:Value->Qa T->Prop)(f:Fm)(l:List Deferred):Qa T->Prop:=
 List.rec (motive:=λ _=>Qa T->Prop) (λ U=>Q66 f Q rl [] U) (λ d r _ U=>match d.target with
  |.fn (.func g) capt=>r=[]/\(P.funcs[g]?.any λ fd=>fd.body.isSome&&fd.name != "runtime.NumGoroutine")=true/\Qwc S g (d.args++capt) (λ U'=>Q66 f Q rl [] U') U
  |_=>False) l
def Qvb{g:FuncId}(hg:(P.funcs[g]?.any λ fd=>fd.body.isSome&&fd.name != "runtime.NumGoroutine")=true)(args:Array Value)(w:World)(es:Array Event):(callFunc g args).runT P w es=(.ok (.enter g args) w,es):=by
 cases hf:P.funcs[g]? with
 |none=>rw[hf]at hg;cases hg
 |some fd=>
  rw[hf]at hg;simp only[Option.any_some,Bool.and_eq_true,bne_iff_ne,ne_eq]at hg;obtain⟨h1,h2⟩:=hg;have h3:(fd.name== "runtime.NumGoroutine")=false:=by simpa using h2
  have h4:fd.body.isNone=false:=by cases h:fd.body <;> simp_all
  have h5:callFunc g args=(.program λ P=>match P.funcs[g]? with
   |none=>stuck "call: no such function"
   |some fn=>if fn.name== "runtime.NumGoroutine" then pure .numGoroutine else if fn.body.isNone then(do
     mark (.extern g)
     if let some e:=Extern.findNext fn then return <- e args
     match Extern.find fn with
     |some e=>pure (.value (<- e args))
     |none=>if fn.name.endsWith ".init"&&!fn.name.startsWith "("&&!fn.name.startsWith "gosem." then pure (.value (.tuple #[]))else unsupported (.extern fn.name))else pure (.enter g args)):=rfl
  rw[h5];simp only[Sem.runT,hf,h3,h4,Bool.false_eq_true,if_false];rfl
def J.defer{b:Frame}{tmps:Array Value}{todo:List Item}{c:Frame}{cs:List Frame}{g:FuncId}{capt args:Array Value}{ds:List Deferred}{Stop:Stp T}{m:Bool}{U:Qa T}{Q:Qa T->Prop}
  (hg:(P.funcs[g]?.any λ fd=>fd.body.isSome&&fd.name != "runtime.NumGoroutine")=true) (h:Qwc S g (args++capt) Q U)
  (k:∀U',Q U'->J S Stop m (Rf { fr b ⟨tmps,ds⟩ todo with mode:=.returning } (c::cs)) U'):J S Stop m (Rf { fr b ⟨tmps,{ target:=.fn (.func g) capt,args:=args }::ds⟩ todo with mode:=.returning } (c::cs)) U:=by
 refine .still rfl (λ w=>?_) (h Stop m { fr b ⟨tmps,ds⟩ todo with mode:=.returning } (c::cs) rfl k);have h1:=Qvb (P:=P) hg (args++capt) w #[];have hr:Sem.run P (invoke (.fn (.func g) capt) args) w=.ok (.enter g (args++capt)) w:=by rw[<- Sem.runT_fst P _ w #[]];exact congrArg Prod.fst h1
 have he:Sem.events P (invoke (.fn (.func g) capt) args) w #[]=#[]:=congrArg Prod.snd h1;simp[Rf,stepG,unwind,fr,callDeferred,hr,he,GStep.after,Qv4]
def Qb.ofD{g:FuncId}{N:Nat}{cc:C}{rl:List RV}(k:Q5 P g N cc rl)(hm:P.follows .mixedOrders=true){args:List Value}(hn:args.length<=N){U:Qa T}{Q:Value->Qa T->Prop}
  (h:wpC S g none cc (λ f ds U=>Zr3 S rl Q f ds U) (λ _ _ _ _=>False) (λ f ds U=>Zr3 S rl Q f ds U) (fm args) [] U):Qb S g args.toArray Q U:=by
 obtain⟨fd,mu,dets,hf,hb,hc,rfl,hr,-⟩:=k.ok;intro Stop m caller cs hq
 let b:Frame:={ (default:Frame)with fn:=g,kind:=.normal }
 have henter:Rf (Frame.enter P g args.toArray .normal) (caller::cs)=R b { tmps:=args.toArray++Array.replicate (fd.ntmps-args.toArray.size) undef,defers:=[] } [.code (fd.body.getD .skip)] (caller::cs):=by
  simp only[Rf,R,Frame.enter,fr,hf,b,Option.bind_some];rw[hb];rfl
 rw[henter]
 have hfr:FR fd.ntmps { tmps:=args.toArray++Array.replicate (fd.ntmps-args.toArray.size) undef,defers:=[] } (fm args) []:=by
  refine⟨rfl,by simp;omega,λ t=>?_⟩;simp only[fm,Array.getD_eq_getD_getElem?,getD_eq_getElem?_getD,Array.getElem?_append,size_toArray,getElem?_toArray];split
  .rfl
  .rename_i hlt;rw[getElem?_eq_none (by omega),Array.getElem?_replicate];split <;> rfl
 subst hc
 have fin:∀(a':Act)(f':Fm)(ds':List Deferred)(U':Qa T),FR fd.ntmps a' f' ds'->Zr3 S rl Q f' ds' U'->∀todo,J S Stop m (Rf { fr b a' todo with mode:=.returning } (caller::cs)) U':=by
  intro a' f' ds' U' hf' hp todo
  have ret:∀U2,Q66 f' Q rl [] U2->J S Stop m (Rf { fr b ⟨a'.tmps,[]⟩ todo with mode:=.returning } (caller::cs)) U2:=λ U2 hx=>
   Qqh.step hf (.inl rfl) hq [] todo U2 (Qgg hr [] U2 hx a'.tmps hf'.get)
  obtain⟨tm,dd⟩:=a';have hdd:dd=ds':=hf'.ds;subst hdd;cases dd with
  |nil=>exact ret U' hp
  |cons d r=>
   obtain⟨tg,args'⟩:=d;cases tg with
   |fn fn' capt=>
    cases fn' with
    |func h'=>
     obtain⟨rfl,hany,hd⟩:=hp;exact J.defer hany hd ret
    |_=>exact hp.elim
   |_=>exact hp.elim
 refine J.body (fn:=g) ⟨rfl,rfl,by simp[b],by simp⟩ (Qc9 hm _ hfr h) λ e a' U' q=>?_;obtain⟨f',ds',hf',hp⟩:=q;cases e with
 |normal=>exact⟨.inl rfl,fin a' f' ds' U' hf' hp⟩
 |ret=>exact⟨.inr rfl,fin a' f' ds' U' hf' hp⟩
 |exit id=>exact hp.elim
end
section
variable{P:Program}{t:TypeId}{N:Nat}
def Qb.makeM{f:FuncId}{args:Array Value}{Q:Value->Qa Tk->Prop}{U:Qa Tk}{b:Nat}{x:Mux}{M₁ M₂:List Qv}(ht:U.tok=⟨0,.par b [] false .run,none⟩)(hM:U.M=.obj x.m (.cells #[Ze 0,Qp 0] x.t (0,0))::(M₁++M₂))(hD:x.sp false false M₁)
  (h:Qb (Zb P t N) f args Q { U with M:=M₂,tok:=⟨0,.par b [] false .run,some (.par x λ _=>false)⟩ }):Qb (Zb P t N) f args Q U:=
 λ Stop m c cs k=>.syn (Syn.makeM ht hM hD (h Stop m c cs k))
end
end Go.TM
