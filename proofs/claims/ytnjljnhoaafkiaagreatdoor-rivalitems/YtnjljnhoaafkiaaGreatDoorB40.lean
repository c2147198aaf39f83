/- Lemmas. No conditions. -/
import Derived.Conc.HoldsTime
import Derived.SevenTiedAt
import Derived.Conc.LeavingOf
import Derived.OpenShut
import Derived.Test.YtnjljnhoaafkiaaGreatDoorB35
set_option linter.all false
open List
namespace Go.TM
open Go.ChangeShapes Go.WideShapes Go.RowKit
open Go.ConcM (OsLater)
def Qa.all(W:World):Qa Tk:=⟨λ b=>W.heap[b]?,[],⟨0,.out,none⟩⟩
def Qa.all_ok(W:World):(Qa.all W).ok W:=⟨λ _ _ h=>h,λ _ h=>absurd h not_mem_nil,Pairwise.nil,λ _ h=>absurd h not_mem_nil⟩
def wZ{W:World}{a:Addr}{v:Value}(h:W.cell? a=some v):(Qa.all W).sees a v:=by
 unfold World.cell? at h;split at h
 .rename_i c t fr hb;split at h
  .cases h
  .rename_i hs;exact⟨by cases e:a.spot <;> simp_all,.inl ⟨c,t,fr,.inl hb,h⟩⟩
 .cases h
def Eo{W:World}{a:Addr}{n:Nat}{cs:List Value}(h:W.cells? 0 a n=some cs):cs.length=n/\Je (Qa.all W) a cs:=by
 unfold World.cells? at h;rw[if_pos (Nat.zero_le _)]at h;have hl:=mapM_some_length h;rw[length_range]at hl;refine⟨hl,λ i v b=>?_⟩;have f:i<n:=by rw[<- hl];exact(List.getElem?_eq_some_iff.1 b).1
 have:=mapM_some_get h i i (by simp[f]);exact wZ (this.trans b)
section
variable{H:Type}{enc:TypeId×Value->H}{P:Program}{W:World}{t e:TypeId}{n fuel:Nat}{x:DataW H×List MemPlace}{v:Value}{cs:List Value}
abbrev JQ(enc:TypeId×Value->H)(P:Program)(W:World)(fuel:Nat)(t:TypeId)(cs:List Value):Option (DataW H×List MemPlace):=DataW.trod enc P W 0 (λ _=>true) true fuel t cs
def Sz(P:Program)(t:TypeId)(d:DataW H):Prop:=∀k∈d.weights P t,k<=reachBytes
def Ll{k:Nat}(h:k<=reachBytes):k<2^60:=by
 have:=reachBytes_lt;omega
def Sz.slice{es rest:List (DataW H)}(h:Sz P t (.slice es rest))(w:P.underlying t=some (.slice e))(hb:0<P.bytesOf e):es.length<2^60/\∀d∈es,Sz P e d:=by
 simp only[Sz,DataW.weights,w]at h;refine⟨?_,λ d b k f=>h k ?_⟩
 .have:=Ll (h _ (mem_cons_self ..));have h2:es.length*1<=(es.length+rest.length)*P.bytesOf e:=Nat.mul_le_mul O1 hb;omega
 .refine mem_cons_of_mem _ (mem_append_left _ ?_);clear h
  induction es with
  |nil=>cases b
  |cons a es z=>
   simp only[DataW.weightsAll,mem_append];rcases mem_cons.1 b with rfl|b
   .exact .inl f
   .exact .inr (z b)
def Sz.agg{b:Array Field}{parts:List (DataW H)}(h:Sz P t (.agg parts))(B:P.underlying t=some (.struct b)){i:Nat}{f:Field}{d:DataW H}(hf:b[i]?=some f)(w:parts[i]?=some d):Sz P f.type d:=by
 simp only[Sz,DataW.weights,B]at h;exact λ k z=>h k (DataW.weights_mem_each (by simp[getElem?_map,hf]) w k z)
def Sz.str{l:List UInt8}(h:Sz P t (.lit (.string l):DataW H)):l.length<2^60:=Ll (h _ (by simp[DataW.weights]))
def Sz.arg{ts:List TypeId}{ds:List (DataW H)}(h:(DataW.weightsEach P ts ds).all (·<=reachBytes)=true){i:Nat}{d:DataW H}(ht:ts[i]?=some t)(b:ds[i]?=some d):Sz P t d:=λ k f=>by
 have:=all_eq_true.1 h _ (DataW.weights_mem_each ht b k f);simpa using this
def kN(S:P.underlying t=some (.slice e))(Q:P.cellsOf e=n)(L:0<n)(h:JQ enc P W fuel t [v]=some x) :
  ∃(a:Option Addr)(len cap:Nat)(rows:List (List Value))(ys:List (DataW H×List MemPlace))(m:Nat),v=.slice a len cap/\rows.length=len/\ys.length=len /\
   (∀(i:Nat)r,rows[i]?=some r->(∃F,a=some F/\F.spot=none/\r.length=n/\Je (Qa.all W) (F.add (i*n)) r)/\∃y,ys[i]?=some y/\JQ enc P W m e r=some y) /\
   ((∃rest,x.1=.slice (ys.map (·.1)) rest)\/len=0):=by
 rcases DataW.trod_slice S h with⟨w,hx⟩|⟨a,len,cap,b,rest,m,_,w,hx,_,_,_,hl,z,_,_⟩
 .simp only[List.cons.injEq,and_true]at w;exact⟨none,0,0,[],[],0,w,rfl,rfl,λ i r f=>by simp at f,.inr rfl⟩
 .simp only[List.cons.injEq,and_true]at w;rw[Q]at z
  have key:∀i,i<len->∃r,W.cells? 0 (a.add (i*n)) n=some r/\∃y,b[i]?=some y/\JQ enc P W m e r=some y:=by
   intro i E;have h1:=z i E;have h2:b[i]?=some b[i]:=getElem?_eq_getElem O1;rw[h2]at h1;obtain⟨r,f,hy⟩:=Option.bind_eq_some_iff.1 h1;exact⟨r,f,_,h2,hy⟩
  refine⟨some a,len,cap,(range len).map λ i=>(W.cells? 0 (a.add (i*n)) n).getD [],b,m,w,S1,hl,λ i r f=>?_,.inl ⟨_,by rw[hx]⟩⟩;have E:i<len:=by have:=(List.getElem?_eq_some_iff.1 f).1;simpa using this
  obtain⟨T,B,y,hy,K⟩:=key i E
  have M:r=T:=by
   simp only[getElem?_map,getElem?_range E,Option.map_some,B,Option.getD_some,Option.some.injEq]at f;exact f.symm
  subst M;obtain⟨h1,h2⟩:=Eo B;obtain⟨U,G,-⟩:=key 0 O1;obtain⟨V,N⟩:=Eo G
  have I:a.spot=none:=by
   have:=N 0 U[0] (getElem?_eq_getElem O1);have:=this.1;simpa[Addr.add]using this
  exact⟨⟨a,rfl,I,h1,h2⟩,y,hy,K⟩
def KY{α:Type}{R:α->List Value->Prop}(S:P.underlying t=some (.slice e))(V:P.cellsOf e=n)(E:0<n)(hb:0<P.bytesOf e)(h:JQ enc P W fuel t [v]=some x)(f:Sz P t x.1)
  (U:∀m r y,JQ enc P W m e r=some y->Sz P e y.1->∃z:α,R z r) :
  ∃(a:Option Addr)(len cap:Nat)(l:List α),v=.slice a len cap/\Q7 (Qa.all W) a len n l R/\len<2^60:=by
 obtain⟨a,len,cap,rows,ys,m,rfl,h1,h2,I,H⟩:=kN S V E h
 have G:len<2^60/\∀(i:Nat)y,ys[i]?=some y->Sz P e y.1:=by
  rcases H with⟨rest,H⟩|H
  .rw[H]at f;have:=f.slice S hb;rw[length_map,h2]at this;exact⟨this.1,λ i y hy=>this.2 _ (mem_map_of_mem (mem_of_getElem? hy))⟩
  .exact⟨O1,λ i y hy=>by have:=(List.getElem?_eq_some_iff.1 hy).1;omega⟩
 have K:∃l:List α,l.length=rows.length/\∀(i:Nat)z,l[i]?=some z->∃r,rows[i]?=some r/\R z r:=by
  have b:∀r∈rows,∃z:α,R z r:=λ r F=>by
   obtain⟨i,B⟩:=getElem?_of_mem F;obtain⟨_,y,hy,ht⟩:=I i r B;exact U m r y ht (G.2 i y hy)
  clear I h1
  induction rows with
  |nil=>exact⟨[],rfl,λ i z f=>by simp at f⟩
  |cons r rows Y=>
   obtain⟨l,hl,B⟩:=Y λ r F=>b r (mem_cons_of_mem _ F);obtain⟨z,f⟩:=b r (mem_cons_self ..);refine⟨z::l,by simp[hl],λ i w N=>?_⟩;cases i with
   |zero=>simp at N;subst N;exact⟨r,rfl,f⟩
   |succ i=>simpa using B i w (by simpa using N)
 obtain⟨l,hl,B⟩:=K;refine⟨a,len,cap,l,rfl,⟨O1,λ i z f=>?_⟩,G.1⟩;obtain⟨r,F,Q⟩:=B i z f;obtain⟨⟨T,ha,X,M,L⟩,_⟩:=I i r F;exact⟨T,r,ha,X,Q,M,L⟩
def PG{z:Array Field}(B:P.underlying t=some (.struct z))(h:JQ enc P W fuel t cs=some x)(F:Sz P t x.1) :
  cs.length=P.cellsOf t/\∃m,∀(i:Nat)(f:Field),z[i]?=some f->∃y,JQ enc P W m f.type ((cs.drop f.offset).take (P.cellsOf f.type))=some y/\Sz P f.type y.1:=by
 obtain⟨xs,m,_,rfl,hl,E,hf⟩:=DataW.trod_struct B h;refine⟨hl,m,λ i f b=>?_⟩;have w:i<xs.length:=by have:=(Array.getElem?_eq_some_iff.1 b).1;omega
 have hx:xs[i]?=some xs[i]:=getElem?_eq_getElem w;exact⟨xs[i],(hf i f b).trans hx,F.agg B b (by rw[getElem?_map,hx];rfl)⟩
def WU{b:Array Field}{m i ft off:Nat}(h:∀(i:Nat)(f:Field),b[i]?=some f->∃y:DataW H×List MemPlace,JQ enc P W m f.type ((cs.drop f.offset).take (P.cellsOf f.type))=some y/\Sz P f.type y.1)
  (hf:(b[i]?).map (λ f=>(f.type,f.offset))=some (ft,off)) (w:P.cellsOf ft=n):∃y,JQ enc P W m ft ((cs.drop off).take n)=some y/\Sz P ft y.1:=by
 cases e:b[i]? with
 |none=>rw[e]at hf;simp at hf
 |some f=>
  rw[e]at hf;simp only[Option.map_some,Option.some.injEq,Prod.mk.injEq]at hf;have:=h i f e;rw[hf.1,hf.2,w]at this;exact this
end
def gn{P:Program}{b:Frame}{fd:Func}{n:Nat}{tmps:Array Value}{v:Value}{w:World}{todo:List Item}(hf:P.funcs[b.fn]?=some fd)(z:b.kind=.normal)(B:fd.results=#[.tmp n])(E:tmps.getD n undef=v)(h:P.inits.idxOf? b.fn=none) :
  stepG P true (Rf { fr b ⟨tmps,[]⟩ todo with mode:=.returning } []) w=.ended (.done v) w (seen P b.fn #[]):=by
 have f:(results fd tmps).runT P w #[]=(.ok v w,#[]):=by
  simp only[results,B,SM];simp[X0,E]
 obtain⟨h1,h2⟩:Sem.run P (results fd tmps) w=.ok v w/\Sem.events P (results fd tmps) w #[]=#[]:=by simpa using f
 simp[Rf,stepG,unwind,fr,hf,h1,h2,doReturn,z,GStep.after,h]
def Zpj{P:Program}{S:Sys P Tk}{g:FuncId}{N n:Nat}{cc:C}{Q:Value->Qa Tk->Prop}{args:List Value}{U:Qa Tk}(k:Zl P g N cc [.t n])(hm:P.follows .mixedOrders=true)(hi:P.inits.idxOf? g=none)(hn:args.length<=N)
  (hq:∀v U',Q v U'->U'.tok=⟨0,.out,none⟩)
  (h:ZY S g none cc (λ _ _ _=>False) (λ _ _ _ _=>False) (λ f ds U=>ds=[]/\WN (f n) λ v=>Q v U) (fm args) [] U) :
  J S (Fin P Q) true (Rf (Frame.enter P g args.toArray .normal) []) U:=by
 obtain⟨fd,mu,dets,hf,hb,T,rfl,hr,-⟩:=k.ok;obtain⟨c,K⟩:∃c,fd.body.getD .skip=c:=⟨_,rfl⟩;rw[K]at hb T
 have I:fd.results=#[.tmp n]:=by
  have hl:fd.results.toList.mapM (XC P)=some [RV.t n]:=hr;have W:=mapM_some_length hl;obtain⟨r,H⟩:∃r,fd.results.toList=[r]:=length_eq_one_iff.1 (by simpa using W.symm);rw[H]at hl;have B:=mapM_some_get hl 0 r rfl
  have X:r=.tmp n:=by
   cases r with
   |tmp t=>simp only[XC]at B;simp at B;rw[B]
   |cell a t=>
    simp only[XC]at B;split at B
    .split at B
     .cases hs:Js P t with
      |none=>rw[hs]at B;simp at B
      |some z=>rw[hs]at B;simp at B
     .simp at B
    .simp at B
  apply Array.ext';rw[H,X]
 let b:Frame:={ (default:Frame)with fn:=g,kind:=.normal }
 have E:Rf (Frame.enter P g args.toArray .normal) []=R b { tmps:=args.toArray++Array.replicate (fd.ntmps-args.toArray.size) undef,defers:=[] } [.code c] []:=by
  simp[Rf,R,Frame.enter,fr,hf,hb,b];rfl
 rw[E]
 have L:FR fd.ntmps { tmps:=args.toArray++Array.replicate (fd.ntmps-args.toArray.size) undef,defers:=[] } (fm args) []:=by
  refine⟨rfl,S3,λ t=>?_⟩;simp only[fm,Array.getD_eq_getD_getElem?,getD_eq_getElem?_getD,Array.getElem?_append,size_toArray,getElem?_toArray];split
  .rfl
  .rename_i hlt;rw[getElem?_eq_none O1,Array.getElem?_replicate];split <;> rfl
 subst T;refine J.body (fn:=g) (Q:=Gw fd.ntmps (λ _ _ _=>False) (λ _ _ _ _=>False) (λ f ds U=>ds=[]/\WN (f n) λ v=>Q v U)) ⟨rfl,rfl,by simp[b],S1⟩ (G6 hm _ L h) λ e a' U' q=>?_;obtain⟨Y,V,G,q⟩:=q;cases e with
 |normal=>exact q.elim
 |exit i=>exact q.elim
 |ret=>
  obtain⟨rfl,q⟩:=q;rw[Qy]at q;refine⟨.inr rfl,λ todo=>.stop ⟨rfl,rfl,hq _ _ q,Y n,q,λ w _=>⟨seen P g #[],?_,λ e he=>absurd (Jm P g #[] e he) S1⟩⟩⟩;obtain⟨M,F⟩:=a';have Z:F=[]:=G.ds;subst Z;exact gn (b:=b) hf rfl I (G.get n) hi
def gp{W W':World}(h:(Qa.all W).ok W')(f:W'.output=W.output):Below W.heap.size W { W' with os:=W.os,tape:=W.tape }:=by
 have key:∀k,k<W.heap.size->W'.heap[k]?=W.heap[k]?:=λ k w=>by
  have:W.heap[k]?=some W.heap[k]:=Array.getElem?_eq_getElem w;rw[this];exact h.imm k _ this
 refine⟨rfl,rfl,f,?_,key⟩;apply Classical.byContradiction;intro z;have b:W'.heap.size<W.heap.size:=by simpa using z
 have:=key W'.heap.size b;rw[Array.getElem?_eq_none (Nat.le_refl _),Array.getElem?_eq_getElem b]at this;cases this
section
variable{H:Type}{enc:TypeId×Value->H}{P:Program}
def E5(hl:laidOutB P=true){W W':World}(hb:Below W.heap.size W W'):∀{ts:List TypeId}{vs:List Value}{ds:List (DataW H)}{z:List MemPlace},ts.all (λ t=>P.readableRec t&&decide (t<P.types.size))=true ->
  DataW.TrodAll enc P W 0 (λ _=>true) true ts vs ds z->(∀x∈z,x.block<W.heap.size)->DataW.TrodAll enc P W' 0 (λ b=>decide (b<W.heap.size)) true ts vs ds z
 |[],[],[],_,_,h,_=>h
 |t::ts,v::vs,d::ds,_,w,⟨p,q,h,B,e⟩,f=>by
  subst e;simp only[all_cons,Bool.and_eq_true,decide_eq_true_eq]at w;exact⟨p,q,Below.trod hl w.1.1 w.1.2 h hb λ x hx=>f x (mem_append_left _ hx),E5 hl hb (by simpa using w.2) B λ x hx=>f x (mem_append_right _ hx),rfl⟩
def vI{fn:Func}{s:ChangeSpec}{W W':World}{args:Array Value}{ds:List (DataW H)}{p:List MemPlace}{L:TypeId}(hl:laidOutB P=true)(Q:fn.params.toList.all (λ t=>P.readableRec t&&decide (t<P.types.size))=true)(f:s.vars=[])
  (K:DataW.Whole enc P fn.params.toList s.vars false W args.toList ds [] p) (G:fn.resultTypes=#[L]) (T:P.underlying L=some .bool) (B:(s.fn H (ds++[])).results=[.lit (.bool true)]) (b:(s.fn H (ds++[])).args=ds) (I:(s.fn H (ds++[])).vars=[])
  (F:(Qa.all W).ok W') (z:W'.output=W.output):s.post enc P fn false true false false W args (.bool true) { W' with os:=W.os }:=by
 have hb:=gp F z;have E:=K.lt;obtain⟨q,r,h1,h2,rfl,M,N⟩:=K;have S:∀x∈q,x.block<W.heap.size:=λ x hx=>by simpa using E x (mem_append_left _ hx)
 refine⟨ds,[],q++r,[],q,[],⟨q,r,h1,h2,rfl,M,N⟩,?_,?_,?_,?_,λ h=>by cases h⟩
 .rw[B,G];exact trodAll_mk1 ⟨1,by simp[DataW.trod,T,Value.cells]⟩
 .rw[b];exact DataW.TrodAll.of_heap (w:={ W' with os:=W.os,tape:=W.tape }) (w':={ W' with os:=W.os }) rfl (E5 hl hb Q h1 S)
 .rw[I,f];rfl
 .have:=hb.frame (λ p=>p∈q++r/\(p∈[]\/p∈q\/p∈[]));exact⟨this.1,this.2.1,this.2.2⟩
def Zom{t:TypeId}{N f:Nat}{fn:Func}{s:ChangeSpec}{W:World}{args:Array Value}{ds:List (DataW H)}{p:List MemPlace}{S:TypeId}(hl:laidOutB P=true)(hp:fn.params.toList.all (λ t=>P.readableRec t&&decide (t<P.types.size))=true)(z:s.vars=[])
  (Y:DataW.Whole enc P fn.params.toList s.vars false W args.toList ds [] p) (L:fn.resultTypes=#[S]) (hu:P.underlying S=some .bool) (E:(s.fn H (ds++[])).results=[.lit (.bool true)]) (w:(s.fn H (ds++[])).args=ds) (Q:(s.fn H (ds++[])).vars=[])
  (X:J (Za P t N) (Fin P λ v U=>v=.bool true/\(Qa.all W).lg U) true (Rf (Frame.enter P f args .normal) []) (Qa.all W)) :
  ∃M last o w' F,runNT P (M+1) (Conc.solo (Conc.G (Frame.enter P f args .normal) []) W) #[]=(.ended o w',F)/\runN P M (Conc.solo (Conc.G (Frame.enter P f args .normal) []) W)=.next last /\
   step P last=.ended o w'/\Conc.Good P (λ v W'=>s.post enc P fn false true false false W args v { W' with os:=W.os }/\OsLater W.os W'.os) last o w' F:=by
 obtain⟨M,last,o,w',F,h1,h2,T,V⟩:=X.runs (Qa.all_ok W) rfl;refine⟨M,last,o,w',F,h1,h2,T,EU V λ v W'⟨U,⟨hv,I⟩,K,Z,B⟩=>?_⟩;subst hv;exact⟨vI hl hp z Y L hu E w Q ⟨λ b o h=>K.imm b o (I.imm b o h),λ _ h=>absurd h not_mem_nil,Pairwise.nil,λ _ h=>absurd h not_mem_nil⟩ B,Z⟩
end
section
variable{H:Type}{enc:TypeId×Value->H}
def Zmo{a:Assume}{C:Checked}{os:Os}{f:FuncId}{fn:Func}{s:ChangeSpec}{F:Stop.Interp}{z:List PathCond}{apart B h:Bool}{X:World->Prop}
  (hX:∀(w w':World),w.heap=w'.heap->X w->X w')
  (own:ownKnob C.prog.godebug=none) (E:os.Started) (S:C.prog.funcs[f]?=some fn)
  (I:∃(w:World)(tape:Tape)(i:Input),w.os=os/\(w.forCall tape i).Shaped C.prog/\i.vars=[]/\Input.okWide C.prog (w.forCall tape i) .any w.heap.size f i /\
   ((s.pre enc C.prog fn z apart (w.forCall tape i).memory i.args/\X (w.forCall tape i).memory)/\sizedMet enc C.prog fn (OpenSpec.ofChange s) apart (w.forCall tape i).memory i.args)/\a.holds C.prog (lone (Frame.enter C.prog f i.args .normal) [] (w.forCall tape i)))
  (runs:∀(W:World)(base:Nat)(args:Array Value)(ds gs:List (DataW H))(b:List MemPlace),
   (∀(j:Nat)t v,fn.params[j]?=some t->args[j]?=some v->Value.okWide C.prog W .any base t v) ->
   DataW.Whole enc C.prog fn.params.toList s.vars apart W args.toList ds gs b ->
   (DataW.weightsEach C.prog (fn.params.toList++s.plain.varTypes C.prog) (ds++gs)).all (·<=reachBytes)=true->X W ->
   ∃M last o w' P,runNT C.prog (M+1) (Conc.solo (Conc.G (Frame.enter C.prog f args .normal) []) W) #[]=(.ended o w',P)/\runN C.prog M (Conc.solo (Conc.G (Frame.enter C.prog f args .normal) []) W)=.next last /\
    step C.prog last=.ended o w'/\Conc.Good C.prog (λ v W'=>s.post enc C.prog fn apart B h false W args v { W' with os:=W.os }/\OsLater W.os W'.os) last o w' P) :
  ReturnsInLeavingWide a C os f .any (λ w args=>(s.pre enc C.prog fn z apart w args/\X w)/\sizedMet enc C.prog fn (OpenSpec.ofChange s) apart w args) ((OpenSpec.ofChange s).postWith enc C.prog fn F (outsideKept [.timePasses]) apart B h):=by
 refine returnsInLeavingWide_of_good own E I ?_;intro w tape i _ _ _ T L _;obtain⟨_,_,_,Q,K,_,_,_,_,N⟩:=T;have e:Q=fn:=Option.some.inj (K.symm.trans S);subst e;obtain⟨⟨⟨ds,gs,b,Y,hc⟩,hx⟩,hz⟩:=L;have U:=DataW.Whole.of_heap (w':=w.forCall tape i) (by rfl) Y;obtain⟨M,last,o,w',P,h1,h2,Z,h4⟩:=runs (w.forCall tape i) w.heap.size i.args ds gs b N U (hz.weights Y) (hX (w.forCall tape i).memory (w.forCall tape i) rfl hx);obtain⟨v,e,V,r1,r2,r3,r4⟩:=h4;exact⟨M,last,o,w',P,h1,h2,Z,v,e,postWith_blind (postWith_of_post V.1 V.2),r1,r2,r3,r4⟩
def Zl9{C:Checked}{os:Os}{f:FuncId}{fn:Func}{s:ChangeSpec}{b:List PathCond}{apart:Bool}{X:World->Prop}(h:World)(args:Array Value)(fuel:Nat)(E:h.os=os)
  (F:(h.forCall (λ _ _=>0) ⟨#[],args,[]⟩).Shaped C.prog)
  (z:Input.okWideB C.prog (h.forCall (λ _ _=>0) ⟨#[],args,[]⟩) f ⟨#[],args,[]⟩=true)
  (B:s.preB enc C.prog fn b apart (h.forCall (λ _ _=>0) ⟨#[],args,[]⟩).memory args fuel=true)
  (G:s.sizedB enc C.prog fn apart (h.forCall (λ _ _=>0) ⟨#[],args,[]⟩).memory args fuel=true)
  (hx:X (h.forCall (λ _ _=>0) ⟨#[],args,[]⟩).memory) :
  ∃(w:World)(tape:Tape)(i:Input),w.os=os/\(w.forCall tape i).Shaped C.prog/\i.vars=[]/\Input.okWide C.prog (w.forCall tape i) .any w.heap.size f i /\
   ((s.pre enc C.prog fn b apart (w.forCall tape i).memory i.args/\X (w.forCall tape i).memory)/\sizedMet enc C.prog fn (OpenSpec.ofChange s) apart (w.forCall tape i).memory i.args)/\({ calm:=true }:Assume).holds C.prog (lone (Frame.enter C.prog f i.args .normal) [] (w.forCall tape i)):=
 ⟨h,λ _ _=>0,⟨#[],args,[]⟩,E,F,(Input.okWide_of_okWideB (base:=0) z).1,(Input.okWide_of_okWideB z).2,⟨⟨ChangeSpec.pre_of_preB B,hx⟩,sizedMet_of_sizedB G⟩,by
  simp only[Assume.holds];exact⟨S1,λ _ _ _ _=>rfl,S1,S1,S1⟩⟩
end
def Zn0{p:Pinned}{s:OpenSpec}{c:OpenClaim}(kinds:List LaidKind)(w:Bool)(b:Bool×String)(lk:Bool)
  (H:c.holds p s) (L:c.wfByText s=true) (z:c.laidByTextAt .later p kinds w)
  (E:c.start=.entering) (B:c.noBlocks=false/\c.again=false) (hm:p.checked.prog.mainIs=some (b.1,b.2.toList)) (K:(!b.1&&b.2.isEmpty&&!lk)=false)
  (hl:∀f fn,p.checked.prog.funcNamed c.func=some f->p.checked.prog.funcs[f]?=some fn->lk=p.checked.prog.looks []/\∀(j:Nat)t,fn.params[j]?=some t->p.checked.prog.wantsStandIn t=false)
  (I:true=c.goesBy p.checked.prog) :
  Claim7.holds p (.plain s) { stood:={ row:=c,standIns:=[],harness:=b,looks:=lk },kinds:=[],alts:=[],goes:=true,laidByText:=true,laidKinds:=kinds,laidTests:=w,laidLooks:=.later }:=by
 have F:Claim7.isSixth { stood:={ row:=c,standIns:=[],harness:=b,looks:=lk },kinds:=[] }=false:=by simpa[Claim7.isSixth]using K
 refine⟨Claim7.tied_new_at .later kinds w (Claim7.new_of_sixth H b lk E B hm F hl) L,λ D G=>?_,z,(λ h=>by cases h),I⟩;cases G
end Go.TM

