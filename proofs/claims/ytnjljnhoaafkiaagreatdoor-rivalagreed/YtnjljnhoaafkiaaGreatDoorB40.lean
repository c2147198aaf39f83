/- Lemmas. No conditions. -/
import Derived.Conc.HoldsTime
import Derived.SevenTiedAt
import Derived.Conc.LeavingOf
import Derived.OpenShut
import Derived.Test.YtnjljnhoaafkiaaGreatDoorB35
set_option linter.all false
open List
namespace Go.TM
variable{W W':World}{a:Addr}{v:Value}{n i fuel m off N:Nat}{cs:List Value}{H α:Type}{P:Program}{t e T:TypeId}{l:List UInt8}{ts:List TypeId}{ds:List (DataW H)}{d:DataW H}{enc:TypeId×Value->H}{x:DataW H×List MemPlace}{w:Array Field}{fd fn:Func}{tmps args:Array Value}{todo:List Item}{S:Sys P Tk}{g f:FuncId}{cc y:C}{Q:Value->Qa Tk->Prop}{U:Qa Tk}{s:ChangeSpec}{p:List MemPlace}{q:Assume}{os:Os}{F:Stop.Interp}{B b:List PathCond}{apart E h:Bool}{X:World->Prop}{r:Pinned}{o:OpenSpec}{c:OpenClaim}
section
open Go.ChangeShapes Go.WideShapes Go.RowKit
open Go.ConcM (OsLater)
def Qa.all(W:World):Qa Tk:=⟨λ b=>W.heap[b]?,[],⟨0,.out,none⟩⟩
def Qa.all_ok(W:World):(Qa.all W).ok W:=⟨λ _ _ h=>h,λ _ h=>absurd h not_mem_nil,Pairwise.nil,λ _ h=>absurd h not_mem_nil⟩
def ww(h:W.cell? a=some v):(Qa.all W).sees a v:=by
 unfold World.cell? at h;split at h
 .rename_i c t fr hb;split at h
  .cases h
  .rename_i hs;exact⟨by cases e:a.spot <;> simp_all,.inl ⟨c,t,fr,.inl hb,h⟩⟩
 .cases h
def En(h:W.cells? 0 a n=some cs):cs.length=n/\Je (Qa.all W) a cs:=by
 unfold World.cells? at h;rw[if_pos (Nat.zero_le _)]at h;have hl:=mapM_some_length h;rw[length_range]at hl;refine⟨hl,λ i v b=>?_⟩;have hi:i<n:=by rw[<- hl];exact(Zz4 b)
 have:=mapM_some_get h i i (by simp[hi]);exact ww (this.trans b)
abbrev JT(enc:TypeId×Value->H)(P:Program)(W:World)(fuel:Nat)(t:TypeId)(cs:List Value):Option (DataW H×List MemPlace):=DataW.trod enc P W 0 (λ _=>true) true fuel t cs
def Sz(P:Program)(t:TypeId)(d:DataW H):Prop:=∀k∈d.weights P t,k<=reachBytes
def IS(h:n<=reachBytes):n<2^60:=by
 have:=reachBytes_lt;omega
def Sz.slice{es rest:List (DataW H)}(h:Sz P t (.slice es rest))(w:P.underlying t=some (.slice e))(hb:0<P.bytesOf e):es.length<2^60/\∀d∈es,Sz P e d:=by
 simp only[Sz,DataW.weights,w]at h;refine⟨?_,λ d b k f=>h k ?_⟩
 .have:=IS (h _ (mem_cons_self ..));have h2:es.length*1<=(es.length+rest.length)*P.bytesOf e:=Nat.mul_le_mul O1 hb;omega
 .refine mem_cons_of_mem _ (mem_append_left _ ?_);clear h
  induction es with
  |nil=>cases b
  |cons a es B=>
   simp only[DataW.weightsAll,mem_append];rcases mem_cons.1 b with rfl|b
   .exact .inl f
   .exact .inr (B b)
def Sz.agg{b:Array Field}{parts:List (DataW H)}(h:Sz P t (.agg parts))(E:P.underlying t=some (.struct b)){i:Nat}{f:Field}{d:DataW H}(hf:b[i]?=some f)(w:parts[i]?=some d):Sz P f.type d:=by
 simp only[Sz,DataW.weights,E]at h;exact λ k B=>h k (DataW.weights_mem_each (by simp[getElem?_map,hf]) w k B)
def Sz.str(h:Sz P t (.lit (.string l):DataW H)):l.length<2^60:=IS (h _ (by simp[DataW.weights]))
def Sz.arg(h:(DataW.weightsEach P ts ds).all (·<=reachBytes)=true)(ht:ts[i]?=some t)(b:ds[i]?=some d):Sz P t d:=λ k f=>by
 have:=all_eq_true.1 h _ (DataW.weights_mem_each ht b k f);simpa using this
def vC(T:P.underlying t=some (.slice e))(S:P.cellsOf e=n)(M:0<n)(h:JT enc P W fuel t [v]=some x) :
  ∃(a:Option Addr)(len cap:Nat)(f:List (List Value))(ys:List (DataW H×List MemPlace))(m:Nat),v=.slice a len cap/\f.length=len/\ys.length=len /\
   (∀(i:Nat)r,f[i]?=some r->(∃G,a=some G/\G.spot=none/\r.length=n/\Je (Qa.all W) (G.add (i*n)) r)/\∃y,ys[i]?=some y/\JT enc P W m e r=some y) /\
   ((∃rest,x.1=.slice (ys.map (·.1)) rest)\/len=0):=by
 rcases DataW.trod_slice T h with⟨B,hx⟩|⟨a,len,cap,b,rest,m,_,B,hx,_,_,_,hl,E,_,_⟩
 .simp only[List.cons.injEq,and_true]at B;exact⟨none,0,0,[],[],0,B,rfl,rfl,λ i r w=>by simp at w,.inr rfl⟩
 .simp only[List.cons.injEq,and_true]at B;rw[S]at E
  have key:∀i,i<len->∃r,W.cells? 0 (a.add (i*n)) n=some r/\∃y,b[i]?=some y/\JT enc P W m e r=some y:=by
   intro i hi;have h1:=E i hi;have h2:b[i]?=some b[i]:=getElem?_eq_getElem O1;rw[h2]at h1;obtain⟨r,w,hy⟩:=Option.bind_eq_some_iff.1 h1;exact⟨r,w,_,h2,hy⟩
  refine⟨some a,len,cap,(range len).map λ i=>(W.cells? 0 (a.add (i*n)) n).getD [],b,m,B,S1,hl,λ i r w=>?_,.inl ⟨_,by rw[hx]⟩⟩;have hi:i<len:=by have:=(Zz4 w);simpa using this
  obtain⟨U,F,y,hy,L⟩:=key i hi
  have N:r=U:=by
   simp only[getElem?_map,getElem?_range hi,Option.map_some,F,Option.getD_some,Option.some.injEq]at w;exact w.symm
  subst N;obtain⟨h1,h2⟩:=En F;obtain⟨V,I,-⟩:=key 0 O1;obtain⟨X,Q⟩:=En I
  have K:a.spot=none:=by
   have:=Q 0 V[0] (getElem?_eq_getElem O1);have:=this.1;simpa[Addr.add]using this
  exact⟨⟨a,rfl,K,h1,h2⟩,y,hy,L⟩
def Y0{R:α->List Value->Prop}(S:P.underlying t=some (.slice e))(V:P.cellsOf e=n)(E:0<n)(hb:0<P.bytesOf e)(h:JT enc P W fuel t [v]=some x)(B:Sz P t x.1)
  (U:∀m r y,JT enc P W m e r=some y->Sz P e y.1->∃z:α,R z r) :
  ∃(a:Option Addr)(len cap:Nat)(l:List α),v=.slice a len cap/\Q7 (Qa.all W) a len n l R/\len<2^60:=by
 obtain⟨a,len,cap,b,ys,m,rfl,h1,h2,I,H⟩:=vC S V E h
 have G:len<2^60/\∀(i:Nat)y,ys[i]?=some y->Sz P e y.1:=by
  rcases H with⟨rest,H⟩|H
  .rw[H]at B;have:=B.slice S hb;rw[length_map,h2]at this;exact⟨this.1,λ i y hy=>this.2 _ (mem_map_of_mem (mem_of_getElem? hy))⟩
  .exact⟨O1,λ i y hy=>by have:=(Zz4 hy);omega⟩
 have K:∃l:List α,l.length=b.length/\∀(i:Nat)z,l[i]?=some z->∃r,b[i]?=some r/\R z r:=by
  have f:∀r∈b,∃z:α,R z r:=λ r F=>by
   obtain⟨i,hi⟩:=getElem?_of_mem F;obtain⟨_,y,hy,ht⟩:=I i r hi;exact U m r y ht (G.2 i y hy)
  clear I h1
  induction b with
  |nil=>exact⟨[],rfl,λ i z B=>by simp at B⟩
  |cons r b Y=>
   obtain⟨l,hl,hi⟩:=Y λ r F=>f r (mem_cons_of_mem _ F);obtain⟨z,B⟩:=f r (mem_cons_self ..);refine⟨z::l,by simp[hl],λ i w N=>?_⟩;cases i with
   |zero=>simp at N;subst N;exact⟨r,rfl,B⟩
   |succ i=>simpa using hi i w (by simpa using N)
 obtain⟨l,hl,hi⟩:=K;refine⟨a,len,cap,l,rfl,⟨O1,λ i z B=>?_⟩,G.1⟩;obtain⟨r,F,Q⟩:=hi i z B;obtain⟨⟨T,ha,X,M,L⟩,_⟩:=I i r F;exact⟨T,r,ha,X,Q,M,L⟩
def PI(B:P.underlying t=some (.struct w))(h:JT enc P W fuel t cs=some x)(F:Sz P t x.1) :
  cs.length=P.cellsOf t/\∃m,∀(i:Nat)(f:Field),w[i]?=some f->∃y,JT enc P W m f.type ((cs.drop f.offset).take (P.cellsOf f.type))=some y/\Sz P f.type y.1:=by
 obtain⟨xs,m,_,rfl,hl,E,hf⟩:=DataW.trod_struct B h;refine⟨hl,m,λ i f hi=>?_⟩;have b:i<xs.length:=by have:=(Array.getElem?_eq_some_iff.1 hi).1;omega
 have hx:xs[i]?=some xs[i]:=getElem?_eq_getElem b;exact⟨xs[i],(hf i f hi).trans hx,F.agg B hi (by rw[getElem?_map,hx];rfl)⟩
def WV{b:Array Field}{ft:Nat}(h:∀(i:Nat)(f:Field),b[i]?=some f->∃y:DataW H×List MemPlace,JT enc P W m f.type ((cs.drop f.offset).take (P.cellsOf f.type))=some y/\Sz P f.type y.1)
  (hf:(b[i]?).map (λ f=>(f.type,f.offset))=some (ft,off)) (w:P.cellsOf ft=n):∃y,JT enc P W m ft ((cs.drop off).take n)=some y/\Sz P ft y.1:=by
 cases e:b[i]? with
 |none=>rw[e]at hf;simp at hf
 |some f=>
  rw[e]at hf;simp only[Option.map_some,Option.some.injEq,Prod.mk.injEq]at hf;have:=h i f e;rw[hf.1,hf.2,w]at this;exact this
def xH{b:Frame}(hf:P.funcs[b.fn]?=some fd)(h:b.kind=.normal)(B:fd.results=#[.tmp n])(E:tmps.getD n undef=v)(hi:P.inits.idxOf? b.fn=none) :
  stepG P true (Rf { fr b ⟨tmps,[]⟩ todo with mode:=.returning } []) W=.ended (.done v) W (seen P b.fn #[]):=by
 have f:(results fd tmps).runT P W #[]=(.ok v W,#[]):=by
  simp only[results,B,SJ];simp[X1,E]
 obtain⟨h1,h2⟩:Sem.run P (results fd tmps) W=.ok v W/\Sem.events P (results fd tmps) W #[]=#[]:=by simpa using f
 simp[Rf,stepG,unwind,fr,hf,h1,h2,doReturn,h,GStep.after,hi]
def Znb{args:List Value}(k:Zj P g N cc [.t n])(hm:P.follows .mixedOrders=true)(hi:P.inits.idxOf? g=none)(hn:args.length<=N)
  (hq:∀v U',Q v U'->U'.tok=⟨0,.out,none⟩)
  (h:ZT S g none y (λ _ _ _=>False) (λ _ _ _ _=>False) (λ f ds U=>ds=[]/\WO (f n) λ v=>Q v U) (fm args) [] U) (H:cc=y:=by first|(conv=>lhs;cbv)|rfl) :
  J S (Fin P Q) true (Rf (Frame.enter P g args.toArray .normal) []) U:=by
 subst H;obtain⟨fd,mu,dets,hf,hb,W,rfl,hr,-⟩:=k.ok;obtain⟨c,M⟩:∃c,fd.body.getD .skip=c:=⟨_,rfl⟩;rw[M]at hb W
 have L:fd.results=#[.tmp n]:=by
  have hl:fd.results.toList.mapM (Xj P)=some [RV.t n]:=hr;have Y:=mapM_some_length hl;obtain⟨r,K⟩:∃r,fd.results.toList=[r]:=length_eq_one_iff.1 (by simpa using Y.symm);rw[K]at hl;have B:=mapM_some_get hl 0 r rfl
  have Z:r=.tmp n:=by
   cases r with
   |tmp t=>simp only[Xj]at B;simp at B;rw[B]
   |cell a t=>
    simp only[Xj]at B;split at B
    .split at B
     .cases hs:Js P t with
      |none=>rw[hs]at B;simp at B
      |some z=>rw[hs]at B;simp at B
     .simp at B
    .simp at B
  apply Array.ext';rw[K,Z]
 let b:Frame:={ (default:Frame)with fn:=g,kind:=.normal }
 have E:Rf (Frame.enter P g args.toArray .normal) []=R b { tmps:=args.toArray++Array.replicate (fd.ntmps-args.toArray.size) undef,defers:=[] } [.code c] []:=by
  simp[Rf,R,Frame.enter,fr,hf,hb,b];rfl
 rw[E]
 have T:FR fd.ntmps { tmps:=args.toArray++Array.replicate (fd.ntmps-args.toArray.size) undef,defers:=[] } (fm args) []:=by
  refine⟨rfl,S3,λ t=>?_⟩;simp only[fm,Array.getD_eq_getD_getElem?,getD_eq_getElem?_getD,Array.getElem?_append,size_toArray,getElem?_toArray];split
  .rfl
  .rename_i hlt;rw[getElem?_eq_none O1,Array.getElem?_replicate];split <;> rfl
 subst W;refine J.body (fn:=g) (Q:=Gz fd.ntmps (λ _ _ _=>False) (λ _ _ _ _=>False) (λ f ds U=>ds=[]/\WO (f n) λ v=>Q v U)) ⟨rfl,rfl,by simp[b],S1⟩ (Ga hm _ T h) λ e a' U' q=>?_;obtain⟨f',X,I,q⟩:=q;cases e with
 |normal=>exact q.elim
 |exit i=>exact q.elim
 |ret=>
  obtain⟨rfl,q⟩:=q;rw[Qy]at q;refine⟨.inr rfl,λ todo=>.stop ⟨rfl,rfl,hq _ _ q,f' n,q,λ w _=>⟨seen P g #[],?_,λ e he=>absurd (Jm P g #[] e he) S1⟩⟩⟩;obtain⟨V,G⟩:=a';have hd:G=[]:=I.ds;subst hd;exact xH (b:=b) hf rfl L (I.get n) hi
def xI(h:(Qa.all W).ok W')(f:W'.output=W.output):Below W.heap.size W { W' with os:=W.os,tape:=W.tape }:=by
 have key:∀k,k<W.heap.size->W'.heap[k]?=W.heap[k]?:=λ k w=>by
  have:W.heap[k]?=some W.heap[k]:=Array.getElem?_eq_getElem w;rw[this];exact h.imm k _ this
 refine⟨rfl,rfl,f,?_,key⟩;apply Classical.byContradiction;intro B;have b:W'.heap.size<W.heap.size:=by simpa using B
 have:=key W'.heap.size b;rw[Array.getElem?_eq_none (Nat.le_refl _),Array.getElem?_eq_getElem b]at this;cases this
def E9(hl:laidOutB P=true){W W':World}(hb:Below W.heap.size W W'):∀{ts:List TypeId}{vs:List Value}{ds:List (DataW H)}{ps:List MemPlace},ts.all (λ t=>P.readableRec t&&decide (t<P.types.size))=true ->
  DataW.TrodAll enc P W 0 (λ _=>true) true ts vs ds ps->(∀x∈ps,x.block<W.heap.size)->DataW.TrodAll enc P W' 0 (λ b=>decide (b<W.heap.size)) true ts vs ds ps
 |[],[],[],_,_,h,_=>h
 |t::ts,v::vs,d::ds,_,w,⟨p,q,h,B,e⟩,f=>by
  subst e;simp only[all_cons,Bool.and_eq_true,decide_eq_true_eq]at w;exact⟨p,q,Below.trod hl w.1.1 w.1.2 h hb λ x hx=>f x (mem_append_left _ hx),E9 hl hb (by simpa using w.2) B λ x hx=>f x (mem_append_right _ hx),rfl⟩
def gx(hl:laidOutB P=true)(hp:fn.params.toList.all (λ t=>P.readableRec t&&decide (t<P.types.size))=true)(f:s.vars=[])
  (L:DataW.Whole enc P fn.params.toList s.vars false W args.toList ds [] p) (I:fn.resultTypes=#[e]) (T:P.underlying e=some .bool) (E:(s.fn H (ds++[])).results=[.lit (.bool true)]) (b:(s.fn H (ds++[])).args=ds) (K:(s.fn H (ds++[])).vars=[])
  (G:(Qa.all W).ok W') (B:W'.output=W.output):s.post enc P fn false true false false W args (.bool true) { W' with os:=W.os }:=by
 have hb:=xI G B;have F:=L.lt;obtain⟨q,r,h1,h2,rfl,N,Q⟩:=L;have S:∀x∈q,x.block<W.heap.size:=λ x hx=>by simpa using F x (mem_append_left _ hx)
 refine⟨ds,[],q++r,[],q,[],⟨q,r,h1,h2,rfl,N,Q⟩,?_,?_,?_,?_,λ h=>by cases h⟩
 .rw[E,I];exact trodAll_mk1 ⟨1,by simp[DataW.trod,T,Value.cells]⟩
 .rw[b];exact DataW.TrodAll.of_heap (w:={ W' with os:=W.os,tape:=W.tape }) (w':={ W' with os:=W.os }) rfl (E9 hl hb hp h1 S)
 .rw[K,f];rfl
 .have:=hb.frame (λ p=>p∈q++r/\(p∈[]\/p∈q\/p∈[]));exact⟨this.1,this.2.1,this.2.2⟩
def Zl8(hl:laidOutB P=true)(hp:fn.params.toList.all (λ t=>P.readableRec t&&decide (t<P.types.size))=true)(B:s.vars=[])
  (Z:DataW.Whole enc P fn.params.toList s.vars false W args.toList ds [] p) (Q:fn.resultTypes=#[T]) (hu:P.underlying T=some .bool) (F:(s.fn H (ds++[])).results=[.lit (.bool true)]) (w:(s.fn H (ds++[])).args=ds) (S:(s.fn H (ds++[])).vars=[])
  (Y:J (Za P t N) (Fin P λ v U=>v=.bool true/\(Qa.all W).lg U) true (Rf (Frame.enter P n args .normal) []) (Qa.all W)) :
  ∃M last o w' I,runNT P (M+1) (Conc.solo (Conc.G (Frame.enter P n args .normal) []) W) #[]=(.ended o w',I)/\runN P M (Conc.solo (Conc.G (Frame.enter P n args .normal) []) W)=.next last /\
   step P last=.ended o w'/\Conc.Good P (λ v W'=>s.post enc P fn false true false false W args v { W' with os:=W.os }/\OsLater W.os W'.os) last o w' I:=by
 obtain⟨M,last,o,w',I,h1,h2,V,X⟩:=Y.runs (Qa.all_ok W) rfl;refine⟨M,last,o,w',I,h1,h2,V,EU X λ v W'⟨U,⟨hv,K⟩,L,ho,E⟩=>?_⟩;subst hv;exact⟨gx hl hp B Z Q hu F w S ⟨λ b o h=>L.imm b o (K.imm b o h),λ _ h=>absurd h not_mem_nil,Pairwise.nil,λ _ h=>absurd h not_mem_nil⟩ E,ho⟩
def Zj7{C:Checked}
  (hX:∀(w w':World),w.heap=w'.heap->X w->X w')
  (own:ownKnob C.prog.godebug=none) (I:os.Started) (T:C.prog.funcs[f]?=some fn)
  (K:∃(w:World)(tape:Tape)(i:Input),w.os=os/\(w.forCall tape i).Shaped C.prog/\i.vars=[]/\Input.okWide C.prog (w.forCall tape i) .any w.heap.size f i /\
   ((s.pre enc C.prog fn B apart (w.forCall tape i).memory i.args/\X (w.forCall tape i).memory)/\sizedMet enc C.prog fn (OpenSpec.ofChange s) apart (w.forCall tape i).memory i.args)/\q.holds C.prog (lone (Frame.enter C.prog f i.args .normal) [] (w.forCall tape i)))
  (runs:∀(W:World)(base:Nat)(args:Array Value)(ds gs:List (DataW H))(b:List MemPlace),
   (∀(j:Nat)t v,fn.params[j]?=some t->args[j]?=some v->Value.okWide C.prog W .any base t v) ->
   DataW.Whole enc C.prog fn.params.toList s.vars apart W args.toList ds gs b ->
   (DataW.weightsEach C.prog (fn.params.toList++s.plain.varTypes C.prog) (ds++gs)).all (·<=reachBytes)=true->X W ->
   ∃M last o w' Q,runNT C.prog (M+1) (Conc.solo (Conc.G (Frame.enter C.prog f args .normal) []) W) #[]=(.ended o w',Q)/\runN C.prog M (Conc.solo (Conc.G (Frame.enter C.prog f args .normal) []) W)=.next last /\
    step C.prog last=.ended o w'/\Conc.Good C.prog (λ v W'=>s.post enc C.prog fn apart E h false W args v { W' with os:=W.os }/\OsLater W.os W'.os) last o w' Q) :
  ReturnsInLeavingWide q C os f .any (λ w args=>(s.pre enc C.prog fn B apart w args/\X w)/\sizedMet enc C.prog fn (OpenSpec.ofChange s) apart w args) ((OpenSpec.ofChange s).postWith enc C.prog fn F (outsideKept [.timePasses]) apart E h):=by
 refine returnsInLeavingWide_of_good own I K ?_;intro w tape i _ _ _ U N _;obtain⟨_,_,_,S,L,_,_,_,_,P⟩:=U;have e:S=fn:=Option.some.inj (L.symm.trans T);subst e;obtain⟨⟨⟨ds,gs,b,Y,hc⟩,hx⟩,hz⟩:=N;have V:=DataW.Whole.of_heap (w':=w.forCall tape i) (by rfl) Y;obtain⟨M,last,o,w',Q,h1,h2,Z,h4⟩:=runs (w.forCall tape i) w.heap.size i.args ds gs b P V (hz.weights Y) (hX (w.forCall tape i).memory (w.forCall tape i) rfl hx);obtain⟨v,e,hp,r1,r2,r3,r4⟩:=h4;exact⟨M,last,o,w',Q,h1,h2,Z,v,e,postWith_blind (postWith_of_post hp.1 hp.2),r1,r2,r3,r4⟩
def Zjs{C:Checked}(h:World)(args:Array Value)(fuel:Nat)(F:h.os=os)
  (G:(h.forCall (λ _ _=>0) ⟨#[],args,[]⟩).Shaped C.prog)
  (B:Input.okWideB C.prog (h.forCall (λ _ _=>0) ⟨#[],args,[]⟩) f ⟨#[],args,[]⟩=true)
  (E:s.preB enc C.prog fn b apart (h.forCall (λ _ _=>0) ⟨#[],args,[]⟩).memory args fuel=true)
  (H:s.sizedB enc C.prog fn apart (h.forCall (λ _ _=>0) ⟨#[],args,[]⟩).memory args fuel=true)
  (hx:X (h.forCall (λ _ _=>0) ⟨#[],args,[]⟩).memory) :
  ∃(w:World)(tape:Tape)(i:Input),w.os=os/\(w.forCall tape i).Shaped C.prog/\i.vars=[]/\Input.okWide C.prog (w.forCall tape i) .any w.heap.size f i /\
   ((s.pre enc C.prog fn b apart (w.forCall tape i).memory i.args/\X (w.forCall tape i).memory)/\sizedMet enc C.prog fn (OpenSpec.ofChange s) apart (w.forCall tape i).memory i.args)/\({ calm:=true }:Assume).holds C.prog (lone (Frame.enter C.prog f i.args .normal) [] (w.forCall tape i)):=
 ⟨h,λ _ _=>0,⟨#[],args,[]⟩,F,G,(Input.okWide_of_okWideB (base:=0) B).1,(Input.okWide_of_okWideB B).2,⟨⟨ChangeSpec.pre_of_preB E,hx⟩,sizedMet_of_sizedB H⟩,by
  simp only[Assume.holds];exact⟨S1,λ _ _ _ _=>rfl,S1,S1,S1⟩⟩
def Zll(kinds:List LaidKind)(w:Bool)(b:Bool×String)(lk:Bool)
  (I:c.holds r o) (M:c.wfByText o=true) (B:c.laidByTextAt .later r kinds w)
  (F:c.start=.entering) (E:c.noBlocks=false/\c.again=false) (hm:r.checked.prog.mainIs=some (b.1,b.2.toList)) (L:(!b.1&&b.2.isEmpty&&!lk)=false)
  (hl:∀f fn,r.checked.prog.funcNamed c.func=some f->r.checked.prog.funcs[f]?=some fn->lk=r.checked.prog.looks []/\∀(j:Nat)t,fn.params[j]?=some t->r.checked.prog.wantsStandIn t=false)
  (K:true=c.goesBy r.checked.prog) :
  Claim7.holds r (.plain o) { stood:={ row:=c,standIns:=[],harness:=b,looks:=lk },kinds:=[],alts:=[],goes:=true,laidByText:=true,laidKinds:=kinds,laidTests:=w,laidLooks:=.later }:=by
 have G:Claim7.isSixth { stood:={ row:=c,standIns:=[],harness:=b,looks:=lk },kinds:=[] }=false:=by simpa[Claim7.isSixth]using L
 refine⟨Claim7.tied_new_at .later kinds w (Claim7.new_of_sixth I b lk F E hm G hl) M,λ D H=>?_,B,(λ h=>by cases h),K⟩;cases H
