/- Lemmas. No conditions. -/
import Derived.Conc.HoldsTime
import Derived.SevenTiedAt
import Derived.Conc.LeavingOf
import Derived.OpenShut
import Derived.Test.YtignaaddghcanaaGreatDoorB34
set_option linter.all false
open List
namespace Go.TM
variable{W W':World}{a:Addr}{v:Value}{n i fuel m off N:Nat}{cs:List Value}{H α:Type}{P:Program}{t e:TypeId}{ts:List TypeId}{ds:List (DataW H)}{d:DataW H}{enc:TypeId×Value->H}{x:DataW H×List MemPlace}{w:Array Field}{fd fn:Func}{tmps args:Array Value}{todo:List Item}{S:Sys P Tk}{g f:FuncId}{cc:C}{Q:Value->Qa Tk->Prop}{U:Qa Tk}{s:ChangeSpec}{p:List MemPlace}{os:Os}{F:Stop.Interp}{z b:List PathCond}{apart B h:Bool}{X:World->Prop}{q:Pinned}{l:OpenSpec}{c:OpenClaim}
section
open Go.ChangeShapes Go.WideShapes Go.RowKit
open Go.ConcM (OsLater)
def Qa.all(W:World):Qa Tk:=⟨λ b=>W.heap[b]?,[],⟨0,.out,none⟩⟩
def Qa.all_ok(W:World):(Qa.all W).ok W:=⟨λ _ _ h=>h,λ _ h=>absurd h not_mem_nil,Pairwise.nil,λ _ h=>absurd h not_mem_nil⟩
def xA(h:W.cell? a=some v):(Qa.all W).sees a v:=by
 unfold World.cell? at h;split at h
 .rename_i c t fr hb;split at h
  .cases h
  .rename_i hs;exact⟨by cases e:a.spot <;> simp_all,.inl ⟨c,t,fr,.inl hb,h⟩⟩
 .cases h
def E8(h:W.cells? 0 a n=some cs):cs.length=n/\Jj (Qa.all W) a cs:=by
 unfold World.cells? at h;rw[if_pos (Nat.zero_le _)]at h;have b:=mapM_some_length h;rw[length_range]at b;refine⟨b,λ i v f=>?_⟩;have w:i<n:=by rw[<- b];exact(List.getElem?_eq_some_iff.1 f).1
 have:=mapM_some_get h i i (by simp[w]);exact xA (this.trans f)
abbrev JV(enc:TypeId×Value->H)(P:Program)(W:World)(fuel:Nat)(t:TypeId)(cs:List Value):Option (DataW H×List MemPlace):=DataW.trod enc P W 0 (λ _=>true) true fuel t cs
def Sz(P:Program)(t:TypeId)(d:DataW H):Prop:=∀k∈d.weights P t,k<=reachBytes
def kh(h:n<=reachBytes):n<2^60:=by
 have:=reachBytes_lt;omega
def Sz.slice{es rest:List (DataW H)}(h:Sz P t (.slice es rest))(z:P.underlying t=some (.slice e))(f:0<P.bytesOf e):es.length<2^60/\∀d∈es,Sz P e d:=by
 simp only[Sz,DataW.weights,z]at h;refine⟨?_,λ d b k w=>h k ?_⟩
 .have:=kh (h _ (mem_cons_self ..));have E:es.length*1<=(es.length+rest.length)*P.bytesOf e:=Nat.mul_le_mul O1 f;omega
 .refine mem_cons_of_mem _ (mem_append_left _ ?_);clear h
  induction es with
  |nil=>cases b
  |cons a es B=>
   simp only[DataW.weightsAll,mem_append];rcases mem_cons.1 b with rfl|b
   .exact .inl w
   .exact .inr (B b)
def Sz.agg{b:Array Field}{parts:List (DataW H)}(h:Sz P t (.agg parts))(E:P.underlying t=some (.struct b)){i:Nat}{f:Field}{d:DataW H}(z:b[i]?=some f)(w:parts[i]?=some d):Sz P f.type d:=by
 simp only[Sz,DataW.weights,E]at h;exact λ k B=>h k (DataW.weights_mem_each (by simp[getElem?_map,z]) w k B)
def Sz.arg(h:(DataW.weightsEach P ts ds).all (·<=reachBytes)=true)(w:ts[i]?=some t)(b:ds[i]?=some d):Sz P t d:=λ k f=>by
 have:=all_eq_true.1 h _ (DataW.weights_mem_each w b k f);simpa using this
def kB(Z:P.underlying t=some (.slice e))(Y:P.cellsOf e=n)(S:0<n)(h:JV enc P W fuel t [v]=some x) :
  ∃(a:Option Addr)(len cap:Nat)(rows:List (List Value))(ys:List (DataW H×List MemPlace))(m:Nat),v=.slice a len cap/\rows.length=len/\ys.length=len /\
   (∀(i:Nat)r,rows[i]?=some r->(∃I,a=some I/\I.spot=none/\r.length=n/\Jj (Qa.all W) (I.add (i*n)) r)/\∃y,ys[i]?=some y/\JV enc P W m e r=some y) /\
   ((∃rest,x.1=.slice (ys.map (·.1)) rest)\/len=0):=by
 rcases DataW.trod_slice Z h with⟨w,T⟩|⟨a,len,cap,b,rest,m,_,w,T,_,_,_,X,z,_,_⟩
 .simp only[List.cons.injEq,and_true]at w;exact⟨none,0,0,[],[],0,w,rfl,rfl,λ i r f=>by simp at f,.inr rfl⟩
 .simp only[List.cons.injEq,and_true]at w;rw[Y]at z
  have key:∀i,i<len->∃r,W.cells? 0 (a.add (i*n)) n=some r/\∃y,b[i]?=some y/\JV enc P W m e r=some y:=by
   intro i G;have E:=z i G;have F:b[i]?=some b[i]:=getElem?_eq_getElem O1;rw[F]at E;obtain⟨r,f,Q⟩:=Option.bind_eq_some_iff.1 E;exact⟨r,f,_,F,Q⟩
  refine⟨some a,len,cap,(range len).map λ i=>(W.cells? 0 (a.add (i*n)) n).getD [],b,m,w,S1,X,λ i r f=>?_,.inl ⟨_,by rw[T]⟩⟩;have G:i<len:=by have:=(List.getElem?_eq_some_iff.1 f).1;simpa using this
  obtain⟨r',B,y,Q,N⟩:=key i G
  have U:r=r':=by
   simp only[getElem?_map,getElem?_range G,Option.map_some,B,Option.getD_some,Option.some.injEq]at f;exact f.symm
  subst U;obtain⟨E,F⟩:=E8 B;obtain⟨r0,K,-⟩:=key 0 O1;obtain⟨h3,V⟩:=E8 K
  have L:a.spot=none:=by
   have:=V 0 r0[0] (getElem?_eq_getElem O1);have:=this.1;simpa[Addr.add]using this
  exact⟨⟨a,rfl,L,E,F⟩,y,Q,N⟩
def KJ{R:α->List Value->Prop}(V:P.underlying t=some (.slice e))(hn:P.cellsOf e=n)(E:0<n)(hb:0<P.bytesOf e)(h:JV enc P W fuel t [v]=some x)(f:Sz P t x.1)
  (hR:∀m r y,JV enc P W m e r=some y->Sz P e y.1->∃z:α,R z r) :
  ∃(a:Option Addr)(len cap:Nat)(l:List α),v=.slice a len cap/\Q8 (Qa.all W) a len n l R/\len<2^60:=by
 obtain⟨a,len,cap,rows,ys,m,rfl,Y,Z,K,I⟩:=kB V hn E h
 have G:len<2^60/\∀(i:Nat)y,ys[i]?=some y->Sz P e y.1:=by
  rcases I with⟨rest,I⟩|I
  .rw[I]at f;have:=f.slice V hb;rw[length_map,Z]at this;exact⟨this.1,λ i y H=>this.2 _ (mem_map_of_mem (mem_of_getElem? H))⟩
  .exact⟨O1,λ i y H=>by have:=(List.getElem?_eq_some_iff.1 H).1;omega⟩
 have L:∃l:List α,l.length=rows.length/\∀(i:Nat)z,l[i]?=some z->∃r,rows[i]?=some r/\R z r:=by
  have b:∀r∈rows,∃z:α,R z r:=λ r F=>by
   obtain⟨i,B⟩:=getElem?_of_mem F;obtain⟨_,y,H,ht⟩:=K i r B;exact hR m r y ht (G.2 i y H)
  clear K Y
  induction rows with
  |nil=>exact⟨[],rfl,λ i z f=>by simp at f⟩
  |cons r rows ih=>
   obtain⟨l,U,B⟩:=ih λ r F=>b r (mem_cons_of_mem _ F);obtain⟨z,f⟩:=b r (mem_cons_self ..);refine⟨z::l,by simp[U],λ i w S=>?_⟩;cases i with
   |zero=>simp at S;subst S;exact⟨r,rfl,f⟩
   |succ i=>simpa using B i w (by simpa using S)
 obtain⟨l,U,B⟩:=L;refine⟨a,len,cap,l,rfl,⟨O1,λ i z f=>?_⟩,G.1⟩;obtain⟨r,F,T⟩:=B i z f;obtain⟨⟨X,ha,hs,Q,N⟩,_⟩:=K i r F;exact⟨X,r,ha,hs,T,Q,N⟩
def Dh{z:Array Field}(B:P.underlying t=some (.struct z))(h:JV enc P W fuel t cs=some x)(I:Sz P t x.1) :
  cs.length=P.cellsOf t/\∃m,∀(i:Nat)(f:Field),z[i]?=some f->∃y,JV enc P W m f.type ((cs.drop f.offset).take (P.cellsOf f.type))=some y/\Sz P f.type y.1:=by
 obtain⟨xs,m,_,rfl,G,H,F⟩:=DataW.trod_struct B h;refine⟨G,m,λ i f b=>?_⟩;have w:i<xs.length:=by have:=(Array.getElem?_eq_some_iff.1 b).1;omega
 have E:xs[i]?=some xs[i]:=getElem?_eq_getElem w;exact⟨xs[i],(F i f b).trans E,I.agg B b (by rw[getElem?_map,E];rfl)⟩
def Gd{ft:Nat}(h:∀(i:Nat)(f:Field),w[i]?=some f->∃y:DataW H×List MemPlace,JV enc P W m f.type ((cs.drop f.offset).take (P.cellsOf f.type))=some y/\Sz P f.type y.1)
  (b:(w[i]?).map (λ f=>(f.type,f.offset))=some (ft,off)) (z:P.cellsOf ft=n):∃y,JV enc P W m ft ((cs.drop off).take n)=some y/\Sz P ft y.1:=by
 cases e:w[i]? with
 |none=>rw[e]at b;simp at b
 |some f=>
  rw[e]at b;simp only[Option.map_some,Option.some.injEq,Prod.mk.injEq]at b;have:=h i f e;rw[b.1,b.2,z]at this;exact this
def xU{b:Frame}(B:P.funcs[b.fn]?=some fd)(F:b.kind=.normal)(G:fd.results=#[.tmp n])(H:tmps.getD n undef=v)(E:P.inits.idxOf? b.fn=none) :
  stepG P true (Rf { fr b ⟨tmps,[]⟩ todo with mode:=.returning } []) W=.ended (.done v) W (seen P b.fn #[]):=by
 have f:(results fd tmps).runT P W #[]=(.ok v W,#[]):=by
  simp only[results,G,So];simp[WZ,H]
 obtain⟨h,z⟩:Sem.run P (results fd tmps) W=.ok v W/\Sem.events P (results fd tmps) W #[]=#[]:=by simpa using f
 simp[Rf,stepG,unwind,fr,B,h,z,doReturn,F,GStep.after,E]
def Zot{args:List Value}(k:Zk P g N cc [.t n])(hm:P.follows .mixedOrders=true)(hi:P.inits.idxOf? g=none)(hn:args.length<=N)
  (hq:∀v U',Q v U'->U'.tok=⟨0,.out,none⟩)
  (h:JX S g none cc (λ _ _ _=>False) (λ _ _ _ _=>False) (λ f ds U=>ds=[]/\WL (f n) λ v=>Q v U) (fm args) [] U) :
  J S (Fin P Q) true (Rf (Frame.enter P g args.toArray .normal) []) U:=by
 obtain⟨fd,mu,dets,Y,W,X,rfl,hr,-⟩:=k.ok;obtain⟨c,K⟩:∃c,fd.body.getD .skip=c:=⟨_,rfl⟩;rw[K]at W X
 have I:fd.results=#[.tmp n]:=by
  have T:fd.results.toList.mapM (XA P)=some [RV.t n]:=hr;have e1:=mapM_some_length T;obtain⟨r,H⟩:∃r,fd.results.toList=[r]:=length_eq_one_iff.1 (by simpa using e1.symm);rw[H]at T;have B:=mapM_some_get T 0 r rfl
  have e3:r=.tmp n:=by
   cases r with
   |tmp t=>simp only[XA]at B;simp at B;rw[B]
   |cell a t=>
    simp only[XA]at B;split at B
    .split at B
     .cases hs:Jr P t with
      |none=>rw[hs]at B;simp at B
      |some z=>rw[hs]at B;simp at B
     .simp at B
    .simp at B
  apply Array.ext';rw[H,e3]
 let b:Frame:={ (default:Frame)with fn:=g,kind:=.normal }
 have E:Rf (Frame.enter P g args.toArray .normal) []=R b { tmps:=args.toArray++Array.replicate (fd.ntmps-args.toArray.size) undef,defers:=[] } [.code c] []:=by
  simp[Rf,R,Frame.enter,fr,Y,W,b];rfl
 rw[E]
 have L:FR fd.ntmps { tmps:=args.toArray++Array.replicate (fd.ntmps-args.toArray.size) undef,defers:=[] } (fm args) []:=by
  refine⟨rfl,S3,λ t=>?_⟩;simp only[fm,Array.getD_eq_getD_getElem?,getD_eq_getElem?_getD,Array.getElem?_append,size_toArray,getElem?_toArray];split
  .rfl
  .rename_i hlt;rw[getElem?_eq_none O1,Array.getElem?_replicate];split <;> rfl
 subst X;refine J.body (fn:=g) (Q:=Gn fd.ntmps (λ _ _ _=>False) (λ _ _ _ _=>False) (λ f ds U=>ds=[]/\WL (f n) λ v=>Q v U)) ⟨rfl,rfl,by simp[b],S1⟩ (HZ hm _ L h) λ e a' U' q=>?_;obtain⟨f',Z,G,q⟩:=q;cases e with
 |normal=>exact q.elim
 |exit i=>exact q.elim
 |ret=>
  obtain⟨rfl,q⟩:=q;rw[Qy]at q;refine⟨.inr rfl,λ todo=>.stop ⟨rfl,rfl,hq _ _ q,f' n,q,λ w _=>⟨seen P g #[],?_,λ e he=>absurd (Jm P g #[] e he) S1⟩⟩⟩;obtain⟨V,F⟩:=a';have hd:F=[]:=G.ds;subst hd;exact xU (b:=b) Y rfl I (G.get n) hi
def xV(h:(Qa.all W).ok W')(f:W'.output=W.output):Below W.heap.size W { W' with os:=W.os,tape:=W.tape }:=by
 have key:∀k,k<W.heap.size->W'.heap[k]?=W.heap[k]?:=λ k w=>by
  have:W.heap[k]?=some W.heap[k]:=Array.getElem?_eq_getElem w;rw[this];exact h.imm k _ this
 refine⟨rfl,rfl,f,?_,key⟩;apply Classical.byContradiction;intro z;have b:W'.heap.size<W.heap.size:=by simpa using z
 have:=key W'.heap.size b;rw[Array.getElem?_eq_none (Nat.le_refl _),Array.getElem?_eq_getElem b]at this;cases this
def DL(F:laidOutB P=true){W W':World}(E:Below W.heap.size W W'):∀{ts:List TypeId}{vs:List Value}{ds:List (DataW H)}{B:List MemPlace},ts.all (λ t=>P.readableRec t&&decide (t<P.types.size))=true ->
  DataW.TrodAll enc P W 0 (λ _=>true) true ts vs ds B->(∀x∈B,x.block<W.heap.size)->DataW.TrodAll enc P W' 0 (λ b=>decide (b<W.heap.size)) true ts vs ds B
 |[],[],[],_,_,h,_=>h
 |t::ts,v::vs,d::ds,_,w,⟨p,q,h,G,e⟩,f=>by
  subst e;simp only[all_cons,Bool.and_eq_true,decide_eq_true_eq]at w;exact⟨p,q,Below.trod F w.1.1 w.1.2 h E λ x z=>f x (mem_append_left _ z),DL F E (by simpa using w.2) G λ x z=>f x (mem_append_right _ z),rfl⟩
def pX(V:laidOutB P=true)(X:fn.params.toList.all (λ t=>P.readableRec t&&decide (t<P.types.size))=true)(f:s.vars=[])
  (L:DataW.Whole enc P fn.params.toList s.vars false W args.toList ds [] p) (G:fn.resultTypes=#[e]) (Z:P.underlying e=some .bool) (B:(s.fn H (ds++[])).results=[.lit (.bool true)]) (b:(s.fn H (ds++[])).args=ds) (I:(s.fn H (ds++[])).vars=[])
  (F:(Qa.all W).ok W') (z:W'.output=W.output):s.post enc P fn false true false false W args (.bool true) { W' with os:=W.os }:=by
 have N:=xV F z;have E:=L.lt;obtain⟨q,r,K,S,rfl,T,U⟩:=L;have Y:∀x∈q,x.block<W.heap.size:=λ x hx=>by simpa using E x (mem_append_left _ hx)
 refine⟨ds,[],q++r,[],q,[],⟨q,r,K,S,rfl,T,U⟩,?_,?_,?_,?_,λ h=>by cases h⟩
 .rw[B,G];exact trodAll_mk1 ⟨1,by simp[DataW.trod,Z,Value.cells]⟩
 .rw[b];exact DataW.TrodAll.of_heap (w:={ W' with os:=W.os,tape:=W.tape }) (w':={ W' with os:=W.os }) rfl (DL V N X K Y)
 .rw[I,f];rfl
 .have:=N.frame (λ p=>p∈q++r/\(p∈[]\/p∈q\/p∈[]));exact⟨this.1,this.2.1,this.2.2⟩
def Znz(hl:laidOutB P=true)(hp:fn.params.toList.all (λ t=>P.readableRec t&&decide (t<P.types.size))=true)(z:s.vars=[])
  (Z:DataW.Whole enc P fn.params.toList s.vars false W args.toList ds [] p) (K:fn.resultTypes=#[e]) (hu:P.underlying e=some .bool) (E:(s.fn H (ds++[])).results=[.lit (.bool true)]) (w:(s.fn H (ds++[])).args=ds) (L:(s.fn H (ds++[])).vars=[])
  (Y:J (Za P t N) (Fin P λ v U=>v=.bool true/\(Qa.all W).lg U) true (Rf (Frame.enter P n args .normal) []) (Qa.all W)) :
  ∃M last o w' t',runNT P (M+1) (Conc.solo (Conc.G (Frame.enter P n args .normal) []) W) #[]=(.ended o w',t')/\runN P M (Conc.solo (Conc.G (Frame.enter P n args .normal) []) W)=.next last /\
   step P last=.ended o w'/\Conc.Good P (λ v W'=>s.post enc P fn false true false false W args v { W' with os:=W.os }/\OsLater W.os W'.os) last o w' t':=by
 obtain⟨M,last,o,w',t',S,T,V,X⟩:=Y.runs (Qa.all_ok W) rfl;refine⟨M,last,o,w',t',S,T,V,EF X λ v W'⟨U,⟨hv,F⟩,I,ho,B⟩=>?_⟩;subst hv;exact⟨pX hl hp z Z K hu E w L ⟨λ b o h=>I.imm b o (F.imm b o h),λ _ h=>absurd h not_mem_nil,Pairwise.nil,λ _ h=>absurd h not_mem_nil⟩ B,ho⟩
def Zl7{a:Assume}{C:Checked}
  (hX:∀(w w':World),w.heap=w'.heap->X w->X w')
  (own:ownKnob C.prog.godebug=none) (E:os.Started) (Q:C.prog.funcs[f]?=some fn)
  (I:∃(w:World)(tape:Tape)(i:Input),w.os=os/\(w.forCall tape i).Shaped C.prog/\i.vars=[]/\Input.okWide C.prog (w.forCall tape i) .any w.heap.size f i /\
   ((s.pre enc C.prog fn z apart (w.forCall tape i).memory i.args/\X (w.forCall tape i).memory)/\sizedMet enc C.prog fn (OpenSpec.ofChange s) apart (w.forCall tape i).memory i.args)/\a.holds C.prog (lone (Frame.enter C.prog f i.args .normal) [] (w.forCall tape i)))
  (runs:∀(W:World)(base:Nat)(args:Array Value)(ds gs:List (DataW H))(b:List MemPlace),
   (∀(j:Nat)t v,fn.params[j]?=some t->args[j]?=some v->Value.okWide C.prog W .any base t v) ->
   DataW.Whole enc C.prog fn.params.toList s.vars apart W args.toList ds gs b ->
   (DataW.weightsEach C.prog (fn.params.toList++s.plain.varTypes C.prog) (ds++gs)).all (·<=reachBytes)=true->X W ->
   ∃M last o w' t',runNT C.prog (M+1) (Conc.solo (Conc.G (Frame.enter C.prog f args .normal) []) W) #[]=(.ended o w',t')/\runN C.prog M (Conc.solo (Conc.G (Frame.enter C.prog f args .normal) []) W)=.next last /\
    step C.prog last=.ended o w'/\Conc.Good C.prog (λ v W'=>s.post enc C.prog fn apart B h false W args v { W' with os:=W.os }/\OsLater W.os W'.os) last o w' t') :
  ReturnsInLeavingWide a C os f .any (λ w args=>(s.pre enc C.prog fn z apart w args/\X w)/\sizedMet enc C.prog fn (OpenSpec.ofChange s) apart w args) ((OpenSpec.ofChange s).postWith enc C.prog fn F (outsideKept [.timePasses]) apart B h):=by
 refine returnsInLeavingWide_of_good own E I ?_;intro w tape i _ _ _ S L _;obtain⟨_,_,_,P,K,_,_,_,_,N⟩:=S;have e:P=fn:=Option.some.inj (K.symm.trans Q);subst e;obtain⟨⟨⟨ds,gs,b,V,hc⟩,hx⟩,hz⟩:=L;have T:=DataW.Whole.of_heap (w':=w.forCall tape i) (by rfl) V;obtain⟨M,last,o,w',t',Y,Z,h3,h4⟩:=runs (w.forCall tape i) w.heap.size i.args ds gs b N T (hz.weights V) (hX (w.forCall tape i).memory (w.forCall tape i) rfl hx);obtain⟨v,e,U,r1,r2,r3,r4⟩:=h4;exact⟨M,last,o,w',t',Y,Z,h3,v,e,postWith_blind (postWith_of_post U.1 U.2),r1,r2,r3,r4⟩
def Zlt{C:Checked}(h:World)(args:Array Value)(fuel:Nat)(E:h.os=os)
  (F:(h.forCall (λ _ _=>0) ⟨#[],args,[]⟩).Shaped C.prog)
  (z:Input.okWideB C.prog (h.forCall (λ _ _=>0) ⟨#[],args,[]⟩) f ⟨#[],args,[]⟩=true)
  (B:s.preB enc C.prog fn b apart (h.forCall (λ _ _=>0) ⟨#[],args,[]⟩).memory args fuel=true)
  (G:s.sizedB enc C.prog fn apart (h.forCall (λ _ _=>0) ⟨#[],args,[]⟩).memory args fuel=true)
  (H:X (h.forCall (λ _ _=>0) ⟨#[],args,[]⟩).memory) :
  ∃(w:World)(tape:Tape)(i:Input),w.os=os/\(w.forCall tape i).Shaped C.prog/\i.vars=[]/\Input.okWide C.prog (w.forCall tape i) .any w.heap.size f i /\
   ((s.pre enc C.prog fn b apart (w.forCall tape i).memory i.args/\X (w.forCall tape i).memory)/\sizedMet enc C.prog fn (OpenSpec.ofChange s) apart (w.forCall tape i).memory i.args)/\({ calm:=true }:Assume).holds C.prog (lone (Frame.enter C.prog f i.args .normal) [] (w.forCall tape i)):=
 ⟨h,λ _ _=>0,⟨#[],args,[]⟩,E,F,(Input.okWide_of_okWideB (base:=0) z).1,(Input.okWide_of_okWideB z).2,⟨⟨ChangeSpec.pre_of_preB B,H⟩,sizedMet_of_sizedB G⟩,by
  simp only[Assume.holds];exact⟨S1,λ _ _ _ _=>rfl,S1,S1,S1⟩⟩
def Zne(kinds:List LaidKind)(w:Bool)(b:Bool×String)(lk:Bool)
  (H:c.holds q l) (P:c.wfByText l=true) (z:c.laidByTextAt .later q kinds w)
  (E:c.start=.entering) (B:c.noBlocks=false/\c.again=false) (L:q.checked.prog.mainIs=some (b.1,b.2.toList)) (N:(!b.1&&b.2.isEmpty&&!lk)=false)
  (K:∀f fn,q.checked.prog.funcNamed c.func=some f->q.checked.prog.funcs[f]?=some fn->lk=q.checked.prog.looks []/\∀(j:Nat)t,fn.params[j]?=some t->q.checked.prog.wantsStandIn t=false)
  (I:true=c.goesBy q.checked.prog) :
  Claim7.holds q (.plain l) { stood:={ row:=c,standIns:=[],harness:=b,looks:=lk },kinds:=[],alts:=[],goes:=true,laidByText:=true,laidKinds:=kinds,laidTests:=w,laidLooks:=.later }:=by
 have F:Claim7.isSixth { stood:={ row:=c,standIns:=[],harness:=b,looks:=lk },kinds:=[] }=false:=by simpa[Claim7.isSixth]using N
 refine⟨Claim7.tied_new_at .later kinds w (Claim7.new_of_sixth H b lk E B L F K) P,λ D G=>?_,z,(λ h=>by cases h),I⟩;cases G
