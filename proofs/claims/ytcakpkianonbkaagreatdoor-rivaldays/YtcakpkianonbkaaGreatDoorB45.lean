/- Lemmas. No conditions. -/
import Derived.Conc.HoldsTime
import Derived.SevenTiedAt
import Derived.Conc.LeavingOf
import Derived.OpenShut
import Derived.Test.YtcakpkianonbkaaGreatDoorB38
set_option linter.all false
open List
namespace Go.TM
open Go.ChangeShapes Go.WideShapes Go.RowKit
open Go.ConcM (OsLater)
def Qa.all(W:World):Qa Tk:=⟨λ b=>W.heap[b]?,[],⟨0,.out,none⟩⟩
def Qa.all_ok(W:World):(Qa.all W).ok W:=⟨λ _ _ h=>h,λ _ h=>absurd h not_mem_nil,Pairwise.nil,λ _ h=>absurd h not_mem_nil⟩
def kO{W:World}{a:Addr}{v:Value}(h:W.cell? a=some v):(Qa.all W).sees a v:=by
 unfold World.cell? at h;split at h
 .rename_i c t fr hb;split at h
  .cases h
  .rename_i hs;exact⟨by cases e:a.spot <;> simp_all,.inl ⟨c,t,fr,.inl hb,h⟩⟩
 .cases h
def II{W:World}{a:Addr}{n:Nat}{cs:List Value}(h:W.cells? 0 a n=some cs):cs.length=n/\Z6 (Qa.all W) a cs:=by
 unfold World.cells? at h;rw[if_pos (Nat.zero_le _)]at h;have b:=mapM_some_length h;rw[length_range]at b;refine⟨b,λ i v e=>?_⟩;have w:i<n:=by rw[<- b];exact(List.getElem?_eq_some_iff.1 e).1
 have:=mapM_some_get h i i (by simp[w]);exact kO (this.trans e)
section
variable{H:Type}{enc:TypeId×Value->H}{P:Program}{W:World}{t e:TypeId}{n fuel:Nat}{x:DataW H×List MemPlace}{v:Value}{cs:List Value}
abbrev QX(enc:TypeId×Value->H)(P:Program)(W:World)(fuel:Nat)(t:TypeId)(cs:List Value):Option (DataW H×List MemPlace):=DataW.trod enc P W 0 (λ _=>true) true fuel t cs
def Sz(P:Program)(t:TypeId)(d:DataW H):Prop:=∀k∈d.weights P t,k<=reachBytes
def uM{k:Nat}(h:k<=reachBytes):k<2^60:=by
 have:=reachBytes_lt;omega
def Sz.slice{es rest:List (DataW H)}(h:Sz P t (.slice es rest))(B:P.underlying t=some (.slice e))(w:0<P.bytesOf e):es.length<2^60/\∀d∈es,Sz P e d:=by
 simp only[Sz,DataW.weights,B]at h;refine⟨?_,λ d b k z=>h k ?_⟩
 .have:=uM (h _ (mem_cons_self ..));have F:es.length*1<=(es.length+rest.length)*P.bytesOf e:=Nat.mul_le_mul O1 w;omega
 .refine mem_cons_of_mem _ (mem_append_left _ ?_);clear h
  induction es with
  |nil=>cases b
  |cons a es E=>
   simp only[DataW.weightsAll,mem_append];rcases mem_cons.1 b with rfl|b
   .exact .inl z
   .exact .inr (E b)
def Sz.agg{b:Array Field}{parts:List (DataW H)}(h:Sz P t (.agg parts))(B:P.underlying t=some (.struct b)){i:Nat}{f:Field}{d:DataW H}(w:b[i]?=some f)(e:parts[i]?=some d):Sz P f.type d:=by
 simp only[Sz,DataW.weights,B]at h;exact λ k z=>h k (DataW.weights_mem_each (by simp[getElem?_map,w]) e k z)
def Sz.arg{ts:List TypeId}{ds:List (DataW H)}(h:(DataW.weightsEach P ts ds).all (·<=reachBytes)=true){i:Nat}{d:DataW H}(w:ts[i]?=some t)(b:ds[i]?=some d):Sz P t d:=λ k e=>by
 have:=all_eq_true.1 h _ (DataW.weights_mem_each w b k e);simpa using this
def dG(Z:P.underlying t=some (.slice e))(Y:P.cellsOf e=n)(S:0<n)(h:QX enc P W fuel t [v]=some x) :
  ∃(a:Option Addr)(len cap:Nat)(rows:List (List Value))(ys:List (DataW H×List MemPlace))(m:Nat),v=.slice a len cap/\rows.length=len/\ys.length=len /\
   (∀(i:Nat)r,rows[i]?=some r->(∃K,a=some K/\K.spot=none/\r.length=n/\Z6 (Qa.all W) (K.add (i*n)) r)/\∃y,ys[i]?=some y/\QX enc P W m e r=some y) /\
   ((∃rest,x.1=.slice (ys.map (·.1)) rest)\/len=0):=by
 rcases DataW.trod_slice Z h with⟨z,T⟩|⟨a,len,cap,b,rest,m,_,z,T,_,_,_,X,B,_,_⟩
 .simp only[List.cons.injEq,and_true]at z;exact⟨none,0,0,[],[],0,z,rfl,rfl,λ i r w=>by simp at w,.inr rfl⟩
 .simp only[List.cons.injEq,and_true]at z;rw[Y]at B
  have key:∀i,i<len->∃r,W.cells? 0 (a.add (i*n)) n=some r/\∃y,b[i]?=some y/\QX enc P W m e r=some y:=by
   intro i I;have F:=B i I;have G:b[i]?=some b[i]:=getElem?_eq_getElem O1;rw[G]at F;obtain⟨r,w,Q⟩:=Option.bind_eq_some_iff.1 F;exact⟨r,w,_,G,Q⟩
  refine⟨some a,len,cap,(range len).map λ i=>(W.cells? 0 (a.add (i*n)) n).getD [],b,m,z,S1,X,λ i r w=>?_,.inl ⟨_,by rw[T]⟩⟩;have I:i<len:=by have:=(List.getElem?_eq_some_iff.1 w).1;simpa using this
  obtain⟨r',E,y,Q,N⟩:=key i I
  have U:r=r':=by
   simp only[getElem?_map,getElem?_range I,Option.map_some,E,Option.getD_some,Option.some.injEq]at w;exact w.symm
  subst U;obtain⟨F,G⟩:=II E;obtain⟨r0,L,-⟩:=key 0 O1;obtain⟨h3,V⟩:=II L
  have M:a.spot=none:=by
   have:=V 0 r0[0] (getElem?_eq_getElem O1);have:=this.1;simpa[Addr.add]using this
  exact⟨⟨a,rfl,M,F,G⟩,y,Q,N⟩
def XI{α:Type}{R:α->List Value->Prop}(V:P.underlying t=some (.slice e))(hn:P.cellsOf e=n)(F:0<n)(hb:0<P.bytesOf e)(h:QX enc P W fuel t [v]=some x)(B:Sz P t x.1)
  (hR:∀m r y,QX enc P W m e r=some y->Sz P e y.1->∃z:α,R z r) :
  ∃(a:Option Addr)(len cap:Nat)(l:List α),v=.slice a len cap/\Qy (Qa.all W) a len n l R/\len<2^60:=by
 obtain⟨a,len,cap,rows,ys,m,rfl,Y,Z,L,K⟩:=dG V hn F h
 have H:len<2^60/\∀(i:Nat)y,ys[i]?=some y->Sz P e y.1:=by
  rcases K with⟨rest,K⟩|K
  .rw[K]at B;have:=B.slice V hb;rw[length_map,Z]at this;exact⟨this.1,λ i y I=>this.2 _ (mem_map_of_mem (mem_of_getElem? I))⟩
  .exact⟨O1,λ i y I=>by have:=(List.getElem?_eq_some_iff.1 I).1;omega⟩
 have M:∃l:List α,l.length=rows.length/\∀(i:Nat)z,l[i]?=some z->∃r,rows[i]?=some r/\R z r:=by
  have b:∀r∈rows,∃z:α,R z r:=λ r G=>by
   obtain⟨i,E⟩:=getElem?_of_mem G;obtain⟨_,y,I,ht⟩:=L i r E;exact hR m r y ht (H.2 i y I)
  clear L Y
  induction rows with
  |nil=>exact⟨[],rfl,λ i z B=>by simp at B⟩
  |cons r rows ih=>
   obtain⟨l,U,E⟩:=ih λ r G=>b r (mem_cons_of_mem _ G);obtain⟨z,B⟩:=b r (mem_cons_self ..);refine⟨z::l,by simp[U],λ i w S=>?_⟩;cases i with
   |zero=>simp at S;subst S;exact⟨r,rfl,B⟩
   |succ i=>simpa using E i w (by simpa using S)
 obtain⟨l,U,E⟩:=M;refine⟨a,len,cap,l,rfl,⟨O1,λ i z B=>?_⟩,H.1⟩;obtain⟨r,G,T⟩:=E i z B;obtain⟨⟨X,ha,hs,Q,N⟩,_⟩:=L i r G;exact⟨X,r,ha,hs,T,Q,N⟩
def Hl{w:Array Field}(z:P.underlying t=some (.struct w))(h:QX enc P W fuel t cs=some x)(H:Sz P t x.1) :
  cs.length=P.cellsOf t/\∃m,∀(i:Nat)(f:Field),w[i]?=some f->∃y,QX enc P W m f.type ((cs.drop f.offset).take (P.cellsOf f.type))=some y/\Sz P f.type y.1:=by
 obtain⟨xs,m,_,rfl,F,G,E⟩:=DataW.trod_struct z h;refine⟨F,m,λ i f b=>?_⟩;have e:i<xs.length:=by have:=(Array.getElem?_eq_some_iff.1 b).1;omega
 have B:xs[i]?=some xs[i]:=getElem?_eq_getElem e;exact⟨xs[i],(E i f b).trans B,H.agg z b (by rw[getElem?_map,B];rfl)⟩
def Zs{w:Array Field}{m i ft off:Nat}(h:∀(i:Nat)(f:Field),w[i]?=some f->∃y:DataW H×List MemPlace,QX enc P W m f.type ((cs.drop f.offset).take (P.cellsOf f.type))=some y/\Sz P f.type y.1)
  (b:(w[i]?).map (λ f=>(f.type,f.offset))=some (ft,off)) (z:P.cellsOf ft=n):∃y,QX enc P W m ft ((cs.drop off).take n)=some y/\Sz P ft y.1:=by
 cases e:w[i]? with
 |none=>rw[e]at b;simp at b
 |some f=>
  rw[e]at b;simp only[Option.map_some,Option.some.injEq,Prod.mk.injEq]at b;have:=h i f e;rw[b.1,b.2,z]at this;exact this
end
def yp{P:Program}{b:Frame}{fd:Func}{n:Nat}{tmps:Array Value}{v:Value}{w:World}{todo:List Item}(B:P.funcs[b.fn]?=some fd)(F:b.kind=.normal)(G:fd.results=#[.tmp n])(H:tmps.getD n undef=v)(E:P.inits.idxOf? b.fn=none) :
  stepG P true (Rf { fr b ⟨tmps,[]⟩ todo with mode:=.returning } []) w=.ended (.done v) w (seen P b.fn #[]):=by
 have e:(results fd tmps).runT P w #[]=(.ok v w,#[]):=by
  simp only[results,G,Oz];simp[X9,H]
 obtain⟨h,z⟩:Sem.run P (results fd tmps) w=.ok v w/\Sem.events P (results fd tmps) w #[]=#[]:=by simpa using e
 simp[Rf,stepG,unwind,fr,B,h,z,doReturn,F,GStep.after,E]
def Zv2{P:Program}{S:Sys P Tk}{g:FuncId}{N n:Nat}{cc:C}{Q:Value->Qa Tk->Prop}{args:List Value}{U:Qa Tk}(k:Q4 P g N cc [.t n])(hm:P.follows .mixedOrders=true)(hi:P.inits.idxOf? g=none)(hn:args.length<=N)
  (hq:∀v U',Q v U'->U'.tok=⟨0,.out,none⟩)
  (h:WA S g none cc (λ _ _ _=>False) (λ _ _ _ _=>False) (λ f ds U=>ds=[]/\WS (f n) λ v=>Q v U) (fm args) [] U) :
  J S (Fin P Q) true (Rf (Frame.enter P g args.toArray .normal) []) U:=by
 obtain⟨fd,mu,dets,X,V,W,rfl,hr,-⟩:=k.ok;obtain⟨c,K⟩:∃c,fd.body.getD .skip=c:=⟨_,rfl⟩;rw[K]at V W
 have I:fd.results=#[.tmp n]:=by
  have M:fd.results.toList.mapM (H1 P)=some [RV.t n]:=hr;have Z:=mapM_some_length M;obtain⟨r,H⟩:∃r,fd.results.toList=[r]:=length_eq_one_iff.1 (by simpa using Z.symm);rw[H]at M;have B:=mapM_some_get M 0 r rfl
  have e3:r=.tmp n:=by
   cases r with
   |tmp t=>simp only[H1]at B;simp at B;rw[B]
   |cell a t=>
    simp only[H1]at B;split at B
    .split at B
     .cases hs:Jw P t with
      |none=>rw[hs]at B;simp at B
      |some z=>rw[hs]at B;simp at B
     .simp at B
    .simp at B
  apply Array.ext';rw[H,e3]
 let b:Frame:={ (default:Frame)with fn:=g,kind:=.normal }
 have E:Rf (Frame.enter P g args.toArray .normal) []=R b { tmps:=args.toArray++Array.replicate (fd.ntmps-args.toArray.size) undef,defers:=[] } [.code c] []:=by
  simp[Rf,R,Frame.enter,fr,X,V,b];rfl
 rw[E]
 have L:FR fd.ntmps { tmps:=args.toArray++Array.replicate (fd.ntmps-args.toArray.size) undef,defers:=[] } (fm args) []:=by
  refine⟨rfl,S3,λ t=>?_⟩;simp only[fm,Array.getD_eq_getD_getElem?,getD_eq_getElem?_getD,Array.getElem?_append,size_toArray,getElem?_toArray];split
  .rfl
  .rename_i hlt;rw[getElem?_eq_none O1,Array.getElem?_replicate];split <;> rfl
 subst W;refine J.body (fn:=g) (Q:=P5 fd.ntmps (λ _ _ _=>False) (λ _ _ _ _=>False) (λ f ds U=>ds=[]/\WS (f n) λ v=>Q v U)) ⟨rfl,rfl,by simp[b],S1⟩ (GH hm _ L h) λ e a' U' q=>?_;obtain⟨f',Y,G,q⟩:=q;cases e with
 |normal=>exact q.elim
 |exit i=>exact q.elim
 |ret=>
  obtain⟨rfl,q⟩:=q;rw[Q0]at q;refine⟨.inr rfl,λ todo=>.stop ⟨rfl,rfl,hq _ _ q,f' n,q,λ w _=>⟨seen P g #[],?_,λ e he=>absurd (Jq P g #[] e he) S1⟩⟩⟩;obtain⟨T,F⟩:=a';have hd:F=[]:=G.ds;subst hd;exact yp (b:=b) X rfl I (G.get n) hi
def yq{W W':World}(h:(Qa.all W).ok W')(e:W'.output=W.output):Below W.heap.size W { W' with os:=W.os,tape:=W.tape }:=by
 have key:∀k,k<W.heap.size->W'.heap[k]?=W.heap[k]?:=λ k w=>by
  have:W.heap[k]?=some W.heap[k]:=Array.getElem?_eq_getElem w;rw[this];exact h.imm k _ this
 refine⟨rfl,rfl,e,?_,key⟩;apply Classical.byContradiction;intro z;have b:W'.heap.size<W.heap.size:=by simpa using z
 have:=key W'.heap.size b;rw[Array.getElem?_eq_none (Nat.le_refl _),Array.getElem?_eq_getElem b]at this;cases this
section
variable{H:Type}{enc:TypeId×Value->H}{P:Program}
def FV(F:laidOutB P=true){W W':World}(E:Below W.heap.size W W'):∀{ts:List TypeId}{vs:List Value}{ds:List (DataW H)}{ps:List MemPlace},ts.all (λ t=>P.readableRec t&&decide (t<P.types.size))=true ->
  DataW.TrodAll enc P W 0 (λ _=>true) true ts vs ds ps->(∀x∈ps,x.block<W.heap.size)->DataW.TrodAll enc P W' 0 (λ b=>decide (b<W.heap.size)) true ts vs ds ps
 |[],[],[],_,_,h,_=>h
 |t::ts,v::vs,d::ds,_,z,⟨p,q,h,G,e⟩,w=>by
  subst e;simp only[all_cons,Bool.and_eq_true,decide_eq_true_eq]at z;exact⟨p,q,Below.trod F z.1.1 z.1.2 h E λ x B=>w x (mem_append_left _ B),FV F E (by simpa using z.2) G λ x B=>w x (mem_append_right _ B),rfl⟩
def sU{fn:Func}{s:ChangeSpec}{W W':World}{args:Array Value}{ds:List (DataW H)}{p:List MemPlace}{N:TypeId}(U:laidOutB P=true)(V:fn.params.toList.all (λ t=>P.readableRec t&&decide (t<P.types.size))=true)(e:s.vars=[])
  (L:DataW.Whole enc P fn.params.toList s.vars false W args.toList ds [] p) (G:fn.resultTypes=#[N]) (Y:P.underlying N=some .bool) (B:(s.fn H (ds++[])).results=[.lit (.bool true)]) (b:(s.fn H (ds++[])).args=ds) (I:(s.fn H (ds++[])).vars=[])
  (F:(Qa.all W).ok W') (z:W'.output=W.output):s.post enc P fn false true false false W args (.bool true) { W' with os:=W.os }:=by
 have M:=yq F z;have E:=L.lt;obtain⟨q,r,K,Q,rfl,S,T⟩:=L;have X:∀x∈q,x.block<W.heap.size:=λ x Z=>by simpa using E x (mem_append_left _ Z)
 refine⟨ds,[],q++r,[],q,[],⟨q,r,K,Q,rfl,S,T⟩,?_,?_,?_,?_,λ h=>by cases h⟩
 .rw[B,G];exact trodAll_mk1 ⟨1,by simp[DataW.trod,Y,Value.cells]⟩
 .rw[b];exact DataW.TrodAll.of_heap (w:={ W' with os:=W.os,tape:=W.tape }) (w':={ W' with os:=W.os }) rfl (FV U M V K X)
 .rw[I,e];rfl
 .have:=M.frame (λ p=>p∈q++r/\(p∈[]\/p∈q\/p∈[]));exact⟨this.1,this.2.1,this.2.2⟩
def Zu2{t:TypeId}{N f:Nat}{fn:Func}{s:ChangeSpec}{W:World}{args:Array Value}{ds:List (DataW H)}{p:List MemPlace}{Q:TypeId}(hl:laidOutB P=true)(hp:fn.params.toList.all (λ t=>P.readableRec t&&decide (t<P.types.size))=true)(w:s.vars=[])
  (Z:DataW.Whole enc P fn.params.toList s.vars false W args.toList ds [] p) (K:fn.resultTypes=#[Q]) (hu:P.underlying Q=some .bool) (B:(s.fn H (ds++[])).results=[.lit (.bool true)]) (e:(s.fn H (ds++[])).args=ds) (L:(s.fn H (ds++[])).vars=[])
  (Y:J (Zd P t N) (Fin P λ v U=>v=.bool true/\(Qa.all W).lg U) true (Rf (Frame.enter P f args .normal) []) (Qa.all W)) :
  ∃M last o w' E,runNT P (M+1) (Conc.solo (Conc.G (Frame.enter P f args .normal) []) W) #[]=(.ended o w',E)/\runN P M (Conc.solo (Conc.G (Frame.enter P f args .normal) []) W)=.next last /\
   step P last=.ended o w'/\Conc.Good P (λ v W'=>s.post enc P fn false true false false W args v { W' with os:=W.os }/\OsLater W.os W'.os) last o w' E:=by
 obtain⟨M,last,o,w',E,S,T,V,X⟩:=Y.runs (Qa.all_ok W) rfl;refine⟨M,last,o,w',E,S,T,V,IN X λ v W'⟨U,⟨hv,F⟩,I,ho,z⟩=>?_⟩;subst hv;exact⟨sU hl hp w Z K hu B e L ⟨λ b o h=>I.imm b o (F.imm b o h),λ _ h=>absurd h not_mem_nil,Pairwise.nil,λ _ h=>absurd h not_mem_nil⟩ z,ho⟩
end
section
variable{H:Type}{enc:TypeId×Value->H}
def Zs4{a:Assume}{C:Checked}{os:Os}{f:FuncId}{fn:Func}{s:ChangeSpec}{F:Stop.Interp}{h:List PathCond}{apart z b:Bool}{X:World->Prop}
  (hX:∀(w w':World),w.heap=w'.heap->X w->X w')
  (own:ownKnob C.prog.godebug=none) (B:os.Started) (Q:C.prog.funcs[f]?=some fn)
  (E:∃(w:World)(tape:Tape)(i:Input),w.os=os/\(w.forCall tape i).Shaped C.prog/\i.vars=[]/\Input.okWide C.prog (w.forCall tape i) .any w.heap.size f i /\
   ((s.pre enc C.prog fn h apart (w.forCall tape i).memory i.args/\X (w.forCall tape i).memory)/\sizedMet enc C.prog fn (OpenSpec.ofChange s) apart (w.forCall tape i).memory i.args)/\a.holds C.prog (lone (Frame.enter C.prog f i.args .normal) [] (w.forCall tape i)))
  (runs:∀(W:World)(base:Nat)(args:Array Value)(ds gs:List (DataW H))(before:List MemPlace),
   (∀(j:Nat)t v,fn.params[j]?=some t->args[j]?=some v->Value.okWide C.prog W .any base t v) ->
   DataW.Whole enc C.prog fn.params.toList s.vars apart W args.toList ds gs before ->
   (DataW.weightsEach C.prog (fn.params.toList++s.plain.varTypes C.prog) (ds++gs)).all (·<=reachBytes)=true->X W ->
   ∃M last o w' N,runNT C.prog (M+1) (Conc.solo (Conc.G (Frame.enter C.prog f args .normal) []) W) #[]=(.ended o w',N)/\runN C.prog M (Conc.solo (Conc.G (Frame.enter C.prog f args .normal) []) W)=.next last /\
    step C.prog last=.ended o w'/\Conc.Good C.prog (λ v W'=>s.post enc C.prog fn apart z b false W args v { W' with os:=W.os }/\OsLater W.os W'.os) last o w' N) :
  ReturnsInLeavingWide a C os f .any (λ w args=>(s.pre enc C.prog fn h apart w args/\X w)/\sizedMet enc C.prog fn (OpenSpec.ofChange s) apart w args) ((OpenSpec.ofChange s).postWith enc C.prog fn F (outsideKept [.timePasses]) apart z b):=by
 refine returnsInLeavingWide_of_good own B E ?_;intro w tape i _ _ _ S K _;obtain⟨_,_,_,P,I,_,_,_,_,L⟩:=S;have e:P=fn:=Option.some.inj (I.symm.trans Q);subst e;obtain⟨⟨⟨ds,gs,before,V,hc⟩,hx⟩,hz⟩:=K;have T:=DataW.Whole.of_heap (w':=w.forCall tape i) (by rfl) V;obtain⟨M,last,o,w',N,Y,Z,h3,h4⟩:=runs (w.forCall tape i) w.heap.size i.args ds gs before L T (hz.weights V) (hX (w.forCall tape i).memory (w.forCall tape i) rfl hx);obtain⟨v,e,U,r1,r2,r3,r4⟩:=h4;exact⟨M,last,o,w',N,Y,Z,h3,v,e,postWith_blind (postWith_of_post U.1 U.2),r1,r2,r3,r4⟩
def Zsn{C:Checked}{os:Os}{f:FuncId}{fn:Func}{s:ChangeSpec}{b:List PathCond}{apart:Bool}{X:World->Prop}(e:World)(args:Array Value)(fuel:Nat)(B:e.os=os)
  (E:(e.forCall (λ _ _=>0) ⟨#[],args,[]⟩).Shaped C.prog)
  (h:Input.okWideB C.prog (e.forCall (λ _ _=>0) ⟨#[],args,[]⟩) f ⟨#[],args,[]⟩=true)
  (z:s.preB enc C.prog fn b apart (e.forCall (λ _ _=>0) ⟨#[],args,[]⟩).memory args fuel=true)
  (F:s.sizedB enc C.prog fn apart (e.forCall (λ _ _=>0) ⟨#[],args,[]⟩).memory args fuel=true)
  (G:X (e.forCall (λ _ _=>0) ⟨#[],args,[]⟩).memory) :
  ∃(w:World)(tape:Tape)(i:Input),w.os=os/\(w.forCall tape i).Shaped C.prog/\i.vars=[]/\Input.okWide C.prog (w.forCall tape i) .any w.heap.size f i /\
   ((s.pre enc C.prog fn b apart (w.forCall tape i).memory i.args/\X (w.forCall tape i).memory)/\sizedMet enc C.prog fn (OpenSpec.ofChange s) apart (w.forCall tape i).memory i.args)/\({ calm:=true }:Assume).holds C.prog (lone (Frame.enter C.prog f i.args .normal) [] (w.forCall tape i)):=
 ⟨e,λ _ _=>0,⟨#[],args,[]⟩,B,E,(Input.okWide_of_okWideB (base:=0) h).1,(Input.okWide_of_okWideB h).2,⟨⟨ChangeSpec.pre_of_preB z,G⟩,sizedMet_of_sizedB F⟩,by
  simp only[Assume.holds];exact⟨S1,λ _ _ _ _=>rfl,S1,S1,S1⟩⟩
end
def Zue{p:Pinned}{s:OpenSpec}{c:OpenClaim}(kinds:List LaidKind)(e:Bool)(b:Bool×String)(lk:Bool)
  (G:c.holds p s) (M:c.wfByText s=true) (w:c.laidByTextAt .later p kinds e)
  (B:c.start=.entering) (z:c.noBlocks=false/\c.again=false) (K:p.checked.prog.mainIs=some (b.1,b.2.toList)) (L:(!b.1&&b.2.isEmpty&&!lk)=false)
  (I:∀f fn,p.checked.prog.funcNamed c.func=some f->p.checked.prog.funcs[f]?=some fn->lk=p.checked.prog.looks []/\∀(j:Nat)t,fn.params[j]?=some t->p.checked.prog.wantsStandIn t=false)
  (H:true=c.goesBy p.checked.prog) :
  Claim7.holds p (.plain s) { stood:={ row:=c,standIns:=[],harness:=b,looks:=lk },kinds:=[],alts:=[],goes:=true,laidByText:=true,laidKinds:=kinds,laidTests:=e,laidLooks:=.later }:=by
 have E:Claim7.isSixth { stood:={ row:=c,standIns:=[],harness:=b,looks:=lk },kinds:=[] }=false:=by simpa[Claim7.isSixth]using L
 refine⟨Claim7.tied_new_at .later kinds e (Claim7.new_of_sixth G b lk B z K E I) M,λ D F=>?_,w,(λ h=>by cases h),H⟩;cases F
end Go.TM

