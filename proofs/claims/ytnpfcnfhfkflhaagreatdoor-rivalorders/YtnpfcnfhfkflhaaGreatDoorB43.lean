/- Lemmas. No conditions. -/
import Derived.Conc.HoldsTime
import Derived.SevenTiedAt
import Derived.Conc.LeavingOf
import Derived.OpenShut
import Derived.Test.YtnpfcnfhfkflhaaGreatDoorB37
set_option linter.all false
open List
namespace Go.TM
open Go.ChangeShapes Go.WideShapes Go.RowKit
open Go.ConcM (OsLater)
def Qa.all(W:World):Qa Tk:=⟨λ b=>W.heap[b]?,[],⟨0,.out,none⟩⟩
theorem Qa.all_ok(W:World):(Qa.all W).ok W:=⟨λ _ _ h=>h,λ _ h=>absurd h not_mem_nil,Pairwise.nil,λ _ h=>absurd h not_mem_nil⟩
theorem BP{W:World}{a:Addr}{v:Value}(h:W.cell? a=some v):(Qa.all W).sees a v:=by
 unfold World.cell? at h;split at h
 .rename_i c t fr hb;split at h
  .cases h
  .rename_i hs;exact⟨S2,.inl ⟨c,t,fr,.inl hb,h⟩⟩
 .cases h
theorem UW{W:World}{a:Addr}{n:Nat}{cs:List Value}(h:W.cells? 0 a n=some cs):cs.length=n/\Jn (Qa.all W) a cs:=by
 unfold World.cells? at h;rw[if_pos (Nat.zero_le _)]at h;have b:=mapM_some_length h;rw[length_range]at b;refine⟨b,λ i v f=>?_⟩;have e:i<n:=by rw[<- b];exact(List.getElem?_eq_some_iff.1 f).1
 have:=mapM_some_get h i i (by simp[e]);grind[BP]
section
variable{H:Type}{enc:TypeId×Value->H}{P:Program}{W:World}{t e:TypeId}{n fuel:Nat}{x:DataW H×List MemPlace}{v:Value}{cs:List Value}
abbrev JZ(enc:TypeId×Value->H)(P:Program)(W:World)(fuel:Nat)(t:TypeId)(cs:List Value):Option (DataW H×List MemPlace):=DataW.trod enc P W 0 (λ _=>true) true fuel t cs
def Sz(P:Program)(t:TypeId)(d:DataW H):Prop:=∀k∈d.weights P t,k<=reachBytes
theorem CD{k:Nat}(h:k<=reachBytes):k<2^60:=by
 grind[reachBytes_lt]
theorem Sz.slice{es rest:List (DataW H)}(h:Sz P t (.slice es rest))(z:P.underlying t=some (.slice e))(f:0<P.bytesOf e):es.length<2^60/\∀d∈es,Sz P e d:=by
 simp only[Sz,DataW.weights,z]at h;refine⟨?_,λ d b k w=>h k ?_⟩
 .have:=CD (h _ (mem_cons_self ..));have E:es.length*1<=(es.length+rest.length)*P.bytesOf e:=Nat.mul_le_mul O1 f;omega
 .refine mem_cons_of_mem _ (mem_append_left _ ?_);clear h
  induction es with
  |nil=>cases b
  |cons a es B=>
   simp only[DataW.weightsAll,mem_append];rcases mem_cons.1 b with rfl|b
   .exact .inl w
   .exact .inr (B b)
theorem Sz.agg{b:Array Field}{parts:List (DataW H)}(h:Sz P t (.agg parts))(z:P.underlying t=some (.struct b)){i:Nat}{f:Field}{d:DataW H}(B:b[i]?=some f)(e:parts[i]?=some d):Sz P f.type d:=by
 simp only[Sz,DataW.weights,z]at h;exact λ k w=>h k (DataW.weights_mem_each S2 e k w)
theorem Sz.arg{ts:List TypeId}{ds:List (DataW H)}(h:(DataW.weightsEach P ts ds).all (·<=reachBytes)=true){i:Nat}{d:DataW H}(f:ts[i]?=some t)(b:ds[i]?=some d):Sz P t d:=λ k e=>by
 have:=all_eq_true.1 h _ (DataW.weights_mem_each f b k e);simpa using this
theorem jU(Z:P.underlying t=some (.slice e))(V:P.cellsOf e=n)(M:0<n)(h:JZ enc P W fuel t [v]=some x) :
  ∃(a:Option Addr)(len cap:Nat)(f:List (List Value))(ys:List (DataW H×List MemPlace))(m:Nat),v=.slice a len cap/\f.length=len/\ys.length=len /\
   (∀(i:Nat)r,f[i]?=some r->(∃G,a=some G/\G.spot=none/\r.length=n/\Jn (Qa.all W) (G.add (i*n)) r)/\∃y,ys[i]?=some y/\JZ enc P W m e r=some y) /\
   ((∃rest,x.1=.slice (ys.map (·.1)) rest)\/len=0):=by
 rcases DataW.trod_slice Z h with⟨z,N⟩|⟨a,len,cap,b,rest,m,_,z,N,_,_,_,U,B,_,_⟩
 .simp only[List.cons.injEq,and_true]at z;exact⟨none,0,0,[],[],0,z,rfl,rfl,λ i r w=>by simp at w,.inr rfl⟩
 .simp only[List.cons.injEq,and_true]at z;rw[V]at B
  have key:∀i,i<len->∃r,W.cells? 0 (a.add (i*n)) n=some r/\∃y,b[i]?=some y/\JZ enc P W m e r=some y:=by
   intro i F;have I:=B i F;have K:b[i]?=some b[i]:=getElem?_eq_getElem O1;rw[K]at I;obtain⟨r,w,Q⟩:=Option.bind_eq_some_iff.1 I;exact⟨r,w,_,K,Q⟩
  refine⟨some a,len,cap,(range len).map λ i=>(W.cells? 0 (a.add (i*n)) n).getD [],b,m,z,S1,U,λ i r w=>?_,.inl ⟨_,by rw[N]⟩⟩;have F:i<len:=by have:=(List.getElem?_eq_some_iff.1 w).1;simpa using this
  obtain⟨r',E,y,Q,Y⟩:=key i F
  have S:r=r':=by
   simp only[getElem?_map,getElem?_range F,Option.map_some,E,Option.getD_some,Option.some.injEq]at w;exact w.symm
  subst S;obtain⟨I,K⟩:=UW E;obtain⟨r0,L,-⟩:=key 0 O1;obtain⟨h3,T⟩:=UW L
  have X:a.spot=none:=by
   have:=T 0 r0[0] (getElem?_eq_getElem O1);have:=this.1;simpa[Addr.add]using this
  simp_all
theorem Yd{α:Type}{R:α->List Value->Prop}(S:P.underlying t=some (.slice e))(Y:P.cellsOf e=n)(E:0<n)(X:0<P.bytesOf e)(h:JZ enc P W fuel t [v]=some x)(B:Sz P t x.1)
  (V:∀m r y,JZ enc P W m e r=some y->Sz P e y.1->∃z:α,R z r) :
  ∃(a:Option Addr)(len cap:Nat)(l:List α),v=.slice a len cap/\Q5 (Qa.all W) a len n l R/\len<2^60:=by
 obtain⟨a,len,cap,b,ys,m,rfl,T,U,N,H⟩:=jU S Y E h
 have F:len<2^60/\∀(i:Nat)y,ys[i]?=some y->Sz P e y.1:=by
  rcases H with⟨rest,H⟩|H
  .rw[H]at B;have:=B.slice S X;rw[length_map,U]at this;exact⟨this.1,λ i y G=>this.2 _ (mem_map_of_mem (mem_of_getElem? G))⟩
  .exact⟨O1,λ i y G=>by have:=(List.getElem?_eq_some_iff.1 G).1;omega⟩
 have K:∃l:List α,l.length=b.length/\∀(i:Nat)z,l[i]?=some z->∃r,b[i]?=some r/\R z r:=by
  have f:∀r∈b,∃z:α,R z r:=λ r L=>by
   obtain⟨i,I⟩:=getElem?_of_mem L;obtain⟨_,y,G,Z⟩:=N i r I;exact V m r y Z (F.2 i y G)
  clear N T
  induction b with
  |nil=>exact⟨[],rfl,λ i z B=>by simp at B⟩
  |cons r b ih=>
   obtain⟨l,Q,I⟩:=ih λ r L=>f r (mem_cons_of_mem _ L);obtain⟨z,B⟩:=f r (mem_cons_self ..);refine⟨z::l,by simp[Q],λ i w M=>?_⟩;cases i with
   |zero=>simp at M;subst M;exact⟨r,rfl,B⟩
   |succ i=>simpa using I i w (by simpa using M)
 obtain⟨l,Q,I⟩:=K;refine⟨a,len,cap,l,rfl,⟨O1,λ i z B=>?_⟩,F.1⟩;grind
theorem FX{w:Array Field}(z:P.underlying t=some (.struct w))(h:JZ enc P W fuel t cs=some x)(H:Sz P t x.1) :
  cs.length=P.cellsOf t/\∃m,∀(i:Nat)(f:Field),w[i]?=some f->∃y,JZ enc P W m f.type ((cs.drop f.offset).take (P.cellsOf f.type))=some y/\Sz P f.type y.1:=by
 obtain⟨xs,m,_,rfl,E,G,B⟩:=DataW.trod_struct z h;refine⟨E,m,λ i f b=>?_⟩;have e:i<xs.length:=by have:=(Array.getElem?_eq_some_iff.1 b).1;omega
 have F:xs[i]?=some xs[i]:=getElem?_eq_getElem e;exact⟨xs[i],(B i f b).trans F,H.agg z b (by grind)⟩
theorem GM{b:Array Field}{m i ft off:Nat}(h:∀(i:Nat)(f:Field),b[i]?=some f->∃y:DataW H×List MemPlace,JZ enc P W m f.type ((cs.drop f.offset).take (P.cellsOf f.type))=some y/\Sz P f.type y.1)
  (e:(b[i]?).map (λ f=>(f.type,f.offset))=some (ft,off)) (w:P.cellsOf ft=n):∃y,JZ enc P W m ft ((cs.drop off).take n)=some y/\Sz P ft y.1:=by
 grind
end
theorem CF{P:Program}{b:Frame}{fd:Func}{n:Nat}{tmps:Array Value}{v:Value}{w:World}{todo:List Item}(z:P.funcs[b.fn]?=some fd)(E:b.kind=.normal)(F:fd.results=#[.tmp n])(G:tmps.getD n undef=v)(B:P.inits.idxOf? b.fn=none) :
  stepG P true (Rf { fr b ⟨tmps,[]⟩ todo with mode:=.returning } []) w=.ended (.done v) w (seen P b.fn #[]):=by
 have e:(results fd tmps).runT P w #[]=(.ok v w,#[]):=by
  simp only[results,F,Ta];simp[X5,G]
 obtain⟨f,h⟩:Sem.run P (results fd tmps) w=.ok v w/\Sem.events P (results fd tmps) w #[]=#[]:=by simpa using e
 simp[Rf,stepG,unwind,fr,z,f,h,doReturn,E,GStep.after,B]
theorem Zpy{P:Program}{S:Sys P Tk}{g:FuncId}{N n:Nat}{cc:C}{Q:Value->Qa Tk->Prop}{args:List Value}{U:Qa Tk}(k:Zf P g N cc [.t n])(hm:P.follows .mixedOrders=true)(hi:P.inits.idxOf? g=none)(hn:args.length<=N)
  (hq:∀v U',Q v U'->U'.tok=⟨0,.out,none⟩)
  (h:JV S g none cc (λ _ _ _=>False) (λ _ _ _ _=>False) (λ f ds U=>ds=[]/\WM (f n) λ v=>Q v U) (fm args) [] U) :
  J S (QA P Q) true (Rf (Frame.enter P g args.toArray .normal) []) U:=by
 obtain⟨fd,mu,dets,W,T,V,rfl,hr,-⟩:=k.ok;obtain⟨c,I⟩:∃c,fd.body.getD .skip=c:=⟨_,rfl⟩;rw[I]at T V
 have H:fd.results=#[.tmp n]:=by
  have L:fd.results.toList.mapM (Xt P)=some [RV.t n]:=hr;have e1:=mapM_some_length L;obtain⟨r,G⟩:∃r,fd.results.toList=[r]:=length_eq_one_iff.1 S2;rw[G]at L;have E:=mapM_some_get L 0 r rfl
  have Y:r=.tmp n:=by
   cases r with
   |tmp t=>grind[Xt]
   |cell a t=>
    simp only[Xt]at E;split at E
    .split at E
     .simp_all
     .simp at E
    .simp at E
  apply Array.ext';rw[G,Y]
 let b:Frame:={ (default:Frame)with fn:=g,kind:=.normal }
 have z:Rf (Frame.enter P g args.toArray .normal) []=R b { tmps:=args.toArray++Array.replicate (fd.ntmps-args.toArray.size) undef,defers:=[] } [.code c] []:=by
  simp[Rf,R,Frame.enter,fr,W,T,b];rfl
 rw[z]
 have K:FR fd.ntmps { tmps:=args.toArray++Array.replicate (fd.ntmps-args.toArray.size) undef,defers:=[] } (fm args) []:=by
  refine⟨rfl,S3,λ t=>?_⟩;simp only[fm,Array.getD_eq_getD_getElem?,getD_eq_getElem?_getD,Array.getElem?_append,size_toArray,getElem?_toArray];split
  .rfl
  .grind
 subst V;refine J.body (fn:=g) (Q:=Gj fd.ntmps (λ _ _ _=>False) (λ _ _ _ _=>False) (λ f ds U=>ds=[]/\WM (f n) λ v=>Q v U)) ⟨rfl,rfl,by simp[b],S1⟩ (G4 hm _ K h) λ e a' U' q=>?_;obtain⟨Z,X,F,q⟩:=q;cases e with
 |normal=>exact q.elim
 |exit i=>exact q.elim
 |ret=>
  obtain⟨rfl,q⟩:=q;rw[Qz]at q;refine⟨.inr rfl,λ todo=>.stop ⟨rfl,rfl,hq _ _ q,Z n,q,λ w _=>⟨seen P g #[],?_,λ e he=>absurd (Jq P g #[] e he) S1⟩⟩⟩;obtain⟨M,B⟩:=a';have hd:B=[]:=F.ds;subst hd;exact CF (b:=b) W rfl H (F.get n) hi
theorem N7{W W':World}(h:(Qa.all W).ok W')(b:W'.output=W.output):Below W.heap.size W { W' with os:=W.os,tape:=W.tape }:=by
 have key:∀k,k<W.heap.size->W'.heap[k]?=W.heap[k]?:=λ k e=>by
  have:W.heap[k]?=some W.heap[k]:=Array.getElem?_eq_getElem e;rw[this];exact h.imm k _ this
 refine⟨rfl,rfl,b,?_,key⟩;grind
section
variable{H:Type}{enc:TypeId×Value->H}{P:Program}
theorem IY(F:laidOutB P=true){W W':World}(E:Below W.heap.size W W'):∀{ts:List TypeId}{vs:List Value}{ds:List (DataW H)}{B:List MemPlace},ts.all (λ t=>P.readableRec t&&decide (t<P.types.size))=true ->
  DataW.TrodAll enc P W 0 (λ _=>true) true ts vs ds B->(∀x∈B,x.block<W.heap.size)->DataW.TrodAll enc P W' 0 (λ b=>decide (b<W.heap.size)) true ts vs ds B
 |[],[],[],_,_,h,_=>h
 |t::ts,v::vs,d::ds,_,w,⟨p,q,h,G,e⟩,f=>by
  subst e;simp only[all_cons,Bool.and_eq_true,decide_eq_true_eq]at w;exact⟨p,q,Below.trod F w.1.1 w.1.2 h E λ x z=>f x (mem_append_left _ z),IY F E (by simpa using w.2) G λ x z=>f x (mem_append_right _ z),rfl⟩
theorem R2{fn:Func}{s:ChangeSpec}{W W':World}{args:Array Value}{ds:List (DataW H)}{p:List MemPlace}{L:TypeId}(S:laidOutB P=true)(U:fn.params.toList.all (λ t=>P.readableRec t&&decide (t<P.types.size))=true)(e:s.vars=[])
  (I:DataW.Whole enc P fn.params.toList s.vars false W args.toList ds [] p) (E:fn.resultTypes=#[L]) (X:P.underlying L=some .bool) (z:(s.fn H (ds++[])).results=[.lit (.bool true)]) (b:(s.fn H (ds++[])).args=ds) (F:(s.fn H (ds++[])).vars=[])
  (B:(Qa.all W).ok W') (f:W'.output=W.output):s.post enc P fn false true false false W args (.bool true) { W' with os:=W.os }:=by
 have K:=N7 B f;have T:=I.lt;obtain⟨q,r,G,M,rfl,N,Q⟩:=I;have V:∀x∈q,x.block<W.heap.size:=λ x Y=>S2
 refine⟨ds,[],q++r,[],q,[],⟨q,r,G,M,rfl,N,Q⟩,?_,?_,?_,?_,λ h=>by cases h⟩
 .rw[z,E];exact trodAll_mk1 ⟨1,by simp[DataW.trod,X,Value.cells]⟩
 .rw[b];exact DataW.TrodAll.of_heap (w:={ W' with os:=W.os,tape:=W.tape }) (w':={ W' with os:=W.os }) rfl (IY S K U G V)
 .rw[F,e];rfl
 .have:=K.frame (λ p=>p∈q++r/\(p∈[]\/p∈q\/p∈[]));exact⟨this.1,this.2.1,this.2.2⟩
theorem Zo4{t:TypeId}{N f:Nat}{fn:Func}{s:ChangeSpec}{W:World}{args:Array Value}{ds:List (DataW H)}{p:List MemPlace}{Q:TypeId}(hl:laidOutB P=true)(hp:fn.params.toList.all (λ t=>P.readableRec t&&decide (t<P.types.size))=true)(w:s.vars=[])
  (Z:DataW.Whole enc P fn.params.toList s.vars false W args.toList ds [] p) (K:fn.resultTypes=#[Q]) (hu:P.underlying Q=some .bool) (B:(s.fn H (ds++[])).results=[.lit (.bool true)]) (e:(s.fn H (ds++[])).args=ds) (L:(s.fn H (ds++[])).vars=[])
  (Y:J (Zb P t N) (QA P λ v U=>v=.bool true/\(Qa.all W).lg U) true (Rf (Frame.enter P f args .normal) []) (Qa.all W)) :
  ∃M last o w' E,runNT P (M+1) (Conc.solo (Conc.G (Frame.enter P f args .normal) []) W) #[]=(.ended o w',E)/\runN P M (Conc.solo (Conc.G (Frame.enter P f args .normal) []) W)=.next last /\
   step P last=.ended o w'/\Conc.Good P (λ v W'=>s.post enc P fn false true false false W args v { W' with os:=W.os }/\OsLater W.os W'.os) last o w' E:=by
 obtain⟨M,last,o,w',E,S,T,V,X⟩:=Y.runs (Qa.all_ok W) rfl;refine⟨M,last,o,w',E,S,T,V,FN X λ v W'⟨U,⟨hv,F⟩,I,ho,z⟩=>?_⟩;subst hv;exact⟨R2 hl hp w Z K hu B e L ⟨λ b o h=>I.imm b o (F.imm b o h),λ _ h=>absurd h not_mem_nil,Pairwise.nil,λ _ h=>absurd h not_mem_nil⟩ z,ho⟩
end
section
variable{H:Type}{enc:TypeId×Value->H}
theorem Zne{a:Assume}{C:Checked}{os:Os}{f:FuncId}{fn:Func}{s:ChangeSpec}{F:Stop.Interp}{z:List PathCond}{apart B h:Bool}{X:World->Prop}
  (hX:∀(w w':World),w.heap=w'.heap->X w->X w')
  (own:ownKnob C.prog.godebug=none) (E:os.Started) (S:C.prog.funcs[f]?=some fn)
  (I:∃(w:World)(tape:Tape)(i:Input),w.os=os/\(w.forCall tape i).Shaped C.prog/\i.vars=[]/\Input.okWide C.prog (w.forCall tape i) .any w.heap.size f i /\
   ((s.pre enc C.prog fn z apart (w.forCall tape i).memory i.args/\X (w.forCall tape i).memory)/\sizedMet enc C.prog fn (OpenSpec.ofChange s) apart (w.forCall tape i).memory i.args)/\a.holds C.prog (lone (Frame.enter C.prog f i.args .normal) [] (w.forCall tape i)))
  (runs:∀(W:World)(base:Nat)(args:Array Value)(ds gs:List (DataW H))(b:List MemPlace),
   (∀(j:Nat)t v,fn.params[j]?=some t->args[j]?=some v->Value.okWide C.prog W .any base t v) ->
   DataW.Whole enc C.prog fn.params.toList s.vars apart W args.toList ds gs b ->
   (DataW.weightsEach C.prog (fn.params.toList++s.plain.varTypes C.prog) (ds++gs)).all (·<=reachBytes)=true->X W ->
   ∃M last o w' P,runNT C.prog (M+1) (Conc.solo (Conc.G (Frame.enter C.prog f args .normal) []) W) #[]=(.ended o w',P)/\runN C.prog M (Conc.solo (Conc.G (Frame.enter C.prog f args .normal) []) W)=.next last /\
    step C.prog last=.ended o w'/\Conc.Good C.prog (λ v W'=>s.post enc C.prog fn apart B h false W args v { W' with os:=W.os }/\OsLater W.os W'.os) last o w' P) :
  ReturnsInLeavingWide a C os f .any (λ w args=>(s.pre enc C.prog fn z apart w args/\X w)/\sizedMet enc C.prog fn (OpenSpec.ofChange s) apart w args) ((OpenSpec.ofChange s).postWith enc C.prog fn F (outsideKept [.timePasses]) apart B h):=by
 refine returnsInLeavingWide_of_good own E I ?_;intro w tape i _ _ _ T L _;obtain⟨_,_,_,Q,K,_,_,_,_,N⟩:=T;have e:Q=fn:=Option.some.inj (K.symm.trans S);subst e;obtain⟨⟨⟨ds,gs,b,Y,hc⟩,hx⟩,hz⟩:=L;have U:=DataW.Whole.of_heap (w':=w.forCall tape i) (by rfl) Y;obtain⟨M,last,o,w',P,Z,h2,h3,h4⟩:=runs (w.forCall tape i) w.heap.size i.args ds gs b N U (hz.weights Y) (hX (w.forCall tape i).memory (w.forCall tape i) rfl hx);obtain⟨v,e,V,r1,r2,r3,r4⟩:=h4;exact⟨M,last,o,w',P,Z,h2,h3,v,e,postWith_blind (postWith_of_post V.1 V.2),r1,r2,r3,r4⟩
theorem Zmx{C:Checked}{os:Os}{f:FuncId}{fn:Func}{s:ChangeSpec}{b:List PathCond}{apart:Bool}{X:World->Prop}(e:World)(args:Array Value)(fuel:Nat)(B:e.os=os)
  (E:(e.forCall (λ _ _=>0) ⟨#[],args,[]⟩).Shaped C.prog)
  (h:Input.okWideB C.prog (e.forCall (λ _ _=>0) ⟨#[],args,[]⟩) f ⟨#[],args,[]⟩=true)
  (z:s.preB enc C.prog fn b apart (e.forCall (λ _ _=>0) ⟨#[],args,[]⟩).memory args fuel=true)
  (F:s.sizedB enc C.prog fn apart (e.forCall (λ _ _=>0) ⟨#[],args,[]⟩).memory args fuel=true)
  (G:X (e.forCall (λ _ _=>0) ⟨#[],args,[]⟩).memory) :
  ∃(w:World)(tape:Tape)(i:Input),w.os=os/\(w.forCall tape i).Shaped C.prog/\i.vars=[]/\Input.okWide C.prog (w.forCall tape i) .any w.heap.size f i /\
   ((s.pre enc C.prog fn b apart (w.forCall tape i).memory i.args/\X (w.forCall tape i).memory)/\sizedMet enc C.prog fn (OpenSpec.ofChange s) apart (w.forCall tape i).memory i.args)/\({ calm:=true }:Assume).holds C.prog (lone (Frame.enter C.prog f i.args .normal) [] (w.forCall tape i)):=
 ⟨e,λ _ _=>0,⟨#[],args,[]⟩,B,E,(Input.okWide_of_okWideB (base:=0) h).1,(Input.okWide_of_okWideB h).2,⟨⟨ChangeSpec.pre_of_preB z,G⟩,sizedMet_of_sizedB F⟩,by
  simp only[Assume.holds];exact⟨S1,λ _ _ _ _=>rfl,S1,S1,S1⟩⟩
end
theorem Zoj{p:Pinned}{s:OpenSpec}{c:OpenClaim}(kinds:List LaidKind)(e:Bool)(b:Bool×String)(lk:Bool)
  (G:c.holds p s) (M:c.wfByText s=true) (w:c.laidByTextAt .later p kinds e)
  (B:c.start=.entering) (z:c.noBlocks=false/\c.again=false) (K:p.checked.prog.mainIs=some (b.1,b.2.toList)) (L:(!b.1&&b.2.isEmpty&&!lk)=false)
  (I:∀f fn,p.checked.prog.funcNamed c.func=some f->p.checked.prog.funcs[f]?=some fn->lk=p.checked.prog.looks []/\∀(j:Nat)t,fn.params[j]?=some t->p.checked.prog.wantsStandIn t=false)
  (H:true=c.goesBy p.checked.prog) :
  Claim7.holds p (.plain s) { stood:={ row:=c,standIns:=[],harness:=b,looks:=lk },kinds:=[],alts:=[],goes:=true,laidByText:=true,laidKinds:=kinds,laidTests:=e,laidLooks:=.later }:=by
 have E:Claim7.isSixth { stood:={ row:=c,standIns:=[],harness:=b,looks:=lk },kinds:=[] }=false:=by simpa[Claim7.isSixth]using L
 refine⟨Claim7.tied_new_at .later kinds e (Claim7.new_of_sixth G b lk B z K E I) M,λ D F=>?_,w,(λ h=>by cases h),H⟩;cases F
end Go.TM

