/- Lemmas. No conditions. -/
import Derived.Conc.HoldsTime
import Derived.SevenTiedAt
import Derived.Conc.LeavingOf
import Derived.OpenShut
import Derived.Test.YtajkaognaiglhaaGreatDoorB20
set_option linter.all false
open List
namespace Go.TM
variable{W w W':World}{a:Addr}{v:Value}{n i fuel m off N:Nat}{cs:List Value}{H α:Type}{P:Program}{t e:TypeId}{ts:List TypeId}{ds:List (DataW H)}{d:DataW H}{enc:TypeId×Value->H}{x:DataW H×List MemPlace}{z:Array Field}{b:Frame}{fd fn:Func}{tmps args:Array Value}{todo:List Item}{S:Sys P Tk}{g f:FuncId}{cc:C}{Q:Value->Qa Tk->Prop}{U:Qa Tk}{s:ChangeSpec}{p:List MemPlace}{l:Assume}{os:Os}{F:Stop.Interp}{E:List PathCond}{apart I B:Bool}{X:World->Prop}{o:Pinned}{k:OpenSpec}{c:OpenClaim}
section
open Go.ChangeShapes Go.WideShapes Go.RowKit
open Go.ConcM (OsLater)
def Qa.all(W:World):Qa Tk:=⟨λ b=>W.heap[b]?,[],⟨0,.out,none⟩⟩
def Qa.all_ok(W:World):(Qa.all W).ok W:=⟨λ _ _ h=>h,λ _ h=>absurd h not_mem_nil,Pairwise.nil,λ _ h=>absurd h not_mem_nil⟩
def FH(h:W.cell? a=some v):(Qa.all W).sees a v:=by
 unfold World.cell? at h;split at h
 .rename_i c t fr hb;split at h
  .cases h
  .rename_i hs;exact⟨by cases e:a.spot <;> simp_all,.inl ⟨c,t,fr,.inl hb,h⟩⟩
 .cases h
def SA(h:W.cells? 0 a n=some cs):cs.length=n/\Ju (Qa.all W) a cs:=by
 unfold World.cells? at h;rw[if_pos (Nat.zero_le _)]at h;have e:=mapM_some_length h;rw[length_range]at e;refine⟨e,λ i v f=>?_⟩;have w:i<n:=by rw[<- e];exact(List.getElem?_eq_some_iff.1 f).1
 have:=mapM_some_get h i i (by simp[w]);exact FH (this.trans f)
abbrev WW(enc:TypeId×Value->H)(P:Program)(W:World)(fuel:Nat)(t:TypeId)(cs:List Value):Option (DataW H×List MemPlace):=DataW.trod enc P W 0 (λ _=>true) true fuel t cs
def Sz(P:Program)(t:TypeId)(d:DataW H):Prop:=∀k∈d.weights P t,k<=reachBytes
def Nh(h:n<=reachBytes):n<2^60:=by
 have:=reachBytes_lt;omega
def Sz.slice{es rest:List (DataW H)}(h:Sz P t (.slice es rest))(B:P.underlying t=some (.slice e))(w:0<P.bytesOf e):es.length<2^60/\∀d∈es,Sz P e d:=by
 simp only[Sz,DataW.weights,B]at h;refine⟨?_,λ d f k z=>h k ?_⟩
 .have:=Nh (h _ (mem_cons_self ..));have F:es.length*1<=(es.length+rest.length)*P.bytesOf e:=Nat.mul_le_mul O1 w;omega
 .refine mem_cons_of_mem _ (mem_append_left _ ?_);clear h
  induction es with
  |nil=>cases f
  |cons a es E=>
   simp only[DataW.weightsAll,mem_append];rcases mem_cons.1 f with rfl|f
   .exact .inl z
   .exact .inr (E f)
def Sz.agg{e:Array Field}{parts:List (DataW H)}(h:Sz P t (.agg parts))(E:P.underlying t=some (.struct e)){i:Nat}{f:Field}{d:DataW H}(z:e[i]?=some f)(w:parts[i]?=some d):Sz P f.type d:=by
 simp only[Sz,DataW.weights,E]at h;exact λ k B=>h k (DataW.weights_mem_each (by simp[getElem?_map,z]) w k B)
def Sz.arg(h:(DataW.weightsEach P ts ds).all (·<=reachBytes)=true)(w:ts[i]?=some t)(e:ds[i]?=some d):Sz P t d:=λ k f=>by
 have:=all_eq_true.1 h _ (DataW.weights_mem_each w e k f);simpa using this
def MZ(Z:P.underlying t=some (.slice e))(Y:P.cellsOf e=n)(S:0<n)(h:WW enc P W fuel t [v]=some x) :
  ∃(a:Option Addr)(len cap:Nat)(rows:List (List Value))(ys:List (DataW H×List MemPlace))(m:Nat),v=.slice a len cap/\rows.length=len/\ys.length=len /\
   (∀(i:Nat)r,rows[i]?=some r->(∃K,a=some K/\K.spot=none/\r.length=n/\Ju (Qa.all W) (K.add (i*n)) r)/\∃y,ys[i]?=some y/\WW enc P W m e r=some y) /\
   ((∃rest,x.1=.slice (ys.map (·.1)) rest)\/len=0):=by
 rcases DataW.trod_slice Z h with⟨z,T⟩|⟨a,len,cap,f,rest,m,_,z,T,_,_,_,X,B,_,_⟩
 .simp only[List.cons.injEq,and_true]at z;exact⟨none,0,0,[],[],0,z,rfl,rfl,λ i r w=>by simp at w,.inr rfl⟩
 .simp only[List.cons.injEq,and_true]at z;rw[Y]at B
  have key:∀i,i<len->∃r,W.cells? 0 (a.add (i*n)) n=some r/\∃y,f[i]?=some y/\WW enc P W m e r=some y:=by
   intro i I;have F:=B i I;have G:f[i]?=some f[i]:=getElem?_eq_getElem O1;rw[G]at F;obtain⟨r,w,Q⟩:=Option.bind_eq_some_iff.1 F;exact⟨r,w,_,G,Q⟩
  refine⟨some a,len,cap,(range len).map λ i=>(W.cells? 0 (a.add (i*n)) n).getD [],f,m,z,S1,X,λ i r w=>?_,.inl ⟨_,by rw[T]⟩⟩;have I:i<len:=by have:=(List.getElem?_eq_some_iff.1 w).1;simpa using this
  obtain⟨r',E,y,Q,N⟩:=key i I
  have U:r=r':=by
   simp only[getElem?_map,getElem?_range I,Option.map_some,E,Option.getD_some,Option.some.injEq]at w;exact w.symm
  subst U;obtain⟨F,G⟩:=SA E;obtain⟨r0,L,-⟩:=key 0 O1;obtain⟨h3,V⟩:=SA L
  have M:a.spot=none:=by
   have:=V 0 r0[0] (getElem?_eq_getElem O1);have:=this.1;simpa[Addr.add]using this
  exact⟨⟨a,rfl,M,F,G⟩,y,Q,N⟩
def Ep{R:α->List Value->Prop}(V:P.underlying t=some (.slice e))(hn:P.cellsOf e=n)(F:0<n)(hb:0<P.bytesOf e)(h:WW enc P W fuel t [v]=some x)(B:Sz P t x.1)
  (hR:∀m r y,WW enc P W m e r=some y->Sz P e y.1->∃z:α,R z r) :
  ∃(a:Option Addr)(len cap:Nat)(l:List α),v=.slice a len cap/\Zd (Qa.all W) a len n l R/\len<2^60:=by
 obtain⟨a,len,cap,rows,ys,m,rfl,Y,Z,L,K⟩:=MZ V hn F h
 have H:len<2^60/\∀(i:Nat)y,ys[i]?=some y->Sz P e y.1:=by
  rcases K with⟨rest,K⟩|K
  .rw[K]at B;have:=B.slice V hb;rw[length_map,Z]at this;exact⟨this.1,λ i y I=>this.2 _ (mem_map_of_mem (mem_of_getElem? I))⟩
  .exact⟨O1,λ i y I=>by have:=(List.getElem?_eq_some_iff.1 I).1;omega⟩
 have M:∃l:List α,l.length=rows.length/\∀(i:Nat)z,l[i]?=some z->∃r,rows[i]?=some r/\R z r:=by
  have f:∀r∈rows,∃z:α,R z r:=λ r G=>by
   obtain⟨i,E⟩:=getElem?_of_mem G;obtain⟨_,y,I,ht⟩:=L i r E;exact hR m r y ht (H.2 i y I)
  clear L Y
  induction rows with
  |nil=>exact⟨[],rfl,λ i z B=>by simp at B⟩
  |cons r rows ih=>
   obtain⟨l,U,E⟩:=ih λ r G=>f r (mem_cons_of_mem _ G);obtain⟨z,B⟩:=f r (mem_cons_self ..);refine⟨z::l,by simp[U],λ i w S=>?_⟩;cases i with
   |zero=>simp at S;subst S;exact⟨r,rfl,B⟩
   |succ i=>simpa using E i w (by simpa using S)
 obtain⟨l,U,E⟩:=M;refine⟨a,len,cap,l,rfl,⟨O1,λ i z B=>?_⟩,H.1⟩;obtain⟨r,G,T⟩:=E i z B;obtain⟨⟨X,ha,hs,Q,N⟩,_⟩:=L i r G;exact⟨X,r,ha,hs,T,Q,N⟩
def Zc6(B:P.underlying t=some (.struct z))(h:WW enc P W fuel t cs=some x)(I:Sz P t x.1) :
  cs.length=P.cellsOf t/\∃m,∀(i:Nat)(f:Field),z[i]?=some f->∃y,WW enc P W m f.type ((cs.drop f.offset).take (P.cellsOf f.type))=some y/\Sz P f.type y.1:=by
 obtain⟨xs,m,_,rfl,G,H,F⟩:=DataW.trod_struct B h;refine⟨G,m,λ i f e=>?_⟩;have w:i<xs.length:=by have:=(Array.getElem?_eq_some_iff.1 e).1;omega
 have E:xs[i]?=some xs[i]:=getElem?_eq_getElem w;exact⟨xs[i],(F i f e).trans E,I.agg B e (by rw[getElem?_map,E];rfl)⟩
def Zdi{ft:Nat}(h:∀(i:Nat)(f:Field),z[i]?=some f->∃y:DataW H×List MemPlace,WW enc P W m f.type ((cs.drop f.offset).take (P.cellsOf f.type))=some y/\Sz P f.type y.1)
  (w:(z[i]?).map (λ f=>(f.type,f.offset))=some (ft,off)) (B:P.cellsOf ft=n):∃y,WW enc P W m ft ((cs.drop off).take n)=some y/\Sz P ft y.1:=by
 cases e:z[i]? with
 |none=>rw[e]at w;simp at w
 |some f=>
  rw[e]at w;simp only[Option.map_some,Option.some.injEq,Prod.mk.injEq]at w;have:=h i f e;rw[w.1,w.2,B]at this;exact this
def Ia(B:P.funcs[b.fn]?=some fd)(F:b.kind=.normal)(G:fd.results=#[.tmp n])(H:tmps.getD n undef=v)(E:P.inits.idxOf? b.fn=none) :
  stepG P true (Rf { fr b ⟨tmps,[]⟩ todo with mode:=.returning } []) w=.ended (.done v) w (seen P b.fn #[]):=by
 have e:(results fd tmps).runT P w #[]=(.ok v w,#[]):=by
  simp only[results,G,O7];simp[Xc,H]
 obtain⟨f,z⟩:Sem.run P (results fd tmps) w=.ok v w/\Sem.events P (results fd tmps) w #[]=#[]:=by simpa using e
 simp[Rf,stepG,unwind,fr,B,f,z,doReturn,F,GStep.after,E]
def Zds{args:List Value}(k:Zg P g N cc [.t n])(hm:P.follows .mixedOrders=true)(hi:P.inits.idxOf? g=none)(hn:args.length<=N)
  (hq:∀v U',Q v U'->U'.tok=⟨0,.out,none⟩)
  (h:JM S g none cc (λ _ _ _=>False) (λ _ _ _ _=>False) (λ f ds U=>ds=[]/\WT (f n) λ v=>Q v U) (fm args) [] U) :
  J S (Fin P Q) true (Rf (Frame.enter P g args.toArray .normal) []) U:=by
 obtain⟨fd,mu,dets,X,V,W,rfl,hr,-⟩:=k.ok;obtain⟨c,K⟩:∃c,fd.body.getD .skip=c:=⟨_,rfl⟩;rw[K]at V W
 have I:fd.results=#[.tmp n]:=by
  have M:fd.results.toList.mapM (XP P)=some [RV.t n]:=hr;have Z:=mapM_some_length M;obtain⟨r,H⟩:∃r,fd.results.toList=[r]:=length_eq_one_iff.1 (by simpa using Z.symm);rw[H]at M;have B:=mapM_some_get M 0 r rfl
  have e3:r=.tmp n:=by
   cases r with
   |tmp t=>simp only[XP]at B;simp at B;rw[B]
   |cell a t=>
    simp only[XP]at B;split at B
    .split at B
     .cases hs:Jw P t with
      |none=>rw[hs]at B;simp at B
      |some z=>rw[hs]at B;simp at B
     .simp at B
    .simp at B
  apply Array.ext';rw[H,e3]
 let b:Frame:={ (default:Frame)with fn:=g,kind:=.normal }
 have E:Rf (Frame.enter P g args.toArray .normal) []=R b { tmps:=args.toArray++Array.replicate (fd.ntmps-args.toArray.size) undef,defers:=[] } [.code c] []:=by
  simp[Rf,R,Frame.enter,fr,X,V,b];rfl
 rw[E]
 have L:FR fd.ntmps { tmps:=args.toArray++Array.replicate (fd.ntmps-args.toArray.size) undef,defers:=[] } (fm args) []:=by
  refine⟨rfl,S3,λ t=>?_⟩;simp only[fm,Array.getD_eq_getD_getElem?,getD_eq_getElem?_getD,Array.getElem?_append,size_toArray,getElem?_toArray];split
  .rfl
  .rename_i hlt;rw[getElem?_eq_none O1,Array.getElem?_replicate];split <;> rfl
 subst W;refine J.body (fn:=g) (Q:=GH fd.ntmps (λ _ _ _=>False) (λ _ _ _ _=>False) (λ f ds U=>ds=[]/\WT (f n) λ v=>Q v U)) ⟨rfl,rfl,by simp[b],S1⟩ (Hh hm _ L h) λ e a' U' q=>?_;obtain⟨f',Y,G,q⟩:=q;cases e with
 |normal=>exact q.elim
 |exit i=>exact q.elim
 |ret=>
  obtain⟨rfl,q⟩:=q;rw[Q4]at q;refine⟨.inr rfl,λ todo=>.stop ⟨rfl,rfl,hq _ _ q,f' n,q,λ w _=>⟨seen P g #[],?_,λ e he=>absurd (Jk P g #[] e he) S1⟩⟩⟩;obtain⟨T,F⟩:=a';have hd:F=[]:=G.ds;subst hd;exact Ia (b:=b) X rfl I (G.get n) hi
def Ib(h:(Qa.all W).ok W')(f:W'.output=W.output):Below W.heap.size W { W' with os:=W.os,tape:=W.tape }:=by
 have key:∀k,k<W.heap.size->W'.heap[k]?=W.heap[k]?:=λ k w=>by
  have:W.heap[k]?=some W.heap[k]:=Array.getElem?_eq_getElem w;rw[this];exact h.imm k _ this
 refine⟨rfl,rfl,f,?_,key⟩;apply Classical.byContradiction;intro z;have e:W'.heap.size<W.heap.size:=by simpa using z
 have:=key W'.heap.size e;rw[Array.getElem?_eq_none (Nat.le_refl _),Array.getElem?_eq_getElem e]at this;cases this
def S8(E:laidOutB P=true){W W':World}(B:Below W.heap.size W W'):∀{ts:List TypeId}{vs:List Value}{ds:List (DataW H)}{ps:List MemPlace},ts.all (λ t=>P.readableRec t&&decide (t<P.types.size))=true ->
  DataW.TrodAll enc P W 0 (λ _=>true) true ts vs ds ps->(∀x∈ps,x.block<W.heap.size)->DataW.TrodAll enc P W' 0 (λ b=>decide (b<W.heap.size)) true ts vs ds ps
 |[],[],[],_,_,h,_=>h
 |t::ts,v::vs,d::ds,_,w,⟨p,q,h,F,e⟩,f=>by
  subst e;simp only[all_cons,Bool.and_eq_true,decide_eq_true_eq]at w;exact⟨p,q,Below.trod E w.1.1 w.1.2 h B λ x z=>f x (mem_append_left _ z),S8 E B (by simpa using w.2) F λ x z=>f x (mem_append_right _ z),rfl⟩
def LX{N:TypeId}(U:laidOutB P=true)(V:fn.params.toList.all (λ t=>P.readableRec t&&decide (t<P.types.size))=true)(f:s.vars=[])
  (L:DataW.Whole enc P fn.params.toList s.vars false W args.toList ds [] p) (G:fn.resultTypes=#[N]) (Y:P.underlying N=some .bool) (B:(s.fn H (ds++[])).results=[.lit (.bool true)]) (e:(s.fn H (ds++[])).args=ds) (I:(s.fn H (ds++[])).vars=[])
  (F:(Qa.all W).ok W') (z:W'.output=W.output):s.post enc P fn false true false false W args (.bool true) { W' with os:=W.os }:=by
 have M:=Ib F z;have E:=L.lt;obtain⟨q,r,K,Q,rfl,S,T⟩:=L;have X:∀x∈q,x.block<W.heap.size:=λ x Z=>by simpa using E x (mem_append_left _ Z)
 refine⟨ds,[],q++r,[],q,[],⟨q,r,K,Q,rfl,S,T⟩,?_,?_,?_,?_,λ h=>by cases h⟩
 .rw[B,G];exact trodAll_mk1 ⟨1,by simp[DataW.trod,Y,Value.cells]⟩
 .rw[e];exact DataW.TrodAll.of_heap (w:={ W' with os:=W.os,tape:=W.tape }) (w':={ W' with os:=W.os }) rfl (S8 U M V K X)
 .rw[I,f];rfl
 .have:=M.frame (λ p=>p∈q++r/\(p∈[]\/p∈q\/p∈[]));exact⟨this.1,this.2.1,this.2.2⟩
def Zcs{Q:TypeId}(hl:laidOutB P=true)(hp:fn.params.toList.all (λ t=>P.readableRec t&&decide (t<P.types.size))=true)(w:s.vars=[])
  (Z:DataW.Whole enc P fn.params.toList s.vars false W args.toList ds [] p) (K:fn.resultTypes=#[Q]) (hu:P.underlying Q=some .bool) (B:(s.fn H (ds++[])).results=[.lit (.bool true)]) (e:(s.fn H (ds++[])).args=ds) (L:(s.fn H (ds++[])).vars=[])
  (Y:J (Zj P t N) (Fin P λ v U=>v=.bool true/\(Qa.all W).lg U) true (Rf (Frame.enter P n args .normal) []) (Qa.all W)) :
  ∃M last o w' E,runNT P (M+1) (Conc.solo (Conc.G (Frame.enter P n args .normal) []) W) #[]=(.ended o w',E)/\runN P M (Conc.solo (Conc.G (Frame.enter P n args .normal) []) W)=.next last /\
   step P last=.ended o w'/\Conc.Good P (λ v W'=>s.post enc P fn false true false false W args v { W' with os:=W.os }/\OsLater W.os W'.os) last o w' E:=by
 obtain⟨M,last,o,w',E,S,T,V,X⟩:=Y.runs (Qa.all_ok W) rfl;refine⟨M,last,o,w',E,S,T,V,SG X λ v W'⟨U,⟨hv,F⟩,I,ho,z⟩=>?_⟩;subst hv;exact⟨LX hl hp w Z K hu B e L ⟨λ b o h=>I.imm b o (F.imm b o h),λ _ h=>absurd h not_mem_nil,Pairwise.nil,λ _ h=>absurd h not_mem_nil⟩ z,ho⟩
def Zan{C:Checked}
  (hX:∀(w w':World),w.heap=w'.heap->X w->X w')
  (own:ownKnob C.prog.godebug=none) (K:os.Started) (U:C.prog.funcs[f]?=some fn)
  (L:∃(w:World)(tape:Tape)(i:Input),w.os=os/\(w.forCall tape i).Shaped C.prog/\i.vars=[]/\Input.okWide C.prog (w.forCall tape i) .any w.heap.size f i /\
   ((s.pre enc C.prog fn E apart (w.forCall tape i).memory i.args/\X (w.forCall tape i).memory)/\sizedMet enc C.prog fn (OpenSpec.ofChange s) apart (w.forCall tape i).memory i.args)/\l.holds C.prog (lone (Frame.enter C.prog f i.args .normal) [] (w.forCall tape i)))
  (runs:∀(W:World)(base:Nat)(args:Array Value)(ds gs:List (DataW H))(z:List MemPlace),
   (∀(j:Nat)t v,fn.params[j]?=some t->args[j]?=some v->Value.okWide C.prog W .any base t v) ->
   DataW.Whole enc C.prog fn.params.toList s.vars apart W args.toList ds gs z ->
   (DataW.weightsEach C.prog (fn.params.toList++s.plain.varTypes C.prog) (ds++gs)).all (·<=reachBytes)=true->X W ->
   ∃M last o w' S,runNT C.prog (M+1) (Conc.solo (Conc.G (Frame.enter C.prog f args .normal) []) W) #[]=(.ended o w',S)/\runN C.prog M (Conc.solo (Conc.G (Frame.enter C.prog f args .normal) []) W)=.next last /\
    step C.prog last=.ended o w'/\Conc.Good C.prog (λ v W'=>s.post enc C.prog fn apart I B false W args v { W' with os:=W.os }/\OsLater W.os W'.os) last o w' S) :
  ReturnsInLeavingWide l C os f .any (λ w args=>(s.pre enc C.prog fn E apart w args/\X w)/\sizedMet enc C.prog fn (OpenSpec.ofChange s) apart w args) ((OpenSpec.ofChange s).postWith enc C.prog fn F (outsideKept [.timePasses]) apart I B):=by
 refine returnsInLeavingWide_of_good own K L ?_;intro w tape i _ _ _ V P _;obtain⟨_,_,_,T,N,_,_,_,_,Q⟩:=V;have e:T=fn:=Option.some.inj (N.symm.trans U);subst e;obtain⟨⟨⟨ds,gs,z,hw,hc⟩,hx⟩,hz⟩:=P;have Y:=DataW.Whole.of_heap (w':=w.forCall tape i) (by rfl) hw;obtain⟨M,last,o,w',S,h1,h2,h3,h4⟩:=runs (w.forCall tape i) w.heap.size i.args ds gs z Q Y (hz.weights hw) (hX (w.forCall tape i).memory (w.forCall tape i) rfl hx);obtain⟨v,e,Z,r1,r2,r3,r4⟩:=h4;exact⟨M,last,o,w',S,h1,h2,h3,v,e,postWith_blind (postWith_of_post Z.1 Z.2),r1,r2,r3,r4⟩
def Q97{C:Checked}{e:List PathCond}(z:World)(args:Array Value)(fuel:Nat)(F:z.os=os)
  (G:(z.forCall (λ _ _=>0) ⟨#[],args,[]⟩).Shaped C.prog)
  (B:Input.okWideB C.prog (z.forCall (λ _ _=>0) ⟨#[],args,[]⟩) f ⟨#[],args,[]⟩=true)
  (E:s.preB enc C.prog fn e apart (z.forCall (λ _ _=>0) ⟨#[],args,[]⟩).memory args fuel=true)
  (H:s.sizedB enc C.prog fn apart (z.forCall (λ _ _=>0) ⟨#[],args,[]⟩).memory args fuel=true)
  (I:X (z.forCall (λ _ _=>0) ⟨#[],args,[]⟩).memory) :
  ∃(w:World)(tape:Tape)(i:Input),w.os=os/\(w.forCall tape i).Shaped C.prog/\i.vars=[]/\Input.okWide C.prog (w.forCall tape i) .any w.heap.size f i /\
   ((s.pre enc C.prog fn e apart (w.forCall tape i).memory i.args/\X (w.forCall tape i).memory)/\sizedMet enc C.prog fn (OpenSpec.ofChange s) apart (w.forCall tape i).memory i.args)/\({ calm:=true }:Assume).holds C.prog (lone (Frame.enter C.prog f i.args .normal) [] (w.forCall tape i)):=
 ⟨z,λ _ _=>0,⟨#[],args,[]⟩,F,G,(Input.okWide_of_okWideB (base:=0) B).1,(Input.okWide_of_okWideB B).2,⟨⟨ChangeSpec.pre_of_preB E,I⟩,sizedMet_of_sizedB H⟩,by
  simp only[Assume.holds];exact⟨S1,λ _ _ _ _=>rfl,S1,S1,S1⟩⟩
def Zb5(kinds:List LaidKind)(w:Bool)(e:Bool×String)(lk:Bool)
  (H:c.holds o k) (N:c.wfByText k=true) (z:c.laidByTextAt .later o kinds w)
  (E:c.start=.entering) (B:c.noBlocks=false/\c.again=false) (L:o.checked.prog.mainIs=some (e.1,e.2.toList)) (M:(!e.1&&e.2.isEmpty&&!lk)=false)
  (K:∀f fn,o.checked.prog.funcNamed c.func=some f->o.checked.prog.funcs[f]?=some fn->lk=o.checked.prog.looks []/\∀(j:Nat)t,fn.params[j]?=some t->o.checked.prog.wantsStandIn t=false)
  (I:true=c.goesBy o.checked.prog) :
  Claim7.holds o (.plain k) { stood:={ row:=c,standIns:=[],harness:=e,looks:=lk },kinds:=[],alts:=[],goes:=true,laidByText:=true,laidKinds:=kinds,laidTests:=w,laidLooks:=.later }:=by
 have F:Claim7.isSixth { stood:={ row:=c,standIns:=[],harness:=e,looks:=lk },kinds:=[] }=false:=by simpa[Claim7.isSixth]using M
 refine⟨Claim7.tied_new_at .later kinds w (Claim7.new_of_sixth H e lk E B L F K) N,λ D G=>?_,z,(λ h=>by cases h),I⟩;cases G
