/- Lemmas. No conditions. -/
import Derived.Conc.HoldsTime
import Derived.SevenTiedAt
import Derived.Conc.LeavingOf
import Derived.OpenShut
import Derived.Test.YtcakpkianonbkaaGreatDoorB38
set_option linter.all false
open List
namespace Go.TM
open Go.ChangeShapes Go.WideShapes Go.RowKit
open Go.ConcM (OsLater)
def Qa.all(W:World):Qa Tk:=⟨λ b=>W.heap[b]?,[],⟨0,.out,none⟩⟩
def Qa.all_ok(W:World):(Qa.all W).ok W:=⟨λ _ _ h=>h,λ _ h=>absurd h not_mem_nil,Pairwise.nil,λ _ h=>absurd h not_mem_nil⟩
def Ziw{W:World}{a:Addr}{v:Value}(h:W.cell? a=some v):(Qa.all W).sees a v:=by
 unfold World.cell? at h;split at h
 .rename_i c t fr hb;split at h
  .cases h
  .rename_i hs;exact⟨by cases e:a.spot <;> simp_all,.inl ⟨c,t,fr,.inl hb,h⟩⟩
 .cases h
def Qp9{W:World}{a:Addr}{n:Nat}{cs:List Value}(h:W.cells? 0 a n=some cs):cs.length=n/\Z7 (Qa.all W) a cs:=by
 unfold World.cells? at h;rw[if_pos (Nat.zero_le _)]at h;have hl:=mapM_some_length h;rw[length_range]at hl;refine⟨hl,λ i v hv=>?_⟩;have hi:i<n:=by rw[<- hl];exact(List.getElem?_eq_some_iff.1 hv).1
 have:=mapM_some_get h i i (by simp[hi]);exact Ziw (this.trans hv)
section
variable{H:Type}{enc:TypeId×Value->H}{P:Program}{W:World}{t e:TypeId}{n fuel:Nat}{x:DataW H×List MemPlace}{v:Value}{cs:List Value}
abbrev Trd(enc:TypeId×Value->H)(P:Program)(W:World)(fuel:Nat)(t:TypeId)(cs:List Value):Option (DataW H×List MemPlace):=DataW.trod enc P W 0 (λ _=>true) true fuel t cs
def Sz(P:Program)(t:TypeId)(d:DataW H):Prop:=∀k∈d.weights P t,k<=reachBytes
def Zqw{k:Nat}(h:k<=reachBytes):k<2^60:=by
 have:=reachBytes_lt;omega
def Sz.slice{es rest:List (DataW H)}(h:Sz P t (.slice es rest))(hu:P.underlying t=some (.slice e))(hb:0<P.bytesOf e):es.length<2^60/\∀d∈es,Sz P e d:=by
 simp only[Sz,DataW.weights,hu]at h;refine⟨?_,λ d hd k hk=>h k ?_⟩
 .have:=Zqw (h _ (mem_cons_self ..));have h2:es.length*1<=(es.length+rest.length)*P.bytesOf e:=Nat.mul_le_mul (by omega) hb;omega
 .refine mem_cons_of_mem _ (mem_append_left _ ?_);clear h
  induction es with
  |nil=>cases hd
  |cons a es ih=>
   simp only[DataW.weightsAll,mem_append];rcases mem_cons.1 hd with rfl|hd
   .exact .inl hk
   .exact .inr (ih hd)
def Sz.agg{fs:Array Field}{parts:List (DataW H)}(h:Sz P t (.agg parts))(hu:P.underlying t=some (.struct fs)){i:Nat}{f:Field}{d:DataW H}(hf:fs[i]?=some f)(hd:parts[i]?=some d):Sz P f.type d:=by
 simp only[Sz,DataW.weights,hu]at h;exact λ k hk=>h k (DataW.weights_mem_each (by simp[getElem?_map,hf]) hd k hk)
def Sz.arg{ts:List TypeId}{ds:List (DataW H)}(h:(DataW.weightsEach P ts ds).all (·<=reachBytes)=true){i:Nat}{d:DataW H}(ht:ts[i]?=some t)(hd:ds[i]?=some d):Sz P t d:=λ k hk=>by
 have:=all_eq_true.1 h _ (DataW.weights_mem_each ht hd k hk);simpa using this
def Zrb(hu:P.underlying t=some (.slice e))(hn:P.cellsOf e=n)(hpos:0<n)(h:Trd enc P W fuel t [v]=some x) :
  ∃(a:Option Addr)(len cap:Nat)(rows:List (List Value))(ys:List (DataW H×List MemPlace))(m:Nat),v=.slice a len cap/\rows.length=len/\ys.length=len /\
   (∀(i:Nat)r,rows[i]?=some r->(∃ad,a=some ad/\ad.spot=none/\r.length=n/\Z7 (Qa.all W) (ad.add (i*n)) r)/\∃y,ys[i]?=some y/\Trd enc P W m e r=some y) /\
   ((∃rest,x.1=.slice (ys.map (·.1)) rest)\/len=0):=by
 rcases DataW.trod_slice hu h with⟨hc,hx⟩|⟨a,len,cap,elems,rest,m,_,hc,hx,_,_,_,hl,hel,_,_⟩
 .simp only[List.cons.injEq,and_true]at hc;exact⟨none,0,0,[],[],0,hc,rfl,rfl,λ i r hr=>by simp at hr,.inr rfl⟩
 .simp only[List.cons.injEq,and_true]at hc;rw[hn]at hel
  have key:∀i,i<len->∃r,W.cells? 0 (a.add (i*n)) n=some r/\∃y,elems[i]?=some y/\Trd enc P W m e r=some y:=by
   intro i hi;have h1:=hel i hi;have h2:elems[i]?=some elems[i]:=getElem?_eq_getElem (by omega);rw[h2]at h1;obtain⟨r,hr,hy⟩:=Option.bind_eq_some_iff.1 h1;exact⟨r,hr,_,h2,hy⟩
  refine⟨some a,len,cap,(range len).map λ i=>(W.cells? 0 (a.add (i*n)) n).getD [],elems,m,hc,by simp,hl,λ i r hr=>?_,.inl ⟨_,by rw[hx]⟩⟩;have hi:i<len:=by have:=(List.getElem?_eq_some_iff.1 hr).1;simpa using this
  obtain⟨r',hr',y,hy,hty⟩:=key i hi
  have e1:r=r':=by
   simp only[getElem?_map,getElem?_range hi,Option.map_some,hr',Option.getD_some,Option.some.injEq]at hr;exact hr.symm
  subst e1;obtain⟨h1,h2⟩:=Qp9 hr';obtain⟨r0,hr0,-⟩:=key 0 (by omega);obtain⟨h3,h4⟩:=Qp9 hr0
  have hsp:a.spot=none:=by
   have:=h4 0 r0[0] (getElem?_eq_getElem (by omega));have:=this.1;simpa[Addr.add]using this
  exact⟨⟨a,rfl,hsp,h1,h2⟩,y,hy,hty⟩
def Qdv{α:Type}{R:α->List Value->Prop}(hu:P.underlying t=some (.slice e))(hn:P.cellsOf e=n)(hpos:0<n)(hb:0<P.bytesOf e)(h:Trd enc P W fuel t [v]=some x)(hz:Sz P t x.1)
  (hR:∀m r y,Trd enc P W m e r=some y->Sz P e y.1->∃z:α,R z r) :
  ∃(a:Option Addr)(len cap:Nat)(l:List α),v=.slice a len cap/\Qx (Qa.all W) a len n l R/\len<2^60:=by
 obtain⟨a,len,cap,rows,ys,m,rfl,h1,h2,h3,h4⟩:=Zrb hu hn hpos h
 have hsz:len<2^60/\∀(i:Nat)y,ys[i]?=some y->Sz P e y.1:=by
  rcases h4 with⟨rest,h4⟩|h4
  .rw[h4]at hz;have:=hz.slice hu hb;rw[length_map,h2]at this;exact⟨this.1,λ i y hy=>this.2 _ (mem_map_of_mem (mem_of_getElem? hy))⟩
  .exact⟨by omega,λ i y hy=>by have:=(List.getElem?_eq_some_iff.1 hy).1;omega⟩
 have hex:∃l:List α,l.length=rows.length/\∀(i:Nat)z,l[i]?=some z->∃r,rows[i]?=some r/\R z r:=by
  have hall:∀r∈rows,∃z:α,R z r:=λ r hr=>by
   obtain⟨i,hi⟩:=getElem?_of_mem hr;obtain⟨_,y,hy,ht⟩:=h3 i r hi;exact hR m r y ht (hsz.2 i y hy)
  clear h3 h1
  induction rows with
  |nil=>exact⟨[],rfl,λ i z hz=>by simp at hz⟩
  |cons r rows ih=>
   obtain⟨l,hl,hi⟩:=ih λ r hr=>hall r (mem_cons_of_mem _ hr);obtain⟨z,hz⟩:=hall r (mem_cons_self ..);refine⟨z::l,by simp[hl],λ i w hw=>?_⟩;cases i with
   |zero=>simp at hw;subst hw;exact⟨r,rfl,hz⟩
   |succ i=>simpa using hi i w (by simpa using hw)
 obtain⟨l,hl,hi⟩:=hex;refine⟨a,len,cap,l,rfl,⟨by omega,λ i z hz=>?_⟩,hsz.1⟩;obtain⟨r,hr,hzr⟩:=hi i z hz;obtain⟨⟨ad,ha,hs,hrl,hrd⟩,_⟩:=h3 i r hr;exact⟨ad,r,ha,hs,hzr,hrl,hrd⟩
def Qdu{fs:Array Field}(hu:P.underlying t=some (.struct fs))(h:Trd enc P W fuel t cs=some x)(hz:Sz P t x.1) :
  cs.length=P.cellsOf t/\∃m,∀(i:Nat)(f:Field),fs[i]?=some f->∃y,Trd enc P W m f.type ((cs.drop f.offset).take (P.cellsOf f.type))=some y/\Sz P f.type y.1:=by
 obtain⟨xs,m,_,rfl,hl,hxl,hf⟩:=DataW.trod_struct hu h;refine⟨hl,m,λ i f hi=>?_⟩;have hlt:i<xs.length:=by have:=(Array.getElem?_eq_some_iff.1 hi).1;omega
 have hx:xs[i]?=some xs[i]:=getElem?_eq_getElem hlt;exact⟨xs[i],(hf i f hi).trans hx,hz.agg hu hi (by rw[getElem?_map,hx];rfl)⟩
def Z1{fs:Array Field}{m i ft off:Nat}(h:∀(i:Nat)(f:Field),fs[i]?=some f->∃y:DataW H×List MemPlace,Trd enc P W m f.type ((cs.drop f.offset).take (P.cellsOf f.type))=some y/\Sz P f.type y.1)
  (hf:(fs[i]?).map (λ f=>(f.type,f.offset))=some (ft,off)) (hn:P.cellsOf ft=n):∃y,Trd enc P W m ft ((cs.drop off).take n)=some y/\Sz P ft y.1:=by
 cases e:fs[i]? with
 |none=>rw[e]at hf;simp at hf
 |some f=>
  rw[e]at hf;simp only[Option.map_some,Option.some.injEq,Prod.mk.injEq]at hf;have:=h i f e;rw[hf.1,hf.2,hn]at this;exact this
end
def Zjp{P:Program}{b:Frame}{fd:Func}{n:Nat}{tmps:Array Value}{v:Value}{w:World}{todo:List Item}(hf:P.funcs[b.fn]?=some fd)(hk:b.kind=.normal)(hr:fd.results=#[.tmp n])(hv:tmps.getD n undef=v)(hi:P.inits.idxOf? b.fn=none) :
  stepG P true (Rf { fr b ⟨tmps,[]⟩ todo with mode:=.returning } []) w=.ended (.done v) w (seen P b.fn #[]):=by
 have hrun:(results fd tmps).runT P w #[]=(.ok v w,#[]):=by
  simp only[results,hr,Q1b];simp[Qgw,hv]
 obtain⟨h1,h2⟩:Sem.run P (results fd tmps) w=.ok v w/\Sem.events P (results fd tmps) w #[]=#[]:=by simpa using hrun
 simp[Rf,stepG,unwind,fr,hf,h1,h2,doReturn,hk,GStep.after,hi]
def Zuq{P:Program}{S:Sys P Tk}{g:FuncId}{N n:Nat}{cc:C}{Q:Value->Qa Tk->Prop}{args:List Value}{U:Qa Tk}(k:Q5 P g N cc [.t n])(hm:P.follows .mixedOrders=true)(hi:P.inits.idxOf? g=none)(hn:args.length<=N)
  (hq:∀v U',Q v U'->U'.tok=⟨0,.out,none⟩)
  (h:wpC S g none cc (λ _ _ _=>False) (λ _ _ _ _=>False) (λ f ds U=>ds=[]/\Qe1 (f n) λ v=>Q v U) (fm args) [] U) :
  J S (Fin P Q) true (Rf (Frame.enter P g args.toArray .normal) []) U:=by
 obtain⟨fd,mu,dets,hf,hb,hc,rfl,hr,-⟩:=k.ok;obtain⟨c,hbc⟩:∃c,fd.body.getD .skip=c:=⟨_,rfl⟩;rw[hbc]at hb hc
 have hres:fd.results=#[.tmp n]:=by
  have hl:fd.results.toList.mapM (Qxd P)=some [RV.t n]:=hr;have e1:=mapM_some_length hl;obtain⟨r,hr1⟩:∃r,fd.results.toList=[r]:=length_eq_one_iff.1 (by simpa using e1.symm);rw[hr1]at hl;have e2:=mapM_some_get hl 0 r rfl
  have e3:r=.tmp n:=by
   cases r with
   |tmp t=>simp only[Qxd]at e2;simp at e2;rw[e2]
   |cell a t=>
    simp only[Qxd]at e2;split at e2
    .split at e2
     .cases hs:Jw P t with
      |none=>rw[hs]at e2;simp at e2
      |some z=>rw[hs]at e2;simp at e2
     .simp at e2
    .simp at e2
  apply Array.ext';rw[hr1,e3]
 let b:Frame:={ (default:Frame)with fn:=g,kind:=.normal }
 have henter:Rf (Frame.enter P g args.toArray .normal) []=R b { tmps:=args.toArray++Array.replicate (fd.ntmps-args.toArray.size) undef,defers:=[] } [.code c] []:=by
  simp[Rf,R,Frame.enter,fr,hf,hb,b];rfl
 rw[henter]
 have hfr:FR fd.ntmps { tmps:=args.toArray++Array.replicate (fd.ntmps-args.toArray.size) undef,defers:=[] } (fm args) []:=by
  refine⟨rfl,by simp;omega,λ t=>?_⟩;simp only[fm,Array.getD_eq_getD_getElem?,getD_eq_getElem?_getD,Array.getElem?_append,size_toArray,getElem?_toArray];split
  .rfl
  .rename_i hlt;rw[getElem?_eq_none (by omega),Array.getElem?_replicate];split <;> rfl
 subst hc;refine J.body (fn:=g) (Q:=Qxn fd.ntmps (λ _ _ _=>False) (λ _ _ _ _=>False) (λ f ds U=>ds=[]/\Qe1 (f n) λ v=>Q v U)) ⟨rfl,rfl,by simp[b],by simp⟩ (Qc9 hm _ hfr h) λ e a' U' q=>?_;obtain⟨f',ds',hf',q⟩:=q;cases e with
 |normal=>exact q.elim
 |exit i=>exact q.elim
 |ret=>
  obtain⟨rfl,q⟩:=q;rw[Qz]at q;refine⟨.inr rfl,λ todo=>.stop ⟨rfl,rfl,hq _ _ q,f' n,q,λ w _=>⟨seen P g #[],?_,λ e he=>absurd (Jp P g #[] e he) (by simp)⟩⟩⟩;obtain⟨tmps',dfs'⟩:=a';have hd:dfs'=[]:=hf'.ds;subst hd;exact Zjp (b:=b) hf rfl hres (hf'.get n) hi
def Zjq{W W':World}(h:(Qa.all W).ok W')(hout:W'.output=W.output):Below W.heap.size W { W' with os:=W.os,tape:=W.tape }:=by
 have key:∀k,k<W.heap.size->W'.heap[k]?=W.heap[k]?:=λ k hk=>by
  have:W.heap[k]?=some W.heap[k]:=Array.getElem?_eq_getElem hk;rw[this];exact h.imm k _ this
 refine⟨rfl,rfl,hout,?_,key⟩;apply Classical.byContradiction;intro hn;have hlt:W'.heap.size<W.heap.size:=by simpa using hn
 have:=key W'.heap.size hlt;rw[Array.getElem?_eq_none (Nat.le_refl _),Array.getElem?_eq_getElem hlt]at this;cases this
section
variable{H:Type}{enc:TypeId×Value->H}{P:Program}
def Qjt(hl:laidOutB P=true){W W':World}(hb:Below W.heap.size W W'):∀{ts:List TypeId}{vs:List Value}{ds:List (DataW H)}{ps:List MemPlace},ts.all (λ t=>P.readableRec t&&decide (t<P.types.size))=true ->
  DataW.TrodAll enc P W 0 (λ _=>true) true ts vs ds ps->(∀x∈ps,x.block<W.heap.size)->DataW.TrodAll enc P W' 0 (λ b=>decide (b<W.heap.size)) true ts vs ds ps
 |[],[],[],_,_,h,_=>h
 |t::ts,v::vs,d::ds,_,hr,⟨p,q,h,hs,e⟩,hlt=>by
  subst e;simp only[all_cons,Bool.and_eq_true,decide_eq_true_eq]at hr;exact⟨p,q,Below.trod hl hr.1.1 hr.1.2 h hb λ x hx=>hlt x (mem_append_left _ hx),Qjt hl hb (by simpa using hr.2) hs λ x hx=>hlt x (mem_append_right _ hx),rfl⟩
def Zn2{fn:Func}{s:ChangeSpec}{W W':World}{args:Array Value}{ds:List (DataW H)}{p:List MemPlace}{tb:TypeId}(hl:laidOutB P=true)(hp:fn.params.toList.all (λ t=>P.readableRec t&&decide (t<P.types.size))=true)(hvars:s.vars=[])
  (hW:DataW.Whole enc P fn.params.toList s.vars false W args.toList ds [] p) (hrt:fn.resultTypes=#[tb]) (hu:P.underlying tb=some .bool) (hres:(s.fn H (ds++[])).results=[.lit (.bool true)]) (hargs:(s.fn H (ds++[])).args=ds) (hvs:(s.fn H (ds++[])).vars=[])
  (hok:(Qa.all W).ok W') (hout:W'.output=W.output):s.post enc P fn false true false false W args (.bool true) { W' with os:=W.os }:=by
 have hb:=Zjq hok hout;have hlt:=hW.lt;obtain⟨q,r,h1,h2,rfl,h3,h4⟩:=hW;have hq:∀x∈q,x.block<W.heap.size:=λ x hx=>by simpa using hlt x (mem_append_left _ hx)
 refine⟨ds,[],q++r,[],q,[],⟨q,r,h1,h2,rfl,h3,h4⟩,?_,?_,?_,?_,λ h=>by cases h⟩
 .rw[hres,hrt];exact trodAll_mk1 ⟨1,by simp[DataW.trod,hu,Value.cells]⟩
 .rw[hargs];exact DataW.TrodAll.of_heap (w:={ W' with os:=W.os,tape:=W.tape }) (w':={ W' with os:=W.os }) rfl (Qjt hl hb hp h1 hq)
 .rw[hvs,hvars];rfl
 .have:=hb.frame (λ p=>p∈q++r/\(p∈[]\/p∈q\/p∈[]));exact⟨this.1,this.2.1,this.2.2⟩
def Zts{t:TypeId}{N f:Nat}{fn:Func}{s:ChangeSpec}{W:World}{args:Array Value}{ds:List (DataW H)}{p:List MemPlace}{tb:TypeId}(hl:laidOutB P=true)(hp:fn.params.toList.all (λ t=>P.readableRec t&&decide (t<P.types.size))=true)(hvars:s.vars=[])
  (hW:DataW.Whole enc P fn.params.toList s.vars false W args.toList ds [] p) (hrt:fn.resultTypes=#[tb]) (hu:P.underlying tb=some .bool) (hres:(s.fn H (ds++[])).results=[.lit (.bool true)]) (hargs:(s.fn H (ds++[])).args=ds) (hvs:(s.fn H (ds++[])).vars=[])
  (hJ:J (Zb P t N) (Fin P λ v U=>v=.bool true/\(Qa.all W).lg U) true (Rf (Frame.enter P f args .normal) []) (Qa.all W)) :
  ∃M last o w' t',runNT P (M+1) (Conc.solo (Conc.G (Frame.enter P f args .normal) []) W) #[]=(.ended o w',t')/\runN P M (Conc.solo (Conc.G (Frame.enter P f args .normal) []) W)=.next last /\
   step P last=.ended o w'/\Conc.Good P (λ v W'=>s.post enc P fn false true false false W args v { W' with os:=W.os }/\OsLater W.os W'.os) last o w' t':=by
 obtain⟨M,last,o,w',t',h1,h2,h3,h4⟩:=hJ.runs (Qa.all_ok W) rfl;refine⟨M,last,o,w',t',h1,h2,h3,Qrp h4 λ v W'⟨U,⟨hv,hlg⟩,hok,ho,hout⟩=>?_⟩;subst hv;exact⟨Zn2 hl hp hvars hW hrt hu hres hargs hvs ⟨λ b o h=>hok.imm b o (hlg.imm b o h),λ _ h=>absurd h not_mem_nil,Pairwise.nil,λ _ h=>absurd h not_mem_nil⟩ hout,ho⟩
end
section
variable{H:Type}{enc:TypeId×Value->H}
def Zru{a:Assume}{C:Checked}{os:Os}{f:FuncId}{fn:Func}{s:ChangeSpec}{F:Stop.Interp}{conds:List PathCond}{apart fresh handsOn:Bool}{X:World->Prop}
  (hX:∀(w w':World),w.heap=w'.heap->X w->X w')
  (own:ownKnob C.prog.godebug=none) (started:os.Started) (hfn:C.prog.funcs[f]?=some fn)
  (witness:∃(w:World)(tape:Tape)(i:Input),w.os=os/\(w.forCall tape i).Shaped C.prog/\i.vars=[]/\Input.okWide C.prog (w.forCall tape i) .any w.heap.size f i /\
   ((s.pre enc C.prog fn conds apart (w.forCall tape i).memory i.args/\X (w.forCall tape i).memory)/\sizedMet enc C.prog fn (OpenSpec.ofChange s) apart (w.forCall tape i).memory i.args)/\a.holds C.prog (lone (Frame.enter C.prog f i.args .normal) [] (w.forCall tape i)))
  (runs:∀(W:World)(base:Nat)(args:Array Value)(ds gs:List (DataW H))(before:List MemPlace),
   (∀(j:Nat)t v,fn.params[j]?=some t->args[j]?=some v->Value.okWide C.prog W .any base t v) ->
   DataW.Whole enc C.prog fn.params.toList s.vars apart W args.toList ds gs before ->
   (DataW.weightsEach C.prog (fn.params.toList++s.plain.varTypes C.prog) (ds++gs)).all (·<=reachBytes)=true->X W ->
   ∃M last o w' t',runNT C.prog (M+1) (Conc.solo (Conc.G (Frame.enter C.prog f args .normal) []) W) #[]=(.ended o w',t')/\runN C.prog M (Conc.solo (Conc.G (Frame.enter C.prog f args .normal) []) W)=.next last /\
    step C.prog last=.ended o w'/\Conc.Good C.prog (λ v W'=>s.post enc C.prog fn apart fresh handsOn false W args v { W' with os:=W.os }/\OsLater W.os W'.os) last o w' t') :
  ReturnsInLeavingWide a C os f .any (λ w args=>(s.pre enc C.prog fn conds apart w args/\X w)/\sizedMet enc C.prog fn (OpenSpec.ofChange s) apart w args) ((OpenSpec.ofChange s).postWith enc C.prog fn F (outsideKept [.timePasses]) apart fresh handsOn):=by
 refine returnsInLeavingWide_of_good own started witness ?_;intro w tape i _ _ _ hok hpre _;obtain⟨_,_,_,fn',hfn',_,_,_,_,hval⟩:=hok;have e:fn'=fn:=Option.some.inj (hfn'.symm.trans hfn);subst e;obtain⟨⟨⟨ds,gs,before,hw,hc⟩,hx⟩,hz⟩:=hpre;have hw':=DataW.Whole.of_heap (w':=w.forCall tape i) (by rfl) hw;obtain⟨M,last,o,w',t',h1,h2,h3,h4⟩:=runs (w.forCall tape i) w.heap.size i.args ds gs before hval hw' (hz.weights hw) (hX (w.forCall tape i).memory (w.forCall tape i) rfl hx);obtain⟨v,e,hp,r1,r2,r3,r4⟩:=h4;exact⟨M,last,o,w',t',h1,h2,h3,v,e,postWith_blind (postWith_of_post hp.1 hp.2),r1,r2,r3,r4⟩
def Zre{C:Checked}{os:Os}{f:FuncId}{fn:Func}{s:ChangeSpec}{conds:List PathCond}{apart:Bool}{X:World->Prop}(w0:World)(args:Array Value)(fuel:Nat)(hos:w0.os=os)
  (hsh:(w0.forCall (λ _ _=>0) ⟨#[],args,[]⟩).Shaped C.prog)
  (hok:Input.okWideB C.prog (w0.forCall (λ _ _=>0) ⟨#[],args,[]⟩) f ⟨#[],args,[]⟩=true)
  (hpre:s.preB enc C.prog fn conds apart (w0.forCall (λ _ _=>0) ⟨#[],args,[]⟩).memory args fuel=true)
  (hsz:s.sizedB enc C.prog fn apart (w0.forCall (λ _ _=>0) ⟨#[],args,[]⟩).memory args fuel=true)
  (hx:X (w0.forCall (λ _ _=>0) ⟨#[],args,[]⟩).memory) :
  ∃(w:World)(tape:Tape)(i:Input),w.os=os/\(w.forCall tape i).Shaped C.prog/\i.vars=[]/\Input.okWide C.prog (w.forCall tape i) .any w.heap.size f i /\
   ((s.pre enc C.prog fn conds apart (w.forCall tape i).memory i.args/\X (w.forCall tape i).memory)/\sizedMet enc C.prog fn (OpenSpec.ofChange s) apart (w.forCall tape i).memory i.args)/\({ calm:=true }:Assume).holds C.prog (lone (Frame.enter C.prog f i.args .normal) [] (w.forCall tape i)):=
 ⟨w0,λ _ _=>0,⟨#[],args,[]⟩,hos,hsh,(Input.okWide_of_okWideB (base:=0) hok).1,(Input.okWide_of_okWideB hok).2,⟨⟨ChangeSpec.pre_of_preB hpre,hx⟩,sizedMet_of_sizedB hsz⟩,by
  simp only[Assume.holds];exact⟨by simp,λ _ _ _ _=>rfl,by simp,by simp,by simp⟩⟩
end
def Zs5{p:Pinned}{s:OpenSpec}{c:OpenClaim}(kinds:List LaidKind)(tests:Bool)(har:Bool×String)(lk:Bool)
  (hc:c.holds p s) (hw:c.wfByText s=true) (htie:c.laidByTextAt .later p kinds tests)
  (hst:c.start=.entering) (hnb:c.noBlocks=false/\c.again=false) (hm:p.checked.prog.mainIs=some (har.1,har.2.toList)) (hn:(!har.1&&har.2.isEmpty&&!lk)=false)
  (hl:∀f fn,p.checked.prog.funcNamed c.func=some f->p.checked.prog.funcs[f]?=some fn->lk=p.checked.prog.looks []/\∀(j:Nat)t,fn.params[j]?=some t->p.checked.prog.wantsStandIn t=false)
  (hg:true=c.goesBy p.checked.prog) :
  Claim7.holds p (.plain s) { stood:={ row:=c,standIns:=[],harness:=har,looks:=lk },kinds:=[],alts:=[],goes:=true,laidByText:=true,laidKinds:=kinds,laidTests:=tests,laidLooks:=.later }:=by
 have h6:Claim7.isSixth { stood:={ row:=c,standIns:=[],harness:=har,looks:=lk },kinds:=[] }=false:=by simpa[Claim7.isSixth]using hn
 refine⟨Claim7.tied_new_at .later kinds tests (Claim7.new_of_sixth hc har lk hst hnb hm h6 hl) hw,λ D hD=>?_,htie,(λ h=>by cases h),hg⟩;cases hD
end Go.TM
