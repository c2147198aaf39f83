/- A part of the proof: lemmas that the last text uses. No conditions of its own. -/
import Derived.Conc.LeavingOf
import Derived.OpenShut
import Derived.Test.YtebpcmdnecenlaaGreatRows
import Derived.KernelRfl
import Derived.Test.YtebpcmdnecenlaaGreatH45
import Derived.Test.YtebpcmdnecenlaaGreatH04
import Derived.Test.YtebpcmdnecenlaaGreatH05
import Derived.Test.YtebpcmdnecenlaaGreatH42
import Derived.Test.YtebpcmdnecenlaaGreatH43
set_option linter.unusedSimpArgs false
set_option linter.unusedVariables false
namespace Go.TM
open Go.ChangeShapes Go.WideShapes Go.RowKit
def View.all (W:World):View Tk:=⟨λ b=>W.heap[b]?,[],⟨0,.out⟩⟩
theorem View.all_ok (W:World):(View.all W).ok W:=⟨λ _ _ h=>h,λ _ h=>absurd h List.not_mem_nil,List.Pairwise.nil,λ _ h=>absurd h List.not_mem_nil⟩
theorem cell_sees {W:World} {a:Addr} {v:Value} (h:W.cell? a=some v):(View.all W).sees a v:=by
 unfold World.cell? at h
 split at h
 ·rename_i c t fr hb
  split at h
  ·cases h
  ·rename_i hs
   exact⟨by cases e:a.spot <;> simp_all,.inl ⟨c,t,fr,.inl hb,h⟩⟩
 ·cases h
theorem cells_reads {W:World} {a:Addr} {n:Nat} {cs:List Value} (h:W.cells? 0 a n=some cs):cs.length=n/\Reads (View.all W) a cs:=by
 unfold World.cells? at h
 rw [if_pos (Nat.zero_le _)] at h
 have hl:=mapM_some_length h
 rw [List.length_range] at hl
 refine⟨hl,λ i v hv=>?_⟩
 have hi:i<n:=by rw [<- hl];exact (List.getElem?_eq_some_iff.1 hv).1
 have:=mapM_some_get h i i (by simp [hi])
 exact cell_sees (this.trans hv)
section
variable {H:Type} {enc:TypeId×Value->H} {P:Program} {W:World} {t e:TypeId} {n fuel:Nat} {x:DataW H×List MemPlace} {v:Value} {cs:List Value}
abbrev Trd (enc:TypeId×Value->H) (P:Program) (W:World) (fuel:Nat) (t:TypeId) (cs:List Value):Option (DataW H×List MemPlace):=DataW.trod enc P W 0 (λ _=>true) true fuel t cs
def Sz (P:Program) (t:TypeId) (d:DataW H):Prop:=∀k∈d.weights P t,k<=reachBytes
theorem reach60 {k:Nat} (h:k<=reachBytes):k<2 ^ 60:=by
 have:=reachBytes_lt
 omega
theorem Sz.slice {es rest:List (DataW H)} (h:Sz P t (.slice es rest)) (hu:P.underlying t=some (.slice e)) (hb:0<P.bytesOf e):es.length<2 ^ 60/\∀d∈es,Sz P e d:=by
 simp only [Sz,DataW.weights,hu] at h
 refine⟨?_,λ d hd k hk=>h k ?_⟩
 ·have:=reach60 (h _ (List.mem_cons_self ..))
  have h2:es.length*1<=(es.length+rest.length)*P.bytesOf e:=Nat.mul_le_mul (by omega) hb
  omega
 ·refine List.mem_cons_of_mem _ (List.mem_append_left _ ?_)
  clear h
  induction es with
  | nil=>cases hd
  | cons a es ih=>
   simp only [DataW.weightsAll,List.mem_append]
   rcases List.mem_cons.1 hd with rfl | hd
   ·exact .inl hk
   ·exact .inr (ih hd)
theorem Sz.agg {fs:Array Field} {parts:List (DataW H)} (h:Sz P t (.agg parts)) (hu:P.underlying t=some (.struct fs)) {i:Nat} {f:Field} {d:DataW H} (hf:fs[i]?=some f) (hd:parts[i]?=some d):Sz P f.type d:=by
 simp only [Sz,DataW.weights,hu] at h
 exact λ k hk=>h k (DataW.weights_mem_each (by simp [List.getElem?_map,hf]) hd k hk)
theorem Sz.str {l:List UInt8} (h:Sz P t (.lit (.string l):DataW H)):l.length<2 ^ 60:=reach60 (h _ (by simp [DataW.weights]))
theorem Sz.arg {ts:List TypeId} {ds:List (DataW H)} (h:(DataW.weightsEach P ts ds).all (·<=reachBytes)=true) {i:Nat} {d:DataW H} (ht:ts[i]?=some t) (hd:ds[i]?=some d):Sz P t d:=λ k hk=>by
 have:=List.all_eq_true.1 h _ (DataW.weights_mem_each ht hd k hk)
 simpa using this
theorem tr_rows (hu:P.underlying t=some (.slice e)) (hn:P.cellsOf e=n) (hpos:0<n) (h:Trd enc P W fuel t [v]=some x) :
  ∃(a:Option Addr) (len cap:Nat) (rows:List (List Value)) (ys:List (DataW H×List MemPlace)) (m:Nat),v=.slice a len cap/\rows.length=len/\ys.length=len /\
   (∀(i:Nat) r,rows[i]?=some r->(∃ad,a=some ad/\ad.spot=none/\r.length=n/\Reads (View.all W) (ad.add (i*n)) r)/\∃y,ys[i]?=some y/\Trd enc P W m e r=some y) /\
   ((∃rest,x.1=.slice (ys.map (·.1)) rest)\/len=0):=by
 rcases DataW.trod_slice hu h with⟨hc,hx⟩ | ⟨a,len,cap,elems,rest,m,_,hc,hx,_,_,_,hl,hel,_,_⟩
 ·simp only [List.cons.injEq,and_true] at hc
  exact⟨none,0,0,[],[],0,hc,rfl,rfl,λ i r hr=>by simp at hr,.inr rfl⟩
 ·simp only [List.cons.injEq,and_true] at hc
  rw [hn] at hel
  have key:∀i,i<len->∃r,W.cells? 0 (a.add (i*n)) n=some r/\∃y,elems[i]?=some y/\Trd enc P W m e r=some y:=by
   intro i hi
   have h1:=hel i hi
   have h2:elems[i]?=some elems[i]:=List.getElem?_eq_getElem (by omega)
   rw [h2] at h1
   obtain⟨r,hr,hy⟩:=Option.bind_eq_some_iff.1 h1
   exact⟨r,hr,_,h2,hy⟩
  refine⟨some a,len,cap,(List.range len).map λ i=>(W.cells? 0 (a.add (i*n)) n).getD [],elems,m,hc,by simp,hl,λ i r hr=>?_,.inl ⟨_,by rw [hx]⟩⟩
  have hi:i<len:=by have:=(List.getElem?_eq_some_iff.1 hr).1;simpa using this
  obtain⟨r',hr',y,hy,hty⟩:=key i hi
  have e1:r=r':=by
   simp only [List.getElem?_map,List.getElem?_range hi,Option.map_some,hr',Option.getD_some,Option.some.injEq] at hr
   exact hr.symm
  subst e1
  obtain⟨h1,h2⟩:=cells_reads hr'
  obtain⟨r0,hr0,-⟩:=key 0 (by omega)
  obtain⟨h3,h4⟩:=cells_reads hr0
  have hsp:a.spot=none:=by
   have:=h4 0 r0[0] (List.getElem?_eq_getElem (by omega))
   have:=this.1
   simpa [Addr.add] using this
  exact⟨⟨a,rfl,hsp,h1,h2⟩,y,hy,hty⟩
theorem tr_typed {α:Type} {R:α->List Value->Prop} (hu:P.underlying t=some (.slice e)) (hn:P.cellsOf e=n) (hpos:0<n) (hb:0<P.bytesOf e) (h:Trd enc P W fuel t [v]=some x) (hz:Sz P t x.1)
  (hR:∀m r y,Trd enc P W m e r=some y->Sz P e y.1->∃z:α,R z r) :
  ∃(a:Option Addr) (len cap:Nat) (l:List α),v=.slice a len cap/\RowsV (View.all W) a len n l R/\len<2 ^ 60:=by
 obtain⟨a,len,cap,rows,ys,m,rfl,h1,h2,h3,h4⟩:=tr_rows hu hn hpos h
 have hsz:len<2 ^ 60/\∀(i:Nat) y,ys[i]?=some y->Sz P e y.1:=by
  rcases h4 with⟨rest,h4⟩ | h4
  ·rw [h4] at hz
   have:=hz.slice hu hb
   rw [List.length_map,h2] at this
   exact⟨this.1,λ i y hy=>this.2 _ (List.mem_map_of_mem (List.mem_of_getElem? hy))⟩
  ·exact⟨by omega,λ i y hy=>by have:=(List.getElem?_eq_some_iff.1 hy).1;omega⟩
 have hex:∃l:List α,l.length=rows.length/\∀(i:Nat) z,l[i]?=some z->∃r,rows[i]?=some r/\R z r:=by
  have hall:∀r∈rows,∃z:α,R z r:=λ r hr=>by
   obtain⟨i,hi⟩:=List.getElem?_of_mem hr
   obtain⟨_,y,hy,ht⟩:=h3 i r hi
   exact hR m r y ht (hsz.2 i y hy)
  clear h3 h1
  induction rows with
  | nil=>exact⟨[],rfl,λ i z hz=>by simp at hz⟩
  | cons r rows ih=>
   obtain⟨l,hl,hi⟩:=ih λ r hr=>hall r (List.mem_cons_of_mem _ hr)
   obtain⟨z,hz⟩:=hall r (List.mem_cons_self ..)
   refine⟨z::l,by simp [hl],λ i w hw=>?_⟩
   cases i with
   | zero=>simp at hw;subst hw;exact⟨r,rfl,hz⟩
   | succ i=>simpa using hi i w (by simpa using hw)
 obtain⟨l,hl,hi⟩:=hex
 refine⟨a,len,cap,l,rfl,⟨by omega,λ i z hz=>?_⟩,hsz.1⟩
 obtain⟨r,hr,hzr⟩:=hi i z hz
 obtain⟨⟨ad,ha,hs,hrl,hrd⟩,_⟩:=h3 i r hr
 exact⟨ad,r,ha,hs,hzr,hrl,hrd⟩
theorem tr_field {fs:Array Field} (hu:P.underlying t=some (.struct fs)) (h:Trd enc P W fuel t cs=some x) (hz:Sz P t x.1) :
  cs.length=P.cellsOf t/\∃m,∀(i:Nat) (f:Field),fs[i]?=some f->∃y,Trd enc P W m f.type ((cs.drop f.offset).take (P.cellsOf f.type))=some y/\Sz P f.type y.1:=by
 obtain⟨xs,m,_,rfl,hl,hxl,hf⟩:=DataW.trod_struct hu h
 refine⟨hl,m,λ i f hi=>?_⟩
 have hlt:i<xs.length:=by have:=(Array.getElem?_eq_some_iff.1 hi).1;omega
 have hx:xs[i]?=some xs[i]:=List.getElem?_eq_getElem hlt
 exact⟨xs[i],(hf i f hi).trans hx,hz.agg hu hi (by rw [List.getElem?_map,hx];rfl)⟩
theorem tr_part {fs:Array Field} {m i ft off:Nat} (h:∀(i:Nat) (f:Field),fs[i]?=some f->∃y:DataW H×List MemPlace,Trd enc P W m f.type ((cs.drop f.offset).take (P.cellsOf f.type))=some y/\Sz P f.type y.1)
  (hf:(fs[i]?).map (λ f=>(f.type,f.offset))=some (ft,off)) (hn:P.cellsOf ft=n):∃y,Trd enc P W m ft ((cs.drop off).take n)=some y/\Sz P ft y.1:=by
 cases e:fs[i]? with
 | none=>rw [e] at hf;simp at hf
 | some f=>
  rw [e] at hf
  simp only [Option.map_some,Option.some.injEq,Prod.mk.injEq] at hf
  have:=h i f e
  rw [hf.1,hf.2,hn] at this
  exact this
end
theorem stepG_top {P:Program} {b:Frame} {fd:Func} {n:Nat} {tmps:Array Value} {v:Value} {w:World} {todo:List Item} (hf:P.funcs[b.fn]?=some fd) (hk:b.kind=.normal) (hr:fd.results=#[.tmp n]) (hv:tmps.getD n undef=v) (hi:P.inits.idxOf? b.fn=none) :
  stepG P true (Rf { fr b ⟨tmps,[]⟩ todo with mode:=.returning } []) w=.ended (.done v) w (seen P b.fn #[]):=by
 have hrun:(results fd tmps).runT P w #[]=(.ok v w,#[]):=by
  simp only [results,hr,mapM_eq]
  simp [listM,hv]
 obtain⟨h1,h2⟩:Sem.run P (results fd tmps) w=.ok v w/\Sem.events P (results fd tmps) w #[]=#[]:=by simpa using hrun
 simp [Rf,stepG,unwind,fr,hf,h1,h2,doReturn,hk,GStep.after,hi]
theorem top_of {P:Program} {S:Sys P Tk} {g:FuncId} {N n:Nat} {cc:C} {Q:Value->View Tk->Prop} {args:List Value} {Z:View Tk} (k:FnOk P g N cc [.t n]) (hm:P.follows .mixedOrders=true) (hi:P.inits.idxOf? g=none) (hn:args.length<=N)
  (hq:∀v Z',Q v Z'->Z'.tok=⟨0,.out⟩)
  (h:wpC S g none cc (λ _ _ _=>False) (λ _ _ _ _=>False) (λ f ds Z=>ds=[]/\force (f n) λ v=>Q v Z) (fm args) [] Z) :
  J S (Fin P Q) true (Rf (Frame.enter P g args.toArray .normal) []) Z:=by
 obtain⟨fd,mu,dets,hf,hb,hc,rfl,hr,-⟩:=k.ok
 obtain⟨c,hbc⟩:∃c,fd.body.getD .skip=c:=⟨_,rfl⟩
 rw [hbc] at hb hc
 have hres:fd.results=#[.tmp n]:=by
  have hl:fd.results.toList.mapM (rvOf P)=some [RV.t n]:=hr
  have e1:=mapM_some_length hl
  obtain⟨r,hr1⟩:∃r,fd.results.toList=[r]:=List.length_eq_one_iff.1 (by simpa using e1.symm)
  rw [hr1] at hl
  have e2:=mapM_some_get hl 0 r rfl
  have e3:r=.tmp n:=by
   cases r with
   | tmp t=>simp only [rvOf] at e2;simp at e2;rw [e2]
   | cell a t=>
    simp only [rvOf] at e2
    split at e2
    ·split at e2
     ·cases hs:sizeAt P t with
      | none=>rw [hs] at e2;simp at e2
      | some z=>rw [hs] at e2;simp at e2
     ·simp at e2
    ·simp at e2
  apply Array.ext'
  rw [hr1,e3]
 let b:Frame:={ (default:Frame) with fn:=g,kind:=.normal }
 have henter:Rf (Frame.enter P g args.toArray .normal) []=R b { tmps:=args.toArray++Array.replicate (fd.ntmps-args.toArray.size) undef,defers:=[] } [.code c] []:=by
  simp [Rf,R,Frame.enter,fr,hf,hb,b]
  rfl
 rw [henter]
 have hfr:FR fd.ntmps { tmps:=args.toArray++Array.replicate (fd.ntmps-args.toArray.size) undef,defers:=[] } (fm args) []:=by
  refine⟨rfl,by simp;omega,λ t=>?_⟩
  simp only [fm,Array.getD_eq_getD_getElem?,List.getD_eq_getElem?_getD,Array.getElem?_append,List.size_toArray,List.getElem?_toArray]
  split
  ·rfl
  ·rename_i hlt
   rw [List.getElem?_eq_none (by omega),Array.getElem?_replicate]
   split <;> rfl
 subst hc
 refine J.body (fn:=g) (Q:=PostC fd.ntmps (λ _ _ _=>False) (λ _ _ _ _=>False) (λ f ds Z=>ds=[]/\force (f n) λ v=>Q v Z)) ⟨rfl,rfl,by simp [b],by simp⟩ (wpC_sound hm _ hfr h) λ e a' Z' q=>?_
 obtain⟨f',ds',hf',q⟩:=q
 cases e with
 | normal=>exact q.elim
 | exit i=>exact q.elim
 | ret=>
  obtain⟨rfl,q⟩:=q
  rw [force_eq] at q
  refine⟨.inr rfl,λ todo=>.stop ⟨rfl,rfl,hq _ _ q,f' n,q,λ w _=>⟨seen P g #[],?_,λ e he=>absurd (seen_sub P g #[] e he) (by simp)⟩⟩⟩
  obtain⟨tmps',dfs'⟩:=a'
  have hd:dfs'=[]:=hf'.ds
  subst hd
  exact stepG_top (b:=b) hf rfl hres (hf'.get n) hi
theorem sub_below {W W':World} (h:(View.all W).ok W') (ho:W'.os=W.os) (hout:W'.output=W.output):Below W.heap.size W { W' with tape:=W.tape }:=by
 have key:∀k,k<W.heap.size->W'.heap[k]?=W.heap[k]?:=λ k hk=>by
  have:W.heap[k]?=some W.heap[k]:=Array.getElem?_eq_getElem hk
  rw [this]
  exact h.imm k _ this
 refine⟨ho,rfl,hout,?_,key⟩
 apply Classical.byContradiction
 intro hn
 have hlt:W'.heap.size<W.heap.size:=by simpa using hn
 have:=key W'.heap.size hlt
 rw [Array.getElem?_eq_none (Nat.le_refl _),Array.getElem?_eq_getElem hlt] at this
 cases this
section
variable {H:Type} {enc:TypeId×Value->H} {P:Program}
theorem trodAll_stays (hl:laidOutB P=true) {W W':World} (hb:Below W.heap.size W W'):∀{ts:List TypeId} {vs:List Value} {ds:List (DataW H)} {ps:List MemPlace},ts.all (λ t=>P.readableRec t && decide (t<P.types.size))=true ->
  DataW.TrodAll enc P W 0 (λ _=>true) true ts vs ds ps->(∀x∈ps,x.block<W.heap.size)->DataW.TrodAll enc P W' 0 (λ b=>decide (b<W.heap.size)) true ts vs ds ps
 | [],[],[],_,_,h,_=>h
 | t::ts,v::vs,d::ds,_,hr,⟨p,q,h,hs,e⟩,hlt=>by
  subst e
  simp only [List.all_cons,Bool.and_eq_true,decide_eq_true_eq] at hr
  exact⟨p,q,Below.trod hl hr.1.1 hr.1.2 h hb λ x hx=>hlt x (List.mem_append_left _ hx),trodAll_stays hl hb (by simpa using hr.2) hs λ x hx=>hlt x (List.mem_append_right _ hx),rfl⟩
theorem law_post {fn:Func} {s:ChangeSpec} {W W':World} {args:Array Value} {ds:List (DataW H)} {p:List MemPlace} {tb:TypeId} (hl:laidOutB P=true) (hp:fn.params.toList.all (λ t=>P.readableRec t && decide (t<P.types.size))=true) (hvars:s.vars=[])
  (hW:DataW.Whole enc P fn.params.toList s.vars false W args.toList ds [] p) (hrt:fn.resultTypes=#[tb]) (hu:P.underlying tb=some .bool) (hres:(s.fn H (ds++[])).results=[.lit (.bool true)]) (hargs:(s.fn H (ds++[])).args=ds) (hvs:(s.fn H (ds++[])).vars=[])
  (hok:(View.all W).ok W') (ho:W'.os=W.os) (hout:W'.output=W.output):s.post enc P fn false true false false W args (.bool true) W':=by
 have hb:=sub_below hok ho hout
 have hlt:=hW.lt
 obtain⟨q,r,h1,h2,rfl,h3,h4⟩:=hW
 have hq:∀x∈q,x.block<W.heap.size:=λ x hx=>by simpa using hlt x (List.mem_append_left _ hx)
 refine⟨ds,[],q++r,[],q,[],⟨q,r,h1,h2,rfl,h3,h4⟩,?_,?_,?_,?_,λ h=>by cases h⟩
 ·rw [hres,hrt]
  exact trodAll_mk1 ⟨1,by simp [DataW.trod,hu,Value.cells]⟩
 ·rw [hargs]
  exact DataW.TrodAll.of_heap (w:={ W' with tape:=W.tape }) (w':=W') rfl (trodAll_stays hl hb hp h1 hq)
 ·rw [hvs,hvars];rfl
 ·have:=hb.frame (λ p=>p∈q++r/\(p∈[]\/p∈q\/p∈[]))
  exact⟨this.1,this.2.1,this.2.2⟩
theorem law_runs {t:TypeId} {N f:Nat} {fn:Func} {s:ChangeSpec} {W:World} {args:Array Value} {ds:List (DataW H)} {p:List MemPlace} {tb:TypeId} (hl:laidOutB P=true) (hp:fn.params.toList.all (λ t=>P.readableRec t && decide (t<P.types.size))=true) (hvars:s.vars=[])
  (hW:DataW.Whole enc P fn.params.toList s.vars false W args.toList ds [] p) (hrt:fn.resultTypes=#[tb]) (hu:P.underlying tb=some .bool) (hres:(s.fn H (ds++[])).results=[.lit (.bool true)]) (hargs:(s.fn H (ds++[])).args=ds) (hvs:(s.fn H (ds++[])).vars=[])
  (hJ:J (SysG P t N) (Fin P λ v Z=>v=.bool true/\(View.all W).lg Z) true (Rf (Frame.enter P f args .normal) []) (View.all W)) :
  ∃M last o w' t',runNT P (M+1) (Conc.solo (Conc.G (Frame.enter P f args .normal) []) W) #[]=(.ended o w',t')/\runN P M (Conc.solo (Conc.G (Frame.enter P f args .normal) []) W)=.next last /\
   step P last=.ended o w'/\Conc.Good P (λ v W'=>s.post enc P fn false true false false W args v W') last o w' t':=by
 obtain⟨M,last,o,w',t',h1,h2,h3,h4⟩:=hJ.runs (View.all_ok W) rfl
 refine⟨M,last,o,w',t',h1,h2,h3,Good_mono' h4 λ v W' ⟨Z,⟨hv,hlg⟩,hok,ho,hout⟩=>?_⟩
 subst hv
 exact law_post hl hp hvars hW hrt hu hres hargs hvs ⟨λ b o h=>hok.imm b o (hlg.imm b o h),λ _ h=>absurd h List.not_mem_nil,List.Pairwise.nil,λ _ h=>absurd h List.not_mem_nil⟩ ho hout
end
end Go.TM
namespace Go.TM
theorem RowsV.all {T:Type} {Z:View T} {a:Option Addr} {len n:Nat} {α:Type} {l:List α} {R:α->List Value->Prop} (h:RowsV Z a len n l R):∀x∈l,∃r,R x r:=λ x hx=>by
 obtain⟨i,hi⟩:=List.getElem?_of_mem hx
 obtain⟨_,r,_,_,hr,_⟩:=h.2 i x hi
 exact⟨r,hr⟩
theorem len_two {α:Type} {l:List α} (h:l.length=2):∃a b,l=[a,b]:=by
 cases l with
 | nil=>simp at h
 | cons a r=>obtain⟨b,rfl⟩:=List.length_eq_one_iff.1 (by simpa using h);exact⟨a,b,rfl⟩
theorem len_three {α:Type} {l:List α} (h:l.length=3):∃a b c,l=[a,b,c]:=by
 cases l with
 | nil=>simp at h
 | cons a r=>obtain⟨b,c,rfl⟩:=len_two (l:=r) (by simpa using h);exact⟨a,b,c,rfl⟩
end Go.TM
namespace Go.Proofs.YtebpcmdnecenlaaGreat
open Go.TM Go.ChangeShapes Go.WideShapes Go.RowKit
section
variable {H:Type} {enc:TypeId×Value->H} {W:World} {fuel:Nat} {x:DataW H×List MemPlace} {v:Value} {cs:List Value}
theorem tr_int {k:IntKind} {t:TypeId} (hu:Tryz.prog.underlying t=some (.int k)) (h:Trd enc Tryz.prog W fuel t cs=some x):∃n,cs=[.int k n]:=by
 obtain⟨n,h,_⟩:=DataW.trod_int hu h
 exact⟨n,h⟩
theorem Tryz.cells3:Tryz.prog.cellsOf 3=1:=by kernel_rfl
theorem Tryz.cells9:Tryz.prog.cellsOf 9=1:=by kernel_rfl
theorem Tryz.cells76:Tryz.prog.cellsOf 76=2:=by kernel_rfl
theorem Tryz.cells62:Tryz.prog.cellsOf 62=1:=by kernel_rfl
theorem Tryz.cells26:Tryz.prog.cellsOf 26=3:=by kernel_rfl
theorem Tryz.cells64:Tryz.prog.cellsOf 64=1:=by kernel_rfl
theorem Tryz.cells132:Tryz.prog.cellsOf 132=3:=by kernel_rfl
theorem Tryz.cells138:Tryz.prog.cellsOf 138=4:=by kernel_rfl
theorem Tryz.cells22:Tryz.prog.cellsOf 22=1:=by kernel_rfl
theorem Tryz.cells23:Tryz.prog.cellsOf 23=1:=by kernel_rfl
theorem Tryz.cells24:Tryz.prog.cellsOf 24=1:=by kernel_rfl
theorem Tryz.bytes64:0<Tryz.prog.bytesOf 64:=of_decide_eq_true (by kernel_rfl)
theorem Tryz.bytes132:0<Tryz.prog.bytesOf 132:=of_decide_eq_true (by kernel_rfl)
theorem Tryz.bytes138:0<Tryz.prog.bytesOf 138:=of_decide_eq_true (by kernel_rfl)
theorem Tryz.bytes76:0<Tryz.prog.bytesOf 76:=of_decide_eq_true (by kernel_rfl)
theorem tr_item {m:Nat} {r:List Value} {y:DataW H×List MemPlace} (h:Trd enc Tryz.prog W m 76 r=some y) (hz:Sz Tryz.prog 76 y.1):∃it:GItem,r=[.string it.name,.int .i64 it.cls]/\it.name.size<2 ^ 60:=by
 obtain⟨hl,m',hf⟩:=tr_field Tryz.underlying76 h hz
 rw [Tryz.cells76] at hl
 obtain⟨c0,c1,rfl⟩:=len_two hl
 obtain⟨y0,h0,z0⟩:=tr_part (i:=0) (ft:=9) (off:=0) hf rfl Tryz.cells9
 obtain⟨y1,h1,z1⟩:=tr_part (i:=1) (ft:=3) (off:=1) hf rfl Tryz.cells3
 obtain⟨s,hs,rfl,-⟩:=DataW.trod_string Tryz.underlying9 h0
 obtain⟨n,hn⟩:=tr_int Tryz.underlying3 h1
 simp only [List.drop_zero,List.drop_succ_cons,List.take_succ_cons,List.take_zero,List.cons.injEq,and_true] at hs hn
 have:=z0.str
 rw [Array.length_toList] at this
 exact⟨⟨s,n⟩,by rw [hs,hn],this⟩
theorem tr_edition {m:Nat} {r:List Value} {y:DataW H×List MemPlace} (h:Trd enc Tryz.prog W m 64 r=some y) (hz:Sz Tryz.prog 64 y.1) :
  ∃l:List GItem,(∃v,r=[v]/\ItemsV (View.all W) v l)/\l.length<2 ^ 60/\∀it∈l,it.name.size<2 ^ 60:=by
 obtain⟨hl,m',hf⟩:=tr_field Tryz.underlying64 h hz
 rw [Tryz.cells64] at hl
 obtain⟨c0,rfl⟩:=List.length_eq_one_iff.1 hl
 obtain⟨y0,h0,z0⟩:=tr_part (i:=0) (ft:=62) (off:=0) hf rfl Tryz.cells62
 obtain⟨a,len,cap,l,rfl,h2,h3⟩:=tr_typed (R:=λ (it:GItem) r=>r=[.string it.name,.int .i64 it.cls]/\it.name.size<2 ^ 60) Tryz.underlying62 Tryz.cells76 (by decide) Tryz.bytes76 h0 z0 λ m r y hy hz=>tr_item hy hz
 exact⟨l,⟨_,rfl,a,len,cap,rfl,h2.le (.refl _) λ _ _ h=>h.1⟩,by rw [h2.1];exact h3,λ it hit=>let ⟨_,h⟩:=h2.all it hit;h.2⟩
theorem tr_move {m:Nat} {r:List Value} {y:DataW H×List MemPlace} (h:Trd enc Tryz.prog W m 132 r=some y) (hz:Sz Tryz.prog 132 y.1):∃z:GMv,r=[.int .i64 z.ed,.int .i64 z.fr,.int .i64 z.to]:=by
 obtain⟨hl,m',hf⟩:=tr_field Tryz.underlying132 h hz
 rw [Tryz.cells132] at hl
 obtain⟨c0,c1,c2,rfl⟩:=len_three hl
 obtain⟨y0,h0,z0⟩:=tr_part (i:=0) (ft:=3) (off:=0) hf rfl Tryz.cells3
 obtain⟨y1,h1,z1⟩:=tr_part (i:=1) (ft:=3) (off:=1) hf rfl Tryz.cells3
 obtain⟨y2,h2,z2⟩:=tr_part (i:=2) (ft:=3) (off:=2) hf rfl Tryz.cells3
 obtain⟨n0,e0⟩:=tr_int Tryz.underlying3 h0
 obtain⟨n1,e1⟩:=tr_int Tryz.underlying3 h1
 obtain⟨n2,e2⟩:=tr_int Tryz.underlying3 h2
 simp only [List.drop_zero,List.drop_succ_cons,List.take_succ_cons,List.take_zero,List.cons.injEq,and_true] at e0 e1 e2
 exact⟨⟨n0,n1,n2⟩,by rw [e0,e1,e2]⟩
theorem tr_kin {m:Nat} {r:List Value} {y:DataW H×List MemPlace} (h:Trd enc Tryz.prog W m 138 r=some y) (hz:Sz Tryz.prog 138 y.1):∃z:GKn,r=[.int .i64 z.ed,.int .i64 z.one,.int .i64 z.two,.int .i64 z.lev]:=by
 obtain⟨hl,m',hf⟩:=tr_field Tryz.underlying138 h hz
 rw [Tryz.cells138] at hl
 obtain⟨c0,r',rfl,hl'⟩:∃c0 r',r=c0::r'/\r'.length=3:=by
  cases r with
  | nil=>simp at hl
  | cons a r=>exact⟨a,r,rfl,by simpa using hl⟩
 obtain⟨c1,c2,c3,rfl⟩:=len_three hl'
 obtain⟨y0,h0,z0⟩:=tr_part (i:=0) (ft:=3) (off:=0) hf rfl Tryz.cells3
 obtain⟨y1,h1,z1⟩:=tr_part (i:=1) (ft:=3) (off:=1) hf rfl Tryz.cells3
 obtain⟨y2,h2,z2⟩:=tr_part (i:=2) (ft:=3) (off:=2) hf rfl Tryz.cells3
 obtain⟨y3,h3,z3⟩:=tr_part (i:=3) (ft:=3) (off:=3) hf rfl Tryz.cells3
 obtain⟨n0,e0⟩:=tr_int Tryz.underlying3 h0
 obtain⟨n1,e1⟩:=tr_int Tryz.underlying3 h1
 obtain⟨n2,e2⟩:=tr_int Tryz.underlying3 h2
 obtain⟨n3,e3⟩:=tr_int Tryz.underlying3 h3
 simp only [List.drop_zero,List.drop_succ_cons,List.take_succ_cons,List.take_zero,List.cons.injEq,and_true] at e0 e1 e2 e3
 exact⟨⟨n0,n1,n2,n3⟩,by rw [e0,e1,e2,e3]⟩
theorem tr_tab {c:Array Value} (h:Trd enc Tryz.prog W fuel 26 c.toList=some x) (hz:Sz Tryz.prog 26 x.1):∃(h:TH) (t:Tbl),Value.agg c=h.v/\TabV (View.all W) h t:=by
 obtain⟨hl,m',hf⟩:=tr_field Tryz.underlying26 h hz
 rw [Tryz.cells26] at hl
 obtain⟨c0,c1,c2,hc⟩:=len_three hl
 rw [hc] at hf
 obtain⟨y0,h0,z0⟩:=tr_part (i:=0) (ft:=22) (off:=0) hf rfl Tryz.cells22
 obtain⟨y1,h1,z1⟩:=tr_part (i:=1) (ft:=23) (off:=1) hf rfl Tryz.cells23
 obtain⟨y2,h2,z2⟩:=tr_part (i:=2) (ft:=24) (off:=2) hf rfl Tryz.cells24
 simp only [List.drop_zero,List.drop_succ_cons,List.take_succ_cons,List.take_zero] at h0 h1 h2
 obtain⟨ea,el,ec,eds,rfl,e1,e2⟩:=tr_typed (R:=λ (l:List GItem) r=>(∃v,r=[v]/\ItemsV (View.all W) v l)/\l.length<2 ^ 60/\∀it∈l,it.name.size<2 ^ 60) Tryz.underlying22 Tryz.cells64 (by decide) Tryz.bytes64 h0 z0 λ m r y hy hz=>tr_edition hy hz
 obtain⟨ma,ml,mc,mvs,rfl,m1,m2⟩:=tr_typed (R:=λ (z:GMv) r=>r=[.int .i64 z.ed,.int .i64 z.fr,.int .i64 z.to]) Tryz.underlying23 Tryz.cells132 (by decide) Tryz.bytes132 h1 z1 λ m r y hy hz=>tr_move hy hz
 obtain⟨ka,kl,kc,kns,rfl,k1,k2⟩:=tr_typed (R:=λ (z:GKn) r=>r=[.int .i64 z.ed,.int .i64 z.one,.int .i64 z.two,.int .i64 z.lev]) Tryz.underlying24 Tryz.cells138 (by decide) Tryz.bytes138 h2 z2 λ m r y hy hz=>tr_kin hy hz
 refine⟨⟨ea,el,ec,ma,ml,mc,ka,kl,kc⟩,⟨eds,mvs,kns⟩,by rw [<- Array.toArray_toList (xs:=c),hc],e1.le (.refl _) λ _ _ h=>h.1,m1,k1,by rw [e1.1];exact e2,by rw [m1.1];exact m2,by rw [k1.1];exact k2,?_,?_⟩
 ·intro l hl
  obtain⟨_,h⟩:=e1.all l hl
  exact h.2.1
 ·intro l hl
  obtain⟨_,h⟩:=e1.all l hl
  exact h.2.2
end
section
variable {H:Type} {enc:TypeId×Value->H} {W:World} {fuel:Nat} {x:DataW H×List MemPlace} {v:Value} {cs:List Value}
theorem tr_nat {k:IntKind} {t:TypeId} {m:Nat} (hu:Tryz.prog.underlying t=some (.int k)) (h0:k.min=0) (hm:k.max=(m:Int)) (h:Trd enc Tryz.prog W fuel t cs=some x):∃u:Nat,cs=[.int k u]/\u<=m:=by
 obtain⟨n,h1,-,hw⟩:=DataW.trod_int hu h
 simp only [Lit.wf,Bool.and_eq_true,decide_eq_true_eq] at hw
 rw [h0,hm] at hw
 obtain⟨u,rfl⟩:=Int.eq_ofNat_of_zero_le hw.1
 exact⟨u,h1,by omega⟩
theorem tr_u8 (h:Trd enc Tryz.prog W fuel 5 [v]=some x):∃u:Nat,v=.int .u8 u/\u<256:=by
 obtain⟨u,h1,h2⟩:=tr_nat (m:=255) Tryz.underlying5 (by decide) (by decide) h
 exact⟨u,by simpa using h1,by omega⟩
def U16s {T:Type} (Z:View T) (a:Option Addr) (len:Nat) (l:List Nat):Prop:=RowsV Z a len 1 l λ n vs=>vs=[.int .u16 (n:Int)]/\n<65536
end
end Go.Proofs.YtebpcmdnecenlaaGreat
