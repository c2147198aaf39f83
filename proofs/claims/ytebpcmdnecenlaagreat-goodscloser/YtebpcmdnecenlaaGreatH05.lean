/- A part of the proof: lemmas that the last text uses. No conditions of its own. -/
import Derived.Test.YtebpcmdnecenlaaGreatH02
import Derived.Test.YtebpcmdnecenlaaGreatH04
set_option linter.unusedSimpArgs false
set_option linter.unusedVariables false
namespace Go.TM
structure GItem where
 name:ByteArray
 cls:Int
structure GMv where
 ed:Int
 fr:Int
 to:Int
structure GKn where
 ed:Int
 one:Int
 two:Int
 lev:Int
structure Tbl where
 eds:List (List GItem)
 mvs:List GMv
 kns:List GKn
def btw (n a b:Int):Bool:=decide (a<=n) && decide (n<=b)
def Tbl.isEd (t:Tbl) (e:Int):Bool:=btw e 0 (t.eds.length-1)
def Tbl.items (t:Tbl) (e:Int):List GItem:=if t.isEd e then t.eds.getD e.toNat [] else []
def Tbl.isItem (t:Tbl) (e n:Int):Bool:=btw n 0 ((t.items e).length-1)
def Tbl.chk (t:Tbl) (e:Int):Option Int->List Int->Int
 | _,[]=>0
 | p,n::l=>if t.isItem e n then (match p with | some m=>if n<=m then 7 else t.chk e (some n) l | none=>t.chk e (some n) l) else 6
theorem Tbl.chk_cons (t:Tbl) (e:Int) (p:Option Int) (n:Int) (l:List Int):t.chk e p (n::l)=if t.isItem e n then (match p with | some m=>if n<=m then 7 else t.chk e (some n) l | none=>t.chk e (some n) l) else 6:=rfl
theorem drop_at {α:Type} {l:List α} {i:Nat} {x:α} (h:l[i]?=some x):l.drop i=x::l.drop (i+1):=by
 obtain⟨hlt,rfl⟩:=List.getElem?_eq_some_iff.1 h
 exact List.drop_eq_getElem_cons hlt
theorem take_at {α:Type} {l:List α} {i:Nat} {x:α} (h:l[i]?=some x):l.take (i+1)=l.take i++[x]:=by
 rw [List.take_add_one,h];rfl
structure TH where
 ea:Option Addr
 el:Nat
 ec:Nat
 ma:Option Addr
 ml:Nat
 mc:Nat
 ka:Option Addr
 kl:Nat
 kc:Nat
abbrev TH.v (h:TH):Value:=.agg #[.slice h.ea h.el h.ec,.slice h.ma h.ml h.mc,.slice h.ka h.kl h.kc]
variable {T:Type}
def ItemsV (Z:View T) (v:Value) (l:List GItem):Prop:=∃a len cap,v=.slice a len cap/\RowsV Z a len 2 l λ it vs=>vs=[.string it.name,.int .i64 it.cls]
structure TabV (Z:View T) (h:TH) (t:Tbl):Prop where
 eds:RowsV Z h.ea h.el 1 t.eds λ l vs=>∃v,vs=[v]/\ItemsV Z v l
 mvs:RowsV Z h.ma h.ml 3 t.mvs λ m vs=>vs=[.int .i64 m.ed,.int .i64 m.fr,.int .i64 m.to]
 kns:RowsV Z h.ka h.kl 4 t.kns λ k vs=>vs=[.int .i64 k.ed,.int .i64 k.one,.int .i64 k.two,.int .i64 k.lev]
 el:t.eds.length<2 ^ 60
 ml:t.mvs.length<2 ^ 60
 kl:t.kns.length<2 ^ 60
 il:∀l∈t.eds,l.length<2 ^ 60
 nl:∀l∈t.eds,∀it∈l,it.name.size<2 ^ 60
theorem ItemsV.lg {Z Z':View T} {v:Value} {l:List GItem} (h:ItemsV Z v l) (hl:Z.lg Z'):ItemsV Z' v l:=
 let ⟨a,len,cap,e,h⟩:=h;⟨a,len,cap,e,h.lg hl λ _ _ h=>h⟩
theorem TabV.lg {Z Z':View T} {h:TH} {t:Tbl} (k:TabV Z h t) (hl:Z.lg Z'):TabV Z' h t:=
 ⟨k.eds.lg hl λ _ _ ⟨v,e,h⟩=>⟨v,e,h.lg hl⟩,k.mvs.lg hl λ _ _ h=>h,k.kns.lg hl λ _ _ h=>h,k.el,k.ml,k.kl,k.il,k.nl⟩
theorem TabV.items_lt {Z:View T} {h:TH} {t:Tbl} (k:TabV Z h t) (e:Int):(t.items e).length<2 ^ 60:=by
 unfold Tbl.items
 split
 ·rw [List.getD_eq_getElem?_getD]
  cases hx:t.eds[e.toNat]? with
  | none=>simp
  | some l=>exact k.il l (List.mem_of_getElem? hx)
 ·simp
theorem Blk.sees3 {Z:View T} {b o:Nat} {c:Array Value} {v:Value} (h:Blk Z b c) (hv:c[o]?=some v):Z.sees ((Addr.mk b 0 none).add o) v:=by
 rw [add_none,Nat.zero_add];exact h.sees hv
theorem Blk.rdT {Z Z':View T} {b:Nat} {h:TH} (hb:Blk Z b #[.slice h.ea h.el h.ec,.slice h.ma h.ml h.mc,.slice h.ka h.kl h.kc]) (hI:∀x o,Z.I x=some o->Z'.I x=some o):Reads Z' ⟨b,0,none⟩ [.slice h.ea h.el h.ec,.slice h.ma h.ml h.mc,.slice h.ka h.kl h.kc]:=
 let ⟨t,fr,h⟩:=hb
 Blk.reads (⟨t,fr,hI _ _ h⟩:Blk Z' b _) λ k v hv=>by simpa using hv
end Go.TM
namespace Go.TM
variable {P:Program} {t:TypeId} {N:Nat} {fn:FuncId} {Q:Ex->Act->View Tk->Prop} {a:Act} {Z:View Tk}
theorem ov_go {ops:Array Oper} {i:Nat} {rest:List Nat} {o:Oper} {x:Operand} {ats:Array TypeId} {g:FuncId} {first capt:Array Value} {b:Nat} {ds:List Spec} {D:Spec} {Zp Zc:View Tk}
  (ho:ops[i]?=some o) (hw:Region.wanted o (yielded ops a.tmps)=true) (hop:o.op=.go { callee:=.value x,args:=#[],argTypes:=ats }) (hx:a.eval x=.func (.func g) first capt)
  (ht:Z.tok=⟨0,.par b ds true .run⟩) (hf:Fork Z Zp Zc) (hp:Zp.tok=⟨0,.par b (D::ds) false .run⟩) (hc:Zc.tok=⟨0,.wrk b D⟩)
  (hk:∀Stop,J (SysG P t N) Stop false (childE P { target:=.fn (.func g) capt,args:=first++#[] }) Zc) (hq:OpsV (SysG P t N) fn none ops rest Q (a.put o.dst undef) Zp) :
  OpsV (SysG P t N) fn none ops (i::rest) Q a Z:=by
 intro Stop m b' k cs hb hcc
 refine .syn (Syn.go (X:=J (SysG P t N) Stop) (g':=R b' (a.put o.dst undef) (.inRegion ops rest::k) cs) rfl ht ?_ hf hp hc (hq Stop m b' k cs hb hcc) (hk Stop))
 have hke:b'.kind≠.early:=hb.2.2.1
 have hro:b'.roundOf=none:=hb.2.1
 have hev:=fr_eval b' a (.inRegion ops (i::rest)::k)
 have hfin:=fr_finish (b:=b') (a:=a) (k:=k) (rest:=rest) ho undef
 have hsem:execOp a.eval o=(do let d <- resolve a.eval { callee:=.value x,args:=#[],argTypes:=ats } o.type;pure (.spawn d):Sem Next):=by
  unfold execOp;rw [hop]
 have hres:evT P t (execOp a.eval o) undef undef #[] []=.ok (.spawn { target:=.fn (.func g) capt,args:=first++#[] }) undef undef #[] []:=by
  rw [hsem]
  simp only [resolve,hx,Deferred.ofValue,Array.map_empty]
  rfl
 show stepE P t m (R b' a (.inRegion ops (i::rest)::k) cs) undef undef=_
 unfold stepE R
 simp only [fr]
 unfold execE
 simp only [ho,hw,hro]
 simp only [fr] at hev
 rw [hro] at hev
 rw [hev,hres]
 unfold applyE
 have:∀(kd:CallKind) (A B:SE),kd≠.early->(match kd with | .early=>A | _=>B)=B:=by intro kd A B h;cases kd <;> first | rfl | exact absurd rfl h
 simp only
 cases hkd:b'.kind with
 | early=>exact absurd hkd hke
 | _=>
  simp only [spawnE,isFnT,List.isEmpty_nil,Bool.and_self,cond_true,seen_nil,run1]
  simp only [fr,hro,hkd] at hfin ⊢
  rw [hfin]
end Go.TM
namespace Go.TM
open Go.Conc (QuitsD)
variable {P:Program} {t:TypeId} {N:Nat} {m:Bool} {Z:View Tk} {Stop:Stp Tk}
def calmN (P:Program) (t:TypeId) (m:Bool):Nat->Goroutine->Option (Goroutine×List (Nat×Bool))
 | 0,g=>some (g,[])
 | n+1,g=>match g.status,stepE P t m g undef undef with
  | .running,.go g' _ _ es bs=>bif es.isEmpty && bs.all (!·.2) then (calmN P t m n g').map (λ x=>(x.1,bs++x.2)) else none
  | _,_=>none
def calmG (P:Program) (t:TypeId) (m:Bool) (n:Nat) (g:Goroutine):Goroutine:=match calmN P t m n g with | some x=>x.1 | none=>g
def calmB (P:Program) (t:TypeId) (m:Bool) (n:Nat) (g:Goroutine):Option (List (Nat×Bool)):=(calmN P t m n g).map (·.2)
theorem calm_one {n:Nat} {g g':Goroutine} {l:List (Nat×Bool)} (h:calmN P t m (n+1) g=some (g',l)) :
  ∃g_1 bs l',g.status=.running/\(∀st sm,stepE P t m g st sm=.go g_1 st sm #[] bs)/\calmN P t m n g_1=some (g',l')/\l=bs++l':=by
 simp only [calmN] at h
 split at h
 ·rename_i g_1 st' sm' es bs hs hst
  cases hc:es.isEmpty && bs.all (!·.2) with
  | false=>rw [hc] at h;cases h
  | true=>
   rw [hc] at h
   simp only [cond_true] at h
   obtain⟨⟨h2,l'⟩,h3,h4⟩:=Option.map_eq_some_iff.1 h
   cases h4
   simp only [Bool.and_eq_true,Array.isEmpty_iff] at hc
   obtain⟨rfl,hb⟩:=hc
   obtain⟨-,hall⟩:=stepE_free _ _ _ _ _ _ _ hst hb
   exact⟨g_1,bs,l',hs,hall,h3,rfl⟩
 ·cases h
theorem calm_split {n:Nat} {g:Goroutine} {l:List (Nat×Bool)} (h:calmB P t m n g=some l):calmN P t m n g=some (calmG P t m n g,l):=by
 unfold calmB at h
 obtain⟨⟨g',l'⟩,h1,rfl⟩:=Option.map_eq_some_iff.1 h
 simp only [calmG,h1]
theorem calmN_j {b:Nat} (hb:Z.tok.ph.blk=some b):∀{n:Nat} {g g':Goroutine} {l:List (Nat×Bool)},calmN P t m n g=some (g',l)->AllB b l->J (SysG P t N) Stop m g' Z->J (SysG P t N) Stop m g Z
 | 0,g,g',l,h,_,k=>by simp only [calmN,Option.some.injEq,Prod.mk.injEq] at h;rw [h.1];exact k
 | n+1,g,g',l,h,hl,k=>by
  obtain⟨g_1,bs,l',hs,hst,hn,rfl⟩:=calm_one h
  exact .syn (Syn.quiet hs hb hst (λ y hy=>hl y (List.mem_append_left _ hy)) (calmN_j hb hn (λ y hy=>hl y (List.mem_append_right _ hy)) k))
theorem J.calm {b n:Nat} {g:Goroutine} {l:List (Nat×Bool)} (hb:Z.tok.ph.blk=some b) (h:calmB P t m n g=some l) (hl:AllB b l) (k:J (SysG P t N) Stop m (calmG P t m n g) Z):J (SysG P t N) Stop m g Z:=
 calmN_j hb (calm_split h) hl k
theorem calmN_tl {b d k:Nat} {p:Ph}:∀{n:Nat} {g g':Goroutine} {l:List (Nat×Bool)},calmN P t false n g=some (g',l)->AllB b l->Tl P t N b k d p g'->Tl P t N b (n+k) d p g
 | 0,g,g',l,h,_,q=>by simp only [calmN,Option.some.injEq,Prod.mk.injEq] at h;rw [Nat.zero_add,h.1];exact q
 | n+1,g,g',l,h,hl,q=>by
  obtain⟨g_1,bs,l',hs,hst,hn,rfl⟩:=calm_one h
  rw [show n+1+k=(n+k)+1 by omega]
  exact⟨hs,.inl ⟨g_1,#[],bs,by simp,λ y hy=>hl y (List.mem_append_left _ hy),hst,calmN_tl hn (λ y hy=>hl y (List.mem_append_right _ hy)) q⟩⟩
theorem Tl.calm {b d k n:Nat} {p:Ph} {g:Goroutine} {l:List (Nat×Bool)} (h:calmB P t false n g=some l) (hl:AllB b l) (q:Tl P t N b k d p (calmG P t false n g)):Tl P t N b (n+k) d p g:=
 calmN_tl (calm_split h) hl q
theorem calmN_quits {d k:Nat}:∀{n:Nat} {g g':Goroutine},calmN P t false n g=some (g',[])->QuitsD P k d g'->QuitsD P (n+k) d g
 | 0,g,g',h,q=>by simp only [calmN,Option.some.injEq,Prod.mk.injEq] at h;rw [Nat.zero_add,h.1];exact q
 | n+1,g,g',h,q=>by
  obtain⟨g_1,bs,l',hs,hst,hn,hl⟩:=calm_one h
  have:bs=[]/\l'=[]:=by simpa using hl.symm
  obtain⟨rfl,rfl⟩:=this
  rw [show n+1+k=(n+k)+1 by omega]
  exact .inr ⟨hs,g_1,#[],by simp,λ w=>stepE_calm (hst undef undef) w,calmN_quits hn q⟩
theorem quits_calm {d k n:Nat} {g:Goroutine} (h:calmB P t false n g=some []) (q:QuitsD P k d (calmG P t false n g)):QuitsD P (n+k) d g:=calmN_quits (calm_split h) q
theorem quits_mute {d k:Nat} {g g':Goroutine} {st sm:Value} {es:Array Event} (hs:g.status=.running) (h:stepE P t false g undef undef=.go g' st sm es []) (hm:∀e∈es,Event.mute e=true) (q:QuitsD P k (deafBehind d es) g'):QuitsD P (k+1) d g:=
 .inr ⟨hs,g',es,hm,λ w=>stepE_calm h w,q⟩
def SE.info:SE->Option (Value×Value×Array Event×List (Nat×Bool))
 | .go _ st sm es bs=>some (st,sm,es,bs)
 | _=>none
theorem SE.of_info {s:SE} {g:Goroutine} {st sm:Value} {es:Array Event} {bs:List (Nat×Bool)} (h:s.info=some (st,sm,es,bs)):s=.go (s.get g) st sm es bs:=by
 cases s <;> simp only [SE.info,Option.some.injEq,Prod.mk.injEq,reduceCtorEq] at h
 obtain⟨rfl,rfl,rfl,rfl⟩:=h
 rfl
theorem info_all {g:Goroutine} {st sm:Value} {es:Array Event} {bs:List (Nat×Bool)} (h:(stepE P t m g undef undef).info=some (st,sm,es,bs)) (hf:bs.all (!·.2)=true):∀st sm,stepE P t m g st sm=.go ((stepE P t m g undef undef).get g) st sm es bs:=
 (stepE_free _ _ _ _ _ _ _ (SE.of_info h) hf).2
theorem Tl.mute {b d n:Nat} {p:Ph} {g:Goroutine} {st sm:Value} {es:Array Event} {bs:List (Nat×Bool)} (h:(stepE P t false g undef undef).info=some (st,sm,es,bs)) (hf:bs.all (!·.2)=true) (hb:AllB b bs)
  (hm:∀e∈es,Event.mute e=true) (k:Tl P t N b n (deafBehind d es) p ((stepE P t false g undef undef).get g)):Tl P t N b (n+1) d p g:=
 ⟨stepE_running (SE.of_info (g:=g) h),.inl ⟨_,es,bs,hm,hb,info_all h hf,k⟩⟩
theorem quits_say {d k:Nat} {g:Goroutine} {st sm:Value} {es:Array Event} (h:(stepE P t false g undef undef).info=some (st,sm,es,[])) (hm:∀e∈es,Event.mute e=true) (q:QuitsD P k (deafBehind d es) ((stepE P t false g undef undef).get g)):QuitsD P (k+1) d g:=
 quits_mute (stepE_running (SE.of_info (g:=g) h)) (SE.of_info h) hm q
theorem quits_mono:∀{n d k:Nat} {g:Goroutine},QuitsD P n d g->QuitsD P (n+k) d g
 | 0,d,k,g,h=>by cases k with | zero=>exact h | succ k=>exact .inl h
 | n+1,d,k,g,h=>by
  rw [show n+1+k=(n+k)+1 by omega]
  exact h.imp id λ⟨hs,g',es,hm,hst,q⟩=>⟨hs,g',es,hm,hst,quits_mono q⟩
end Go.TM
namespace Go.TM
variable {P:Program} {t:TypeId} {N:Nat} {m:Bool} {Z:View Tk} {Stop:Stp Tk} {g:Goroutine} {b d:Nat} {ds:List Spec} {pend:Bool} {k0:PS} {st sm:Value}
theorem allB_nil:AllB b []:=λ _ h=>by cases h
theorem allB_two {x y:Bool}:AllB b [(b,x),(b,y)]:=λ z h=>by simp at h;rcases h with rfl | rfl <;> rfl
theorem allB_one {x:Bool}:AllB b [(b,x)]:=λ z h=>by simp at h;subst h;rfl
theorem allB_four {x y z w:Bool}:AllB b [(b,x),(b,y),(b,z),(b,w)]:=λ v h=>by simp at h;rcases h with rfl | rfl | rfl | rfl <;> rfl
theorem J.dis (ht:Z.tok=⟨d,.par b ds pend k0⟩) (h:(stepE P t m g undef undef).info=some (st,sm,#[evM .disable],[])) (k:J (SysG P t N) Stop m ((stepE P t m g undef undef).get g) (Z.at (d+1) (.par b ds pend k0))):J (SysG P t N) Stop m g Z:=
 .syn (Syn.dis (stepE_running (SE.of_info (g:=g) h)) ht (info_all h rfl) allB_nil k)
theorem J.ena (ht:Z.tok=⟨d+1,.par b ds pend k0⟩) (h:(stepE P t m g undef undef).info=some (st,sm,#[evM .enable],[])) (k:J (SysG P t N) Stop m ((stepE P t m g undef undef).get g) (Z.at d (.par b ds pend k0))):J (SysG P t N) Stop m g Z:=
 .syn (Syn.ena (stepE_running (SE.of_info (g:=g) h)) ht (info_all h rfl) allB_nil k)
theorem J.said (wr:Bool) (ht:Z.tok=⟨1,.par b ds pend k0⟩) (h:(stepE P t m g undef undef).info=some (st,sm,#[evM (bif wr then .write ⟨b,1,none⟩ else .read ⟨b,1,none⟩)],[])) (k:J (SysG P t N) Stop m ((stepE P t m g undef undef).get g) Z):J (SysG P t N) Stop m g Z:=
 .syn (Syn.said (wr:=wr) (stepE_running (SE.of_info (g:=g) h)) ht (info_all h rfl) allB_nil k)
theorem J.acq (ht:Z.tok=⟨0,.par b ds false .up⟩) (h:(stepE P t m g undef undef).info=some (st,sm,#[evM (.acquire ⟨b,0,none⟩)],[])) (k:∀Ms,Deps ds Ms->J (SysG P t N) Stop m ((stepE P t m g undef undef).get g) ((Z.with Ms.flatten).at 0 .out)):J (SysG P t N) Stop m g Z:=
 .syn (Syn.acq (stepE_running (SE.of_info (g:=g) h)) ht allB_nil (info_all h rfl) k)
theorem J.add (ht:Z.tok=⟨1,.par b ds false .run⟩) (hN:ds.length<N) (h:∀c,c<=ds.length->(stepE P t m g (stV c 0) (smV 0)).info=some (stV (c+1) 0,smV 0,#[evR b 0,evW b 0],[(b,true),(b,true)]) /\
  J (SysG P t N) Stop m ((stepE P t m g (stV c 0) (smV 0)).get g) (Z.at 1 (.par b ds true .run))):J (SysG P t N) Stop m g Z:=
 .syn (Syn.add (stepE_running (SE.of_info (g:=g) (h 0 (Nat.zero_le _)).1)) ht hN λ c hc=>⟨_,_,SE.of_info (g:=g) (h c hc).1,allB_two,(h c hc).2⟩)
theorem J.load {u:Nat} (ht:Z.tok=⟨1,.par b ds false k0⟩) (hk:SeenBy ds u k0) (h:∀c,c<=u->(stepE P t m g (stV c 0) (smV 0)).info=some (stV c 0,smV 0,#[evR b 0],[(b,true)]) /\
  (J (SysG P t N) Stop m ((stepE P t m g (stV c 0) (smV 0)).get g) (Z.at 1 (.par b ds false (.seen c)))\/(c=0/\J (SysG P t N) Stop m ((stepE P t m g (stV c 0) (smV 0)).get g) (Z.at 1 (.par b ds false .up))))):J (SysG P t N) Stop m g Z:=
 .syn (Syn.look (stepE_running (SE.of_info (g:=g) (h 0 (Nat.zero_le _)).1)) ht hk λ c hc=>⟨_,_,allB_one,.inl ⟨SE.of_info (g:=g) (h c hc).1,(h c hc).2⟩⟩)
theorem J.look2 {bs:List (Nat×Bool)} (ht:Z.tok=⟨1,.par b ds false .up⟩) (hb:AllB b bs) (h:(stepE P t m g (stV 0 0) (smV 0)).info=some (stV 0 0,smV 0,#[evR b 0],bs)) (k:J (SysG P t N) Stop m ((stepE P t m g (stV 0 0) (smV 0)).get g) Z):J (SysG P t N) Stop m g Z:=
 .syn (Syn.look2 (stepE_running (SE.of_info (g:=g) h)) ht hb (SE.of_info (g:=g) h) k)
theorem allB_three {x y z:Bool}:AllB b [(b,x),(b,y),(b,z)]:=λ v h=>by simp at h;rcases h with rfl | rfl | rfl <;> rfl
theorem calmN_j0:∀{n:Nat} {g g':Goroutine},calmN P t m n g=some (g',[])->J (SysG P t N) Stop m g' Z->J (SysG P t N) Stop m g Z
 | 0,g,g',h,k=>by simp only [calmN,Option.some.injEq,Prod.mk.injEq] at h;rw [h.1];exact k
 | n+1,g,g',h,k=>by
  obtain⟨g_1,bs,l',hs,hst,hn,hl⟩:=calm_one h
  have:bs=[]/\l'=[]:=by simpa using hl.symm
  obtain⟨rfl,rfl⟩:=this
  exact J.still hs (λ w=>stepE_calm (hst undef undef) w) (calmN_j0 hn k)
theorem J.calm0 {n:Nat} (h:calmB P t m n g=some []) (k:J (SysG P t N) Stop m (calmG P t m n g) Z):J (SysG P t N) Stop m g Z:=calmN_j0 (calm_split h) k
theorem J.cas {u:Nat} (ht:Z.tok=⟨1,.par b ds false k0⟩) (hk:SeenBy ds u k0) (hs:g.status=.running) (h:∀c,c<=u ->
  (∃bs,AllB b bs/\(stepE P t m g (stV c 0) (smV 0)).info=some (stV c 0,smV 0,#[evR b 0],bs)/\J (SysG P t N) Stop m ((stepE P t m g (stV c 0) (smV 0)).get g) (Z.at 1 (.par b ds false (.seen c)))) \/
  (1<=c/\∃bs,AllB b bs/\(stepE P t m g (stV c 0) (smV 0)).info=some (stV c 1,smV 0,#[evR b 0,evW b 0],bs)/\J (SysG P t N) Stop m ((stepE P t m g (stV c 0) (smV 0)).get g) (Z.at 1 (.par b ds false .wait)))):J (SysG P t N) Stop m g Z:=
 .syn (Syn.look hs ht hk λ c hc=>by
  rcases h c hc with⟨bs,hb,hi,k⟩ | ⟨h1,bs,hb,hi,k⟩
  ·exact⟨_,bs,hb,.inl ⟨SE.of_info (g:=g) hi,.inl k⟩⟩
  ·exact⟨_,bs,hb,.inr ⟨h1,SE.of_info (g:=g) hi,k⟩⟩)
end Go.TM
