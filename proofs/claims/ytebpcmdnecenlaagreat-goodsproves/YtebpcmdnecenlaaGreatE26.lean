/- A part of the proof: lemmas that the last text uses. No conditions of its own. -/
import Derived.KernelRfl
import Derived.Test.YtebpcmdnecenlaaGreatE22
import Derived.Test.YtebpcmdnecenlaaGreatE23
import Derived.Test.YtebpcmdnecenlaaGreatE07
import Derived.Test.YtebpcmdnecenlaaGreatE11
import Derived.Test.YtebpcmdnecenlaaGreatE25
set_option linter.unusedSimpArgs false
set_option linter.unusedVariables false
namespace Go.TM
variable {T:Type} {P:Program} {S:Sys P T}
theorem FnOk.code {g:FuncId} {N:Nat} {cc:C} {rl:List RV} (k:FnOk P g N cc rl) (hm:P.follows .mixedOrders = true) {args:List Value} (hn:args.length ≤ N) {σ:View T} {n:Kont T} {x:Nat → Kont T} {r:Kont T}
  (h:wpC S g none cc n x r (fm args) [] σ):∃ fd:Func,P.funcs[g]? = some fd ∧ fd.body = some (fd.body.getD .skip) ∧ fd.ntmps = N ∧ CodeV S g none (fd.body.getD .skip) (PostC N n x r) { tmps:=args.toArray ++ Array.replicate (fd.ntmps - args.toArray.size) undef,defers:=[] } σ:=by
 obtain ⟨fd,mu,dets,hf,hb,hc,rfl,hr,-⟩:=k.ok
 refine ⟨fd,hf,hb,rfl,?_⟩
 have hfr:FR fd.ntmps { tmps:=args.toArray ++ Array.replicate (fd.ntmps - args.toArray.size) undef,defers:=[] } (fm args) []:=by
  refine ⟨rfl,by simp;omega,fun t=>?_⟩
  simp only [fm,Array.getD_eq_getD_getElem?,List.getD_eq_getElem?_getD,Array.getElem?_append,List.size_toArray,List.getElem?_toArray]
  split
  ·rfl
  ·rename_i hlt
   rw [List.getElem?_eq_none (by omega),Array.getElem?_replicate]
   split <;> rfl
 subst hc
 exact wpC_sound hm _ hfr h
theorem upd_cell1 {LB i n:Nat} {e:TypeId} {u v:Value} {M:List Res}:Upd (((Addr.mk LB 0 none).add (i * 1)).add 0) v (.cell LB i u e n :: M) (.cell LB i v e n :: M):=by
 rw [add_none,add_none]
 simp only [Nat.zero_add,Nat.mul_one,Nat.add_zero]
 exact Upd.cell (a:=⟨LB,i,none⟩) rfl
theorem sees_cell1 {σ:View T} {LB i n:Nat} {e:TypeId} {v:Value} (h:Res.cell LB i v e n ∈ σ.M):σ.sees ((Addr.mk LB 0 none).add (i * 1)) v:=by
 rw [add_none]
 simp only [Nat.zero_add,Nat.mul_one]
 exact ⟨rfl,.inr ⟨e,n,h⟩⟩
def Tbl.rowMax (t:Tbl) (e x:Int) (ys:List Int):Int:=ys.foldl (fun m y=>max m (t.lev e x y)) 0
def maxL:List Int → Int
 | []=>0
 | x :: r=>r.foldl max x
def Tbl.near (t:Tbl) (e:Int) (xs ys:List Int):Int:=maxL (xs.map fun x=>t.rowMax e x ys)
end Go.TM
namespace Go.Proofs
open Go.TM
set_option maxRecDepth 100000
attribute [local irreducible] CallsV YieldV
theorem Tryz.max_ok {T:Type} {S:TM.Sys Tryz.prog T} {σ:View T} (a:Option Addr) (len cap:Nat) (l:List Int) (hl:Ints σ a len l) (hlen:len < 2 ^ 60) (hne:len ≠ 0):CallsV S 126 #[.slice a len cap] (fun v σ'=>v = .int .i64 (maxL l) ∧ σ' = σ) σ:=by
 refine CallsV.of (args:=[_]) Tryz.k126 Tryz.mixed (by simp) ?_
 have hll:=hl.1
 (conv=>whnf);(repeat (refine ⟨rfl,?_⟩;conv=>whnf))
 refine cb_split (fun hc=>?_) (fun hc=>?_)
 ·simp at hc;omega
 obtain ⟨ad,x,hx,rfl,hsp,hs⟩:=hl.at (show 0 < len by omega)
 obtain ⟨r,rfl⟩:∃ r,l = x :: r:=by
  cases l with
  | nil=>simp at hx
  | cons y r=>simp at hx;subst hx;exact ⟨r,rfl⟩
 (conv=>whnf)
 refine ⟨ad,0,⟨rfl,rfl,by omega⟩,?_⟩
 (conv=>whnf)
 refine ⟨_,hs,?_⟩
 (conv=>whnf)
 refine ⟨Nat,fun i=>[(0,.slice (some ad) len cap),(3,.int .i64 ((r.take (i - 1)).foldl max x)),(4,.int .i64 i)],fun i σ'=>σ' = σ ∧ 1 ≤ i ∧ i ≤ len,fun i=>len - i,1,⟨rfl,rfl,rfl,trivial⟩,⟨rfl,by omega,by omega⟩,?_⟩
 rintro i f _ ⟨rfl,h1,hi⟩
 (conv=>whnf);(repeat (refine ⟨rfl,?_⟩;conv=>whnf))
 refine cb_split (fun hc=>?_) (fun hc=>?_)
 ·have hlt:i < len:=by simpa using hc
  obtain ⟨ad',y,hy,e,hsp',hs'⟩:=hl.at hlt
  cases e
  (conv=>whnf)
  refine ⟨ad,i,⟨rfl,rfl,hlt⟩,?_⟩
  (conv=>whnf)
  refine ⟨_,hs',?_⟩
  (conv=>whnf)
  refine raw_max rfl rfl ?_
  (conv=>whnf)
  refine ⟨by unfold InR;omega,?_⟩
  (conv=>whnf)
  refine ⟨rfl,i + 1,⟨rfl,?_,rfl,trivial⟩,⟨rfl,by omega,by omega⟩,by show _ - _ < _ - _;omega⟩
  obtain ⟨k,rfl⟩:∃ k,i = k + 1:=⟨i - 1,by omega⟩
  have hy':r[k]? = some y:=by simpa using hy
  show Value.int .i64 (max _ y) = Value.int .i64 ((r.take (k + 1 + 1 - 1)).foldl max x)
  rw [show k + 1 + 1 - 1 = k + 1 by omega,take_at hy',List.foldl_append]
  rfl
 ·have hge:i = len:=by simp at hc;omega
  subst hge
  (conv=>whnf);(repeat (refine ⟨rfl,?_⟩;conv=>whnf))
  refine ⟨?_,rfl⟩
  rw [List.take_of_length_le (by simp at hll;omega)]
  rfl
end Go.Proofs
namespace Go.Proofs
open Go.TM
set_option maxRecDepth 100000
attribute [local irreducible] CallsV YieldV
section
variable (b bb lvb ib tb eb xb:Nat) (T:Array Value) (todo:List Go.Item)
def wkArgs:List Value:=[.pointer (some ⟨b,0,none⟩),.pointer (some ⟨bb,0,none⟩),.pointer (some ⟨lvb,0,none⟩),.pointer (some ⟨ib,0,none⟩),.pointer (some ⟨tb,0,none⟩),.pointer (some ⟨eb,0,none⟩),.pointer (some ⟨xb,0,none⟩)]
def wkD:Deferred:={ target:=.fn (.func 122) (wkArgs b bb lvb ib tb eb xb).toArray,args:=#[] ++ #[] }
def wkB:Frame:={ (default:Frame) with fn:=122,kind:=.deferred }
def doneD:Deferred:={ target:=.fn (.func 123) #[],args:=#[] ++ #[.pointer (some ⟨b,0,none⟩)] }
theorem Tryz.wk_c:calmB Tryz.prog 164 false 1 (childE Tryz.prog (wkD b bb lvb ib tb eb xb)) = some []:=by kernel_rfl
theorem Tryz.wk_e:calmG Tryz.prog 164 false 1 (childE Tryz.prog (wkD b bb lvb ib tb eb xb)) = R wkB { tmps:=(wkArgs b bb lvb ib tb eb xb).toArray ++ Array.replicate (Tryz.f122.ntmps - (wkArgs b bb lvb ib tb eb xb).toArray.size) undef,defers:=[] } [.code (Tryz.f122.body.getD .skip)] [Tryz.wroot]:=by kernel_rfl
theorem Tryz.wd_c:calmB Tryz.prog 164 false 1 (Rf { fr wkB ⟨T,[doneD b]⟩ todo with mode:=.returning } [Tryz.wroot]) = some []:=by kernel_rfl
theorem Tryz.wd_e:calmG Tryz.prog 164 false 1 (Rf { fr wkB ⟨T,[doneD b]⟩ todo with mode:=.returning } [Tryz.wroot]) = Tryz.dn0 b T todo:=by kernel_rfl
end
theorem Tryz.wkEnd (b:Nat) (D:TM.Spec) (T:Array Value) (todo:List Go.Item) {σ:View Tk} (ht:σ.tok = ⟨0,.wrk b D⟩) (hD:D σ.M) {Stop:Stp Tk}:J (SysG Tryz.prog 164 2) Stop false (Rf { fr wkB ⟨T,[doneD b]⟩ todo with mode:=.returning } [Tryz.wroot]) σ:=by
 refine J.calm0 (Tryz.wd_c b T todo) ?_
 rw [Tryz.wd_e]
 refine J.calm (b:=b) (by rw [ht];rfl) (Tryz.dn0_calm b T todo) allB_two ?_
 show J _ Stop false (Tryz.dn1 b T todo) σ
 exact .syn (Syn.lay (stepE_running (SE.of_info (g:=Tryz.dn1 b T todo) (Tryz.dn1_info b T todo))) ht hD allB_nil (info_all (Tryz.dn1_info b T todo) rfl) (Tryz.tlDone b T todo))
theorem Tryz.worker_w {b bb lvb ib tb eb xb LB n i ya' yl yc:Nat} {σ:View Tk} {ya:Option Addr} {h:TH} {t:Tbl} {e x:Int} {ys:List Int} {K:List Deferred → View Tk → Prop}
  (hM:σ.M = [.cell LB i (.int .i64 0) 3 n]) (hbb:Blk σ bb #[.slice ya yl yc]) (hlv:Blk σ lvb #[.slice (some ⟨LB,0,none⟩) n n]) (hib:Blk σ ib #[.int .i64 i]) (htb:Blk σ tb #[.slice h.ea h.el h.ec,.slice h.ma h.ml h.mc,.slice h.ka h.kl h.kc])
  (heb:Blk σ eb #[.int .i64 e]) (hxb:Blk σ xb #[.int .i64 x]) (hin:i < n) (ht:TabV σ.base h t) (hys:Ints σ.base ya yl ys) (hyl:yl < 2 ^ 60)
  (hK:∀ σ':View Tk,σ.sub σ' → σ'.tok = σ.tok → σ'.M = [.cell LB i (.int .i64 (t.rowMax e x ys)) 3 n] → K [doneD b] σ') :
  wpC (SysG Tryz.prog 164 2) 122 none Tryz.c122 (fun _ ds σ=>K ds σ) (fun _ _ _ _=>False) (fun _ _ _=>False) (fm (wkArgs b bb lvb ib tb eb xb)) [] σ:=by
 have hylen:=hys.1
 (conv=>whnf);(repeat (refine ⟨rfl,?_⟩;conv=>whnf))
 refine ⟨_,hbb.sees rfl,?_⟩
 (conv=>whnf)
 refine ⟨Nat,fun j=>[(2,.pointer (some ⟨lvb,0,none⟩)),(3,.pointer (some ⟨ib,0,none⟩)),(4,.pointer (some ⟨tb,0,none⟩)),(5,.pointer (some ⟨eb,0,none⟩)),(6,.pointer (some ⟨xb,0,none⟩)),(9,.slice ya yl yc),(10,.int .i64 yl),(11,.int .i64 j)],
  fun j σ'=>σ.sub σ' ∧ σ'.tok = σ.tok ∧ j ≤ yl ∧ σ'.M = [.cell LB i (.int .i64 (t.rowMax e x (ys.take j))) 3 n],fun j=>yl - j,0,⟨rfl,rfl,rfl,rfl,rfl,rfl,rfl,rfl,trivial⟩,⟨fun _ _ h=>h,rfl,by omega,hM⟩,?_⟩
 rintro j f σ₁ ⟨hsub,htok,hj,hM₁⟩
 have bl:∀ {q:Nat} {c:Array Value},Blk σ q c → Blk σ₁ q c:=fun ⟨t,fr,h⟩=>⟨t,fr,hsub _ _ h⟩
 (conv=>whnf);(repeat (refine ⟨rfl,?_⟩;conv=>whnf))
 refine cb_split (fun hc=>?_) (fun hc=>?_)
 ·have hlt:j < yl:=by simpa using hc
  obtain ⟨ad,y,hy,rfl,hsp,hs⟩:=(hys.ofBase hsub).at hlt
  (conv=>whnf)
  refine ⟨ad,j,⟨rfl,rfl,hlt⟩,?_⟩
  (conv=>whnf)
  refine ⟨_,hs,?_⟩
  (conv=>whnf)
  refine ⟨_,(bl hlv).sees rfl,?_⟩
  (conv=>whnf)
  refine ⟨_,(bl hib).sees rfl,?_⟩
  (conv=>whnf)
  refine ⟨_,(bl hlv).sees rfl,?_⟩
  (conv=>whnf)
  refine ⟨_,(bl hib).sees rfl,?_⟩
  (conv=>whnf)
  refine ⟨⟨LB,0,none⟩,i,⟨rfl,rfl,hin⟩,?_⟩
  (conv=>whnf)
  refine ⟨_,sees_cell1 (by rw [hM₁];exact List.mem_cons_self ..),?_⟩
  (conv=>whnf)
  refine ⟨[.slice h.ea h.el h.ec,.slice h.ma h.ml h.mc,.slice h.ka h.kl h.kc],⟨rfl,(bl htb).reads (fun k v hv=>by simpa using hv)⟩,?_⟩
  (conv=>whnf)
  refine ⟨_,(bl heb).sees rfl,?_⟩
  (conv=>whnf)
  refine ⟨_,(bl hxb).sees rfl,?_⟩
  (conv=>whnf)
  refine ⟨.int .i64 (t.lev e x y),fun σ' hle _=>?_,?_⟩
  ·(conv=>whnf)
   refine ⟨Tryz.k124.any,(Tryz.level_ok h t (ht.ofBase fun q o hq=>hle.imm _ _ (hsub q o hq)) e x y).mono ?_⟩
   rintro v σ'' ⟨rfl,rfl⟩ -
   exact ⟨rfl,_,.refl _,.refl _⟩
  (conv=>whnf)
  refine ⟨.int .i64 (max (t.rowMax e x (ys.take j)) (t.lev e x y)),fun σ' hle _=>raw_max rfl rfl ⟨rfl,σ',.refl _,.refl _⟩,?_⟩
  (conv=>whnf)
  intro σ₂ hle _
  have hM₂:σ₂.M = _:=hle.own.trans hM₁
  (conv=>whnf)
  refine ⟨⟨LB,0,none⟩,i,⟨rfl,rfl,hin⟩,?_⟩
  (conv=>whnf)
  refine ⟨rfl,rfl,_,by rw [hM₂];exact upd_cell1,?_⟩
  refine ⟨_,.refl _,?_⟩
  (conv=>whnf)
  refine ⟨by unfold InR;omega,?_⟩
  (conv=>whnf)
  refine ⟨rfl,j + 1,⟨rfl,rfl,rfl,rfl,rfl,rfl,rfl,rfl,trivial⟩,⟨fun q o hq=>hle.imm _ _ (hsub q o hq),hle.tok.trans htok,by omega,?_⟩,by show _ - _ < _ - _;omega⟩
  have:t.rowMax e x (ys.take (j + 1)) = max (t.rowMax e x (ys.take j)) (t.lev e x y):=by
   unfold Tbl.rowMax
   rw [take_at hy,List.foldl_append];rfl
  rw [this]
  rfl
 ·have hge:j = yl:=by simp at hc;omega
  subst hge
  (conv=>whnf);(repeat (refine ⟨rfl,?_⟩;conv=>whnf))
  have hh:K [doneD b] σ₁:=hK σ₁ hsub htok (by rw [hM₁,List.take_of_length_le (by omega)])
  have ee:(#[] ++ Array.map (evl (fm (wkArgs b bb lvb ib tb eb xb))) #[Operand.tmp 0]:Array Value) = #[] ++ #[.pointer (some ⟨b,0,none⟩)]:=by simp [evl,fm,wkArgs]
  rw [ee]
  exact hh
theorem Tryz.worker_j {b bb lvb ib tb eb xb LB n i yl yc:Nat} {σ:View Tk} {ya:Option Addr} {h:TH} {t:Tbl} {e x:Int} {ys:List Int} (D:TM.Spec) (htok:σ.tok = ⟨0,.wrk b D⟩)
  (hM:σ.M = [.cell LB i (.int .i64 0) 3 n]) (hbb:Blk σ bb #[.slice ya yl yc]) (hlv:Blk σ lvb #[.slice (some ⟨LB,0,none⟩) n n]) (hib:Blk σ ib #[.int .i64 i]) (htb:Blk σ tb #[.slice h.ea h.el h.ec,.slice h.ma h.ml h.mc,.slice h.ka h.kl h.kc])
  (heb:Blk σ eb #[.int .i64 e]) (hxb:Blk σ xb #[.int .i64 x]) (hin:i < n) (ht:TabV σ.base h t) (hys:Ints σ.base ya yl ys) (hyl:yl < 2 ^ 60) (hD:D [.cell LB i (.int .i64 (t.rowMax e x ys)) 3 n]) (Stop:Stp Tk) :
  J (SysG Tryz.prog 164 2) Stop false (childE Tryz.prog (wkD b bb lvb ib tb eb xb)) σ:=by
 refine J.calm0 (Tryz.wk_c ..) ?_
 rw [Tryz.wk_e]
 obtain ⟨fd,hfd,hbd,hN,hcode⟩:=Tryz.k122.code (S:=SysG Tryz.prog 164 2) Tryz.mixed (args:=wkArgs b bb lvb ib tb eb xb) (by simp [wkArgs])
  (Tryz.worker_w (K:=fun ds σ'=>ds = [doneD b] ∧ σ'.tok = σ.tok ∧ D σ'.M) (ya':=0) hM hbb hlv hib htb heb hxb hin ht hys hyl fun σ' _ h2 h3=>⟨rfl,h2,by rw [h3];exact hD⟩)
 have:fd = Tryz.f122:=Option.some.inj (hfd.symm.trans Tryz.func122)
 subst this
 refine J.body (fn:=122) (Q:=_) ⟨rfl,rfl,by simp [wkB],by simp⟩ hcode fun e' a' σ' hq=>?_
 obtain ⟨f',ds',hf',hq⟩:=hq
 cases e' with
 | normal=>
  obtain ⟨rfl,h2,h3⟩:=hq
  refine ⟨.inl rfl,fun todo=>?_⟩
  obtain ⟨T,dd⟩:=a'
  have hdd:dd = [doneD b]:=hf'.ds
  subst hdd
  exact Tryz.wkEnd b D T todo (h2.trans htok) h3
 | exit i=>exact hq.elim
 | ret=>exact hq.elim
end Go.Proofs
namespace Go.TM
def specsT (LB n:Nat) (t:Tbl) (e:Int) (xs ys:List Int):Nat → List Spec
 | 0=>[]
 | i + 1=>(fun M=>M = [.cell LB i (.int .i64 (t.rowMax e (xs.getD i 0) ys)) 3 n]) :: specsT LB n t e xs ys i
theorem specsT_len (LB n:Nat) (t:Tbl) (e:Int) (xs ys:List Int):∀ i,(specsT LB n t e xs ys i).length = i
 | 0=>rfl
 | i + 1=>by simp [specsT,specsT_len LB n t e xs ys i]
theorem deps_mem {LB n:Nat} {t:Tbl} {e:Int} {xs ys:List Int}:∀ {i:Nat} {Ms:List (List Res)},Deps (specsT LB n t e xs ys i) Ms → ∀ k,k < i → Res.cell LB k (.int .i64 (t.rowMax e (xs.getD k 0) ys)) 3 n ∈ Ms.flatten
 | 0,_,_,k,hk=>absurd hk (Nat.not_lt_zero _)
 | i + 1,[],h,_,_=>h.elim
 | i + 1,M :: Ms,h,k,hk=>by
  obtain ⟨h1,h2⟩:=h
  simp only [List.flatten_cons,List.mem_append]
  by_cases e:k = i
  ·subst e;rw [h1];exact .inl (List.mem_singleton.2 rfl)
  ·exact .inr (deps_mem h2 k (by omega))
theorem cellsFrom_drop {LB n:Nat} {e:TypeId} {z:Value} {i:Nat} (h:i < n):cellsFrom LB e n ((List.replicate n z).drop i) i = .cell LB i z e n :: cellsFrom LB e n ((List.replicate n z).drop (i + 1)) (i + 1):=by
 rw [List.drop_eq_getElem_cons (by simpa using h)]
 simp [cellsFrom]
end Go.TM
namespace Go.Proofs
open Go.TM
set_option maxRecDepth 100000
attribute [local irreducible] CallsV YieldV
theorem Tryz.nearest_ok {σ:View Tk} (htok:σ.tok = ⟨0,.out⟩) (h:TH) (t:Tbl) (ht:TabV σ.base h t) (e:Int) (aa ya:Option Addr) (al ac yl yc:Nat) (xs ys:List Int) (hxs:Ints σ.base aa al xs) (hys:Ints σ.base ya yl ys) (hal:al ≤ 2) (hyl:yl < 2 ^ 60) :
  CallsV (SysG Tryz.prog 164 2) 88 #[h.v,.int .i64 e,.slice aa al ac,.slice ya yl yc] (fun v σ'=>v = .int .i64 (t.near e xs ys) ∧ σ' = σ) σ:=by
 refine CallsV.post (R:=fun v σ'=>v = .int .i64 (t.near e xs ys) ∧ σ.sub σ' ∧ σ'.tok = ⟨0,.out⟩ ∧ σ.M.Sublist σ'.M) (CallsV.of (args:=[_,_,_,_]) Tryz.k88 Tryz.mixed (by simp) ?_) ?_
 rotate_left
 ·rintro v σ' ⟨rfl,h1,h2,h3⟩
  refine ⟨σ,(shift_drop h3).trans (shift_le (σ:=σ) (σ':={ σ' with M:=σ.M }) ⟨h1,rfl,h2.trans htok.symm⟩),rfl,rfl⟩
 have hxl:=hxs.1
 (conv=>whnf)
 intro b₁ σ₁ h₁ hb₁
 (conv=>whnf)
 intro b₂ σ₂ h₂ hb₂
 (conv=>whnf)
 intro b₃ σ₃ h₃ hb₃
 (conv=>whnf)
 obtain ⟨inf,hi1,hi2,hi3,hi4⟩:=Tryz.i3
 refine raw_makeInts (n:=al) Tryz.u27 hi1 hi2 rfl hi3 (by omega) rfl rfl (by omega) fun LB hLB=>?_
 (conv=>whnf)
 intro lvb hlvb
 refine ⟨_,.refl _,?_⟩
 (conv=>whnf)
 refine ⟨rfl,st_new (vs:=[.slice (some ⟨LB,0,none⟩) al al]) hlvb rfl (by simp [Value.single]) fun σ₄ h₄ hb₄=>?_⟩
 (conv=>whnf)
 intro wb hwb
 have h03:=(h₁.trans h₂).trans h₃
 have hM₄:σ₄.M = .obj LB (.cells (List.replicate al (.int .i64 0)).toArray 3) :: σ.M:=by rw [h₄.own];show _ :: σ₃.M = _;rw [h03.own]
 refine ⟨⟨σ₄.I,.obj wb (.cells #[stV 0 0,smV 0] 164 (0,0)) :: (cellsFrom LB 3 al (List.replicate al (.int .i64 0)) 0 ++ σ.M),σ₄.tok⟩,?_,?_⟩
 ·refine Shift.trans (shift_perm (M':=.obj LB (.cells (List.replicate al (.int .i64 0)).toArray 3) :: .obj wb (.cells #[stV 0 0,smV 0] 164 (0,0)) :: σ.M) ?_) ?_
  ·show List.Perm (.obj wb _ :: σ₄.M) _
   rw [hM₄];exact List.Perm.swap ..
  ·refine Shift.trans (shift_split (b:=LB) (e:=3) (vs:=List.replicate al (.int .i64 0)) (M₀:=.obj wb (.cells #[stV 0 0,smV 0] 164 (0,0)) :: σ.M) rfl) (shift_perm ?_)
   rw [List.length_replicate]
   exact List.perm_middle
 have hsub4:σ.sub σ₄:=fun q o hq=>h₄.imm _ _ (h03.imm _ _ hq)
 have htok4:σ₄.tok = ⟨0,.out⟩:=(h₄.tok.trans h03.tok).trans htok
 have up:∀ q o,σ₃.I q = some o → σ₄.I q = some o:=fun q o hq=>h₄.imm _ _ hq
 have bl:∀ {q:Nat} {c:Array Value},Blk σ₃ q c → Blk σ₄ q c:=fun ⟨t,fr,h⟩=>⟨t,fr,up _ _ h⟩
 have hb₁:=bl (hb₁.le (h₂.trans h₃))
 have hb₂:=bl (hb₂.le h₃)
 have hb₃:=bl hb₃
 have hb₄:Blk σ₄ lvb #[.slice (some ⟨LB,0,none⟩) al al]:=hb₄
 (conv=>whnf)
 refine ⟨Nat,fun i=>[(4,.pointer (some ⟨b₁,0,none⟩)),(5,.pointer (some ⟨b₂,0,none⟩)),(7,.pointer (some ⟨b₃,0,none⟩)),(9,.pointer (some ⟨lvb,0,none⟩)),(10,.pointer (some ⟨wb,0,none⟩)),(16,.slice aa al ac),(17,.int .i64 al),(18,.int .i64 i)],
  fun i σ'=>σ₄.sub σ' ∧ i ≤ al ∧ ((i = 0 ∧ σ'.tok = ⟨0,.out⟩ ∧ σ'.M = .obj wb (.cells #[stV 0 0,smV 0] 164 (0,0)) :: (cellsFrom LB 3 al (List.replicate al (.int .i64 0)) 0 ++ σ.M)) ∨
   (0 < i ∧ σ'.tok = ⟨0,.par wb (specsT LB al t e xs ys i) false .run⟩ ∧ σ'.M = cellsFrom LB 3 al ((List.replicate al (.int .i64 0)).drop i) i ++ σ.M)),fun i=>al - i,0,
  ⟨rfl,rfl,rfl,rfl,rfl,rfl,rfl,rfl,trivial⟩,⟨fun _ _ h=>h,by omega,.inl ⟨rfl,htok4,rfl⟩⟩,?_⟩
 rintro i f σ₅ ⟨hs5,hi,hst⟩
 have bl5:∀ {q:Nat} {c:Array Value},Blk σ₄ q c → Blk σ₅ q c:=fun ⟨t,fr,h⟩=>⟨t,fr,hs5 _ _ h⟩
 (conv=>whnf);(repeat (refine ⟨rfl,?_⟩;conv=>whnf))
 refine cb_split (fun hc=>?_) (fun hc=>?_)
 ·have hlt:i < al:=by simpa using hc
  obtain ⟨ad,x,hx,rfl,hsp,hs⟩:=(hxs.ofBase (σ':=σ₅) fun q o hq=>hs5 _ _ (hsub4 q o hq)).at hlt
  have hgx:xs.getD i 0 = x:=by simp [List.getD_eq_getElem?_getD,hx]
  (conv=>whnf)
  refine ⟨ad,i,⟨rfl,rfl,hlt⟩,?_⟩
  (conv=>whnf)
  refine ⟨_,hs,?_⟩
  (conv=>whnf)
  intro b11 hf11
  refine ⟨_,.refl _,?_⟩
  (conv=>whnf)
  intro b12 hf12
  refine ⟨_,.refl _,?_⟩
  (conv=>whnf)
  refine ⟨rfl,st_under (v:=.int .i64 i) hf11 hf12 rfl rfl fun σ₆ h₆ hb11 hf12'=>?_⟩
  (conv=>whnf)
  refine ⟨rfl,st_new (vs:=[.int .i64 x]) hf12' rfl (by simp [Value.single]) fun σ₇ h₇ hb12=>?_⟩
  have hb11:=hb11.le h₇
  have h57:=h₆.trans h₇
  have hs7:σ₄.sub σ₇:=fun q o hq=>h57.imm _ _ (hs5 q o hq)
  (conv=>whnf)
  have hadd:CallsV (SysG Tryz.prog 164 2) 121 #[.pointer (some ⟨wb,0,none⟩),.int .i64 1] (fun v σ'=>σ'.I = σ₇.I ∧ σ'.tok = ⟨0,.par wb (specsT LB al t e xs ys i) true .run⟩ ∧ σ'.M = cellsFrom LB 3 al ((List.replicate al (.int .i64 0)).drop i) i ++ σ.M) σ₇:=by
   rcases hst with ⟨rfl,htk,hM5⟩ | ⟨hpos,htk,hM5⟩
   ·refine CallsV.make (M₁:=[]) (M₂:=cellsFrom LB 3 al (List.replicate al (.int .i64 0)) 0 ++ σ.M) (h57.tok.trans htk) (h57.own.trans hM5) ?_
    exact Tryz.addV (ds:=[]) (by simp) rfl ⟨rfl,rfl,rfl⟩
   ·exact Tryz.addV (ds:=specsT LB al t e xs ys i) (by rw [specsT_len];omega) (h57.tok.trans htk) ⟨rfl,rfl,h57.own.trans hM5⟩
  refine ⟨Tryz.any121,hadd.mono ?_⟩
  rintro v σ₈ ⟨hI8,htk8,hM8⟩ -
  have hs8:σ₄.sub σ₈:=fun q o hq=>by rw [hI8];exact hs7 q o hq
  have bl8:∀ {q:Nat} {c:Array Value},Blk σ₇ q c → Blk σ₈ q c:=fun ⟨t,fr,h⟩=>⟨t,fr,by rw [hI8];exact h⟩
  (conv=>whnf)
  intro a ha
  rw [Tryz.go88_eq]
  refine cv_region ?_
  rw [Tryz.go88_r]
  refine ov_con fun ⟨w,hw⟩=>?_
  refine ov_cons Tryz.o88_0 (wanted_none Tryz.o88_g0) (.inl rfl) ?_
  unfold OpV
  have e10:a.eval (.tmp 10) = .pointer (some ⟨wb,0,none⟩):=ha.get 10
  have e7:a.eval (.tmp 7) = .pointer (some ⟨b₃,0,none⟩):=ha.get 7
  have e9:a.eval (.tmp 9) = .pointer (some ⟨lvb,0,none⟩):=ha.get 9
  have e11:a.eval (.tmp 11) = .pointer (some ⟨b11,0,none⟩):=ha.get 11
  have e4:a.eval (.tmp 4) = .pointer (some ⟨b₁,0,none⟩):=ha.get 4
  have e5:a.eval (.tmp 5) = .pointer (some ⟨b₂,0,none⟩):=ha.get 5
  have e12:a.eval (.tmp 12) = .pointer (some ⟨b12,0,none⟩):=ha.get 12
  have hmap:(#[Operand.tmp 10,.tmp 7,.tmp 9,.tmp 11,.tmp 4,.tmp 5,.tmp 12].map a.eval:Array Value) = (wkArgs wb b₃ lvb b11 b₁ b₂ b12).toArray:=by simp [e10,e7,e9,e11,e4,e5,e12,wkArgs]
  have hmap0:(#[].map a.eval:Array Value) = #[]:=by simp
  simp only [execOp,Tryz.o88_op0,Instr.makeFunc,sv_bind,sv_pure,NextV,hmap,hmap0]
  rw [Tryz.o88_d0]
  have ha':=ha.put (some 24) (.func (.func 122) #[] (wkArgs wb b₃ lvb b11 b₁ b₂ b12).toArray) (by intro d hd;cases hd;decide)
  have h24:(a.put (some 24) (.func (.func 122) #[] (wkArgs wb b₃ lvb b11 b₁ b₂ b12).toArray)).eval (.tmp 24) = .func (.func 122) #[] (wkArgs wb b₃ lvb b11 b₁ b₂ b12).toArray:=by rw [ha'.eval];rfl
  have hperm:List.Perm σ₈.M ([.cell LB i (.int .i64 0) 3 al] ++ (cellsFrom LB 3 al ((List.replicate al (.int .i64 0)).drop (i + 1)) (i + 1) ++ σ.M)):=by rw [hM8,cellsFrom_drop hlt];exact List.Perm.refl _
  refine ov_go (D:=fun M=>M = [.cell LB i (.int .i64 (t.rowMax e (xs.getD i 0) ys)) 3 al]) (ds:=specsT LB al t e xs ys i) (σp:=⟨σ₈.I,cellsFrom LB 3 al ((List.replicate al (.int .i64 0)).drop (i + 1)) (i + 1) ++ σ.M,⟨0,.par wb (specsT LB al t e xs ys (i + 1)) false .run⟩⟩)
   (σc:=⟨σ₈.I,[.cell LB i (.int .i64 0) 3 al],⟨0,.wrk wb fun M=>M = [.cell LB i (.int .i64 (t.rowMax e (xs.getD i 0) ys)) 3 al]⟩⟩) Tryz.o88_1 (wanted_none Tryz.o88_g1) Tryz.o88_op1 h24 htk8 (fork_part hw hperm) rfl rfl (fun Stop=>?_) ?_
  ·refine Tryz.worker_j (σ:=⟨σ₈.I,[.cell LB i (.int .i64 0) 3 al],⟨0,.wrk wb fun M=>M = [.cell LB i (.int .i64 (t.rowMax e (xs.getD i 0) ys)) 3 al]⟩⟩) (ya:=ya) (yl:=yl) (yc:=yc) (h:=h) (t:=t) (e:=e) (x:=x) (ys:=ys) (n:=al) (i:=i) (LB:=LB) _ rfl rfl (bl8 ((hb₃.imm' hs7))) (bl8 (hb₄.imm' hs7)) (bl8 hb11) (bl8 (hb₁.imm' hs7)) (bl8 (hb₂.imm' hs7)) (bl8 hb12) hlt ?_ ?_ hyl ?_ Stop
   ·exact TabV.ofBase ht fun q o hq=>hs8 _ _ (hsub4 q o hq)
   ·exact Ints.ofBase hys fun q o hq=>hs8 _ _ (hsub4 q o hq)
   ·rw [hgx]
  ·refine ov_nil ?_
   rw [Tryz.o88_d1]
   refine ⟨by simp [Act.put],_,ha'.get,?_⟩
   (conv=>whnf)
   refine ⟨by unfold InR;omega,?_⟩
   (conv=>whnf)
   refine ⟨by simpa [Act.put] using ha.ds,i + 1,⟨rfl,rfl,rfl,rfl,rfl,rfl,rfl,rfl,trivial⟩,⟨hs8,by omega,.inr ⟨by omega,rfl,rfl⟩⟩,by show _ - _ < _ - _;omega⟩
 ·have hge:i = al:=by simp at hc;omega
  subst hge
  (conv=>whnf)
  have hwait:CallsV (SysG Tryz.prog 164 2) 125 #[.pointer (some ⟨wb,0,none⟩)] (fun v σ'=>σ'.I = σ₅.I ∧ σ'.tok = ⟨0,.out⟩ ∧ ∃ Ms,Deps (specsT LB i t e xs ys i) Ms ∧ σ'.M = σ.M ++ Ms.flatten) σ₅:=by
   rcases hst with ⟨rfl,htk,hM5⟩ | ⟨hpos,htk,hM5⟩
   ·refine CallsV.make (M₁:=[]) (M₂:=cellsFrom LB 3 0 (List.replicate 0 (.int .i64 0)) 0 ++ σ.M) htk hM5 ?_
    exact Tryz.waitV (ds:=[]) (by simp) rfl fun Ms hMs=>⟨rfl,rfl,Ms,hMs,rfl⟩
   ·refine Tryz.waitV (ds:=specsT LB i t e xs ys i) (by rw [specsT_len];exact hal) htk fun Ms hMs=>⟨rfl,rfl,Ms,hMs,?_⟩
    show σ₅.M ++ Ms.flatten = _
    rw [hM5,List.drop_eq_nil_of_le (by simp)]
    rfl
  refine ⟨Tryz.any125,hwait.mono ?_⟩
  rintro v σ₆ ⟨hI6,htk6,Ms,hMs,hM6⟩ -
  have bl6:∀ {q:Nat} {c:Array Value},Blk σ₄ q c → Blk σ₆ q c:=fun ⟨t,fr,h⟩=>⟨t,fr,by rw [hI6];exact hs5 _ _ h⟩
  have hsub6:σ.sub σ₆:=fun q o hq=>by rw [hI6];exact hs5 _ _ (hsub4 q o hq)
  have hMsub:σ.M.Sublist σ₆.M:=by rw [hM6];exact List.sublist_append_left ..
  (conv=>whnf)
  refine ⟨_,(bl6 hb₄).sees rfl,?_⟩
  (conv=>whnf);(repeat (refine ⟨rfl,?_⟩;conv=>whnf))
  refine cb_split (fun hc=>?_) (fun hc=>?_)
  ·have h0:i = 0:=by simp at hc;omega
   subst h0
   (conv=>whnf);(repeat (refine ⟨rfl,?_⟩;conv=>whnf))
   refine ⟨?_,hsub6,htk6,hMsub⟩
   have:xs = []:=by simpa using hxl
   subst this
   rfl
  ·have h0:i ≠ 0:=by simp at hc;omega
   (conv=>whnf)
   refine ⟨_,(bl6 hb₄).sees rfl,?_⟩
   (conv=>whnf)
   refine ⟨Tryz.k126.any,(Tryz.max_ok (some ⟨LB,0,none⟩) i i (xs.map fun x=>t.rowMax e x ys) ⟨by rw [List.length_map];exact hxl,fun k y hk=>⟨_,rfl,rfl,?_⟩⟩ (by omega) h0).mono ?_⟩
   ·have hkl:k < i:=by have:=(List.getElem?_eq_some_iff.1 hk).1;simp at this;omega
    have hm:=deps_mem hMs k hkl
    have hy:t.rowMax e (xs.getD k 0) ys = y:=by
     rw [List.getElem?_map] at hk
     cases hx:xs[k]? with
     | none=>rw [hx] at hk;cases hk
     | some x=>rw [hx] at hk;simp at hk;rw [← hk,List.getD_eq_getElem?_getD,hx];rfl
    rw [hy] at hm
    exact sees_cell1 (by rw [hM6];exact List.mem_append_right _ hm)
   rintro v σ' ⟨rfl,rfl⟩ -
   (conv=>whnf);(repeat (refine ⟨rfl,?_⟩;conv=>whnf))
   exact ⟨hsub6,htk6,hMsub⟩
end Go.Proofs
namespace Go.TM
def Tbl.kinF (t:Tbl) (one two:Int) (a b:List Int):Int:=if t.openF one [a] = 0 then t.openF two [b] else t.openF one [a]
def Tbl.kinA (t:Tbl) (one two:Int) (a:List Int):SC:=t.moved one (max one two) a
def Tbl.kinB (t:Tbl) (one two:Int) (b:List Int):SC:=t.moved two (max one two) b
def Tbl.kinS (t:Tbl) (one two:Int) (a b:List Int):Int × Int:=
 if t.kinF one two a b = 0 then (t.near (max one two) (listS (t.kinA one two a).s) (listS (t.kinB one two b).s),t.near (max one two) (listS (t.kinA one two a).c) (listS (t.kinB one two b).c)) else (0,0)
theorem listS_len (s:Nat → Bool):(listS s).length ≤ 8:=by
 unfold listS
 rw [List.length_map]
 have:=List.length_filter_le s (List.range 8)
 simpa using this
theorem View.frz_base {σ:View Tk} (h:σ.tok = ⟨0,.out⟩):σ.frz = σ.base:=by unfold View.frz View.base;rw [h]
end Go.TM
namespace Go.Proofs
open Go.TM
set_option maxRecDepth 100000
attribute [local irreducible] CallsV YieldV rngX
theorem Tryz.Kin_ok {σ:View Tk} (htok:σ.tok = ⟨0,.out⟩) (h:TH) (t:Tbl) (ht:TabV σ.frz h t) (one two:Int) (a a':Option Addr) (len cap len' cap':Nat) (l l':List Int) (hl:Ints σ a len l) (hl':Ints σ a' len' l') (hlen:len < 2 ^ 60) (hlen':len' < 2 ^ 60)
  (hN:t.kinF one two l l' = 0 → (listS (t.kinA one two l).s).length ≤ 2 ∧ (listS (t.kinA one two l).c).length ≤ 2) :
  CallsV (SysG Tryz.prog 164 2) 41 #[h.v,.int .i64 one,.slice a len cap,.int .i64 two,.slice a' len' cap'] (fun v σ'=>v = .tuple #[.agg #[.int .i64 (t.kinS one two l l').1,.int .i64 (t.kinS one two l l').2],.int .i64 (t.kinF one two l l')] ∧ σ' = σ) σ:=by
 refine CallsV.pure' (CallsV.of (args:=[_,_,_,_,_]) Tryz.k41 Tryz.mixed (by simp) ?_)
 have htσ:=ht.lg frz_self
 (conv=>whnf);(repeat (refine ⟨rfl,?_⟩;conv=>whnf))
 intro b5 σ₁ h₁ hb₅
 have hb₅:Blk σ₁ b5 #[.slice h.ea h.el h.ec,.slice h.ma h.ml h.mc,.slice h.ka h.kl h.kc]:=hb₅
 (conv=>whnf)
 intro b10 hf10
 refine ⟨_,.refl _,?_⟩
 have hlg:σ.lg (σ₁.put b10 (.cells #[.int .i64 0,.int .i64 0] 49)):=h₁.lg.trans (lg_put b10 _)
 have hM:(σ₁.put b10 (.cells #[.int .i64 0,.int .i64 0] 49)).M = .obj b10 (.cells #[.int .i64 0,.int .i64 0] 49 (0,0)) :: σ.M:=by show _ :: σ₁.M = _;rw [h₁.own]
 have hb₅':Blk (σ₁.put b10 (.cells #[.int .i64 0,.int .i64 0] 49)) b5 #[.slice h.ea h.el h.ec,.slice h.ma h.ml h.mc,.slice h.ka h.kl h.kc]:=hb₅
 generalize σ₁.put b10 (.cells #[.int .i64 0,.int .i64 0] 49) = σ₂ at hlg hM hb₅' ⊢
 clear hb₅ hf10 h₁
 (conv=>whnf)
 refine ⟨_,⟨rfl,hb₅'.rdT fun _ _ h=>h⟩,?_⟩
 (conv=>whnf)
 refine ⟨Tryz.k31.any,(Tryz.checkListG_ok h t (htσ.lg hlg) one a len cap l (hl.lg hlg) hlen).mono ?_⟩
 rintro _ σ' ⟨rfl,hσ'⟩ -
 obtain rfl:=hσ'.symm
 (conv=>whnf);(repeat (refine ⟨rfl,?_⟩;conv=>whnf))
 refine cb_split (fun hc=>?_) (fun hc=>?_)
 ·have hf:t.openF one [l] ≠ 0:=by simpa using hc
  have hF:t.kinF one two l l' = t.openF one [l]:=by unfold Tbl.kinF;rw [if_neg hf]
  have hS:t.kinS one two l l' = (0,0):=by unfold Tbl.kinS;rw [hF,if_neg hf]
  rw [hS,hF]
  (conv=>whnf)
  refine ⟨rfl,st_all (vs:=[.int .i64 0,.int .i64 0]) [] hM rfl (by simp [Value.single]) ?_⟩
  (conv=>whnf)
  refine ⟨[.int .i64 0,.int .i64 0],⟨rfl,reads_at [] rfl⟩,?_⟩
  (conv=>whnf)
  exact ⟨rfl,hlg.imm,⟨[_],rfl⟩,hlg.tok⟩
 have hf1:t.openF one [l] = 0:=by simpa using hc
 (conv=>whnf)
 refine ⟨_,⟨rfl,hb₅'.rdT fun _ _ h=>h⟩,?_⟩
 (conv=>whnf)
 refine ⟨Tryz.k31.any,(Tryz.checkListG_ok h t (htσ.lg hlg) two a' len' cap' l' (hl'.lg hlg) hlen').mono ?_⟩
 rintro _ σ' ⟨rfl,hσ'⟩ -
 obtain rfl:=hσ'.symm
 have hF:t.kinF one two l l' = t.openF two [l']:=by unfold Tbl.kinF;rw [if_pos hf1]
 (conv=>whnf);(repeat (refine ⟨rfl,?_⟩;conv=>whnf))
 refine cb_split (fun hc=>?_) (fun hc=>?_)
 ·have hf:t.openF two [l'] ≠ 0:=by simpa using hc
  have hS:t.kinS one two l l' = (0,0):=by unfold Tbl.kinS;rw [hF,if_neg hf]
  rw [hS,hF]
  (conv=>whnf)
  refine ⟨rfl,st_all (vs:=[.int .i64 0,.int .i64 0]) [] hM rfl (by simp [Value.single]) ?_⟩
  (conv=>whnf)
  refine ⟨[.int .i64 0,.int .i64 0],⟨rfl,reads_at [] rfl⟩,?_⟩
  (conv=>whnf)
  exact ⟨rfl,hlg.imm,⟨[_],rfl⟩,hlg.tok⟩
 have hf2:t.openF two [l'] = 0:=by simpa using hc
 rw [hf2] at hF
 obtain ⟨hfl,hed1,hc1⟩:=Tbl.open_one hf1
 obtain ⟨-,hed2,hc2⟩:=Tbl.open_one hf2
 have h1b:=Tbl.isEd_100 hfl hed1
 have h2b:=Tbl.isEd_100 hfl hed2
 have hmv:=Tbl.mv8 hfl
 have hmax:0 ≤ max one two ∧ max one two < 100:=by omega
 obtain ⟨hN1,hN2⟩:=hN hF
 (conv=>whnf)
 refine ⟨_,⟨rfl,hb₅'.rdT fun _ _ h=>h⟩,?_⟩
 (conv=>whnf)
 refine raw_max rfl rfl ?_
 (conv=>whnf)
 intro b14 hf14
 refine ⟨_,.refl _,?_⟩
 (conv=>whnf)
 refine ⟨rfl,st_new (vs:=[.slice h.ea h.el h.ec,.slice h.ma h.ml h.mc,.slice h.ka h.kl h.kc]) hf14 rfl (by simp [Value.single]) fun σ₃ h₃ hb₁₄=>?_⟩
 have hb₁₄:Blk σ₃ b14 #[.slice h.ea h.el h.ec,.slice h.ma h.ml h.mc,.slice h.ka h.kl h.kc]:=hb₁₄
 have hlg₃:=hlg.trans h₃.lg
 have hM₃:=h₃.own.trans hM
 have hf₃:σ.frz.lg σ₃.frz:=hlg₃.frz2
 (conv=>whnf)
 refine ⟨_,⟨rfl,hb₁₄.rdT fun _ _ h=>h⟩,?_⟩
 (conv=>whnf)
 refine ⟨Tryz.k79.any,(Tryz.move_ok h t (ht.lg hf₃) hmv one (max one two) h1b hmax a len cap l (hl.lg hlg₃) hlen fun n hn=>Tbl.item_lt hfl (chk_items hc1 n hn)).mono ?_⟩
 rintro _ σ' ⟨rfl,hσ'⟩ -
 obtain rfl:=hσ'.symm
 (conv=>whnf)
 intro b16 hf16
 refine ⟨_,.refl _,?_⟩
 (conv=>whnf)
 intro b17 hf17
 refine ⟨_,.refl _,?_⟩
 have hM5:((σ₃.put b16 (.cells noC 105)).put b17 (.cells noC 105)).M = .obj b17 (.cells noC 105 (0,0)) :: .obj b16 (.cells noC 105 (0,0)) :: .obj b10 (.cells #[.int .i64 0,.int .i64 0] 49 (0,0)) :: σ.M:=by show _ :: _ :: σ₃.M = _;rw [hM₃]
 (conv=>whnf)
 refine ⟨rfl,st_all (vs:=setC (t.kinA one two l).s) [_] hM5 rfl (setC_single _) ?_⟩
 (conv=>whnf)
 refine ⟨rfl,st_allG (vs:=setC (t.kinA one two l).c) [] rfl rfl (setC_single _) fun σ₄ hI₄ ht₄ hM₄=>?_⟩
 have hM₄:σ₄.M = .obj b17 (.cells (setC (t.kinA one two l).c).toArray 105 (0,0)) :: .obj b16 (.cells (setC (t.kinA one two l).s).toArray 105 (0,0)) :: .obj b10 (.cells #[.int .i64 0,.int .i64 0] 49 (0,0)) :: σ.M:=hM₄
 have hI₄:∀ x o,σ₃.I x = some o → σ₄.I x = some o:=hI₄
 have ht₄:σ₄.tok = σ₃.tok:=ht₄
 have hlg₄:σ.lg σ₄:=⟨fun x o h=>hI₄ x o (hlg₃.imm x o h),⟨[_,_,_],hM₄⟩,ht₄.trans hlg₃.tok⟩
 have hb₁₄4:=hb₁₄.imI hI₄
 (conv=>whnf)
 refine ⟨_,⟨rfl,hb₁₄4.rdT fun _ _ h=>h⟩,?_⟩
 (conv=>whnf)
 refine ⟨Tryz.k79.any,(Tryz.move_ok h t (ht.lg hlg₄.frz2) hmv two (max one two) h2b hmax a' len' cap' l' (hl'.lg hlg₄) hlen' fun n hn=>Tbl.item_lt hfl (chk_items hc2 n hn)).mono ?_⟩
 rintro _ σ' ⟨rfl,hσ'⟩ -
 obtain rfl:=hσ'.symm
 (conv=>whnf)
 intro b18 hf18
 refine ⟨_,.refl _,?_⟩
 (conv=>whnf)
 intro b19 hf19
 refine ⟨_,.refl _,?_⟩
 have hM6:((σ₄.put b18 (.cells noC 105)).put b19 (.cells noC 105)).M = .obj b19 (.cells noC 105 (0,0)) :: .obj b18 (.cells noC 105 (0,0)) :: σ₄.M:=rfl
 (conv=>whnf)
 refine ⟨rfl,st_all (vs:=setC (t.kinB one two l').s) [_] hM6 rfl (setC_single _) ?_⟩
 (conv=>whnf)
 refine ⟨rfl,st_allG (vs:=setC (t.kinB one two l').c) [] rfl rfl (setC_single _) fun σ₅ hI₅ ht₅ hM₅=>?_⟩
 have hM₅:σ₅.M = .obj b19 (.cells (setC (t.kinB one two l').c).toArray 105 (0,0)) :: .obj b18 (.cells (setC (t.kinB one two l').s).toArray 105 (0,0)) :: .obj b17 (.cells (setC (t.kinA one two l).c).toArray 105 (0,0)) :: .obj b16 (.cells (setC (t.kinA one two l).s).toArray 105 (0,0)) :: .obj b10 (.cells #[.int .i64 0,.int .i64 0] 49 (0,0)) :: σ.M:=by rw [hM₅];show _ :: _ :: σ₄.M = _;rw [hM₄]
 have hI₅:∀ x o,σ₄.I x = some o → σ₅.I x = some o:=hI₅
 have ht₅:σ₅.tok = σ₄.tok:=ht₅
 have hlg₅:σ.lg σ₅:=⟨fun x o h=>hI₅ x o (hlg₄.imm x o h),⟨[_,_,_,_,_],hM₅⟩,ht₅.trans hlg₄.tok⟩
 have hb₁₄5:=hb₁₄4.imI hI₅
 have hto₅:σ₅.tok = ⟨0,.out⟩:=hlg₅.tok.trans htok
 have htab:∀ σ':View Tk,σ₅.le σ' → TabV σ'.base h t:=fun σ' hle=>by
  have h1:σ'.tok = ⟨0,.out⟩:=hle.tok.trans hto₅
  rw [← View.frz_base h1]
  exact ht.lg (hlg₅.trans hle.lg).frz2
 have hbase:∀ (σ':View Tk),σ₅.le σ' → σ'.frz = σ'.base:=fun σ' hle=>View.frz_base (hle.tok.trans hto₅)
 clear hM₄ hM6 hf18 hf19 hM5 hf16 hf17
 (conv=>whnf)
 refine ⟨_,⟨rfl,hb₁₄5.rdT fun _ _ h=>h⟩,?_⟩
 (conv=>whnf)
 refine ⟨setC (t.kinA one two l).s,⟨rfl,reads_at [_,_,_] hM₅⟩,?_⟩
 (conv=>whnf)
 refine ⟨setC (t.kinB one two l').s,⟨rfl,reads_at [_] hM₅⟩,?_⟩
 (conv=>whnf)
 refine ⟨_,⟨rfl,hb₁₄5.rdT fun _ _ h=>h⟩,?_⟩
 (conv=>whnf)
 refine ⟨setC (t.kinA one two l).c,⟨rfl,reads_at [_,_] hM₅⟩,?_⟩
 (conv=>whnf)
 refine ⟨setC (t.kinB one two l').c,⟨rfl,reads_at [] hM₅⟩,?_⟩
 (conv=>whnf)
 have listF:∀ (s:Nat → Bool) (σ':View Tk),σ₅.le σ' → CallsV (SysG Tryz.prog 164 2) 80 #[setA s] (fun v σ₂=>∃ σ₁,Shift σ₂ σ₁ ∧ IntsV σ₁.frz v (listS s) ∧ σ'.le σ₁) σ':=fun s σ' _=>(Tryz.list_ok (σ:=σ') s).mono fun v σ₂ ⟨h1,h2⟩=>⟨σ₂,.refl _,h1,h2⟩
 have monoF:∀ (L:List Int) (v:Value),Mono (T:=Tk) (fun σ'=>IntsV σ'.frz v L):=fun L v σ₁ σ₂ h hle=>h.lg (⟨hle.imm,⟨[],rfl⟩,hle.tok⟩:σ₁.frz.lg σ₂.frz)
 refine ⟨fun v σ'=>IntsV σ'.frz v (listS (t.kinA one two l).s),monoF _,fun σ' hle _=>?_,fun v60 _=>?_⟩
 ·(conv=>whnf)
  refine ⟨Tryz.k80.any,(listF _ σ' hle).mono ?_⟩
  rintro v σ'' ⟨σ₁,a1,a2,a3⟩ -
  exact ⟨σ₁,a1,a2,a3⟩
 (conv=>whnf)
 refine ⟨fun v σ'=>IntsV σ'.frz v (listS (t.kinB one two l').s),monoF _,fun σ' hle _=>?_,fun v62 _=>?_⟩
 ·(conv=>whnf)
  refine ⟨Tryz.k80.any,(listF _ σ' hle).mono ?_⟩
  rintro v σ'' ⟨σ₁,a1,a2,a3⟩ -
  exact ⟨σ₁,a1,a2,a3⟩
 (conv=>whnf)
 refine ⟨.int .i64 (t.near (max one two) (listS (t.kinA one two l).s) (listS (t.kinB one two l').s)),fun σ' hle hC=>?_,?_⟩
 ·obtain ⟨⟨-,h1⟩,h2⟩:=hC
  have hb:=hbase σ' hle
  rw [hb] at h1 h2
  obtain ⟨xa,xc,rfl,hxi⟩:=h1
  obtain ⟨ya,yc,rfl,hyi⟩:=h2
  have hl8:=listS_len (t.kinB one two l').s
  (conv=>whnf)
  refine ⟨Tryz.k88.any,(Tryz.nearest_ok (hle.tok.trans hto₅) h t (htab σ' hle) (max one two) xa ya _ xc _ yc _ _ hxi hyi hN1 (by omega)).mono ?_⟩
  rintro _ σ'' ⟨rfl,hσ⟩ -
  exact ⟨rfl,_,.refl _,hσ ▸ .refl _⟩
 (conv=>whnf)
 refine ⟨fun v σ'=>IntsV σ'.frz v (listS (t.kinA one two l).c),monoF _,fun σ' hle _=>?_,fun v67 _=>?_⟩
 ·(conv=>whnf)
  refine ⟨Tryz.k80.any,(listF _ σ' hle).mono ?_⟩
  rintro v σ'' ⟨σ₁,a1,a2,a3⟩ -
  exact ⟨σ₁,a1,a2,a3⟩
 (conv=>whnf)
 refine ⟨fun v σ'=>IntsV σ'.frz v (listS (t.kinB one two l').c),monoF _,fun σ' hle _=>?_,fun v69 _=>?_⟩
 ·(conv=>whnf)
  refine ⟨Tryz.k80.any,(listF _ σ' hle).mono ?_⟩
  rintro v σ'' ⟨σ₁,a1,a2,a3⟩ -
  exact ⟨σ₁,a1,a2,a3⟩
 (conv=>whnf)
 intro σ₆ hle₆ hC
 obtain ⟨⟨-,h1⟩,h2⟩:=hC
 have hb:=hbase σ₆ hle₆
 rw [hb] at h1 h2
 obtain ⟨xa,xc,rfl,hxi⟩:=h1
 obtain ⟨ya,yc,rfl,hyi⟩:=h2
 have hl8:=listS_len (t.kinB one two l').c
 (conv=>whnf)
 refine ⟨Tryz.k88.any,(Tryz.nearest_ok (hle₆.tok.trans hto₅) h t (htab σ₆ hle₆) (max one two) xa ya _ xc _ yc _ _ hxi hyi hN2 (by omega)).mono ?_⟩
 rintro _ σ' ⟨rfl,hσ'⟩ -
 obtain rfl:=hσ'.symm
 (conv=>whnf)
 refine ⟨rfl,st_all (vs:=[.int .i64 _,.int .i64 _]) [_,_,_,_] (hle₆.own.trans hM₅) rfl (by simp [Value.single]) ?_⟩
 (conv=>whnf)
 refine ⟨_,⟨rfl,reads_at [_,_,_,_] rfl⟩,?_⟩
 (conv=>whnf)
 refine ⟨?_,fun x o h=>hle₆.imm x o (hlg₅.imm x o h),⟨[_,_,_,_,_],rfl⟩,hle₆.tok.trans hlg₅.tok⟩
 rw [hF]
 unfold Tbl.kinS
 rw [if_pos hF]
 rfl
end Go.Proofs
namespace Go.TM
variable {T:Type} {P:Program} {S:Sys P T} {σ:View T}
def exTbl:Tbl:=
 ⟨[[⟨⟨#[119,105,110,101]⟩,33⟩,⟨⟨#[98,101,101,114]⟩,32⟩,⟨⟨#[103,108,97,115,115]⟩,21⟩],[⟨⟨#[115,116,105,108,108]⟩,33⟩,⟨⟨#[102,105,122,122]⟩,33⟩,⟨⟨#[97,108,101]⟩,32⟩,⟨⟨#[119,97,114,101]⟩,21⟩]],
  [⟨0,0,0⟩,⟨0,0,1⟩,⟨0,1,1⟩,⟨0,1,2⟩,⟨0,2,3⟩],[⟨0,0,1,3⟩,⟨0,0,2,1⟩,⟨1,0,1,4⟩,⟨1,1,2,2⟩]⟩
def encItem (it:GItem):List Value:=[.string it.name,.int .i64 it.cls]
def encMv (m:GMv):List Value:=[.int .i64 m.ed,.int .i64 m.fr,.int .i64 m.to]
def encKn (k:GKn):List Value:=[.int .i64 k.ed,.int .i64 k.one,.int .i64 k.two,.int .i64 k.lev]
theorem rows_blk {α:Type} {enc:α → List Value} {n b:Nat} (hn:∀ x,(enc x).length = n) (hpos:0 < n) {l:List α} (h:Blk σ b (l.flatMap enc).toArray):RowsV σ (some ⟨b,0,none⟩) l.length n l fun x vs=>vs = enc x:=
 rows_src hn (.inr ⟨_,rfl,Blk.rdI h fun _ _ h=>h⟩) (by rintro _ ⟨⟩;rfl) hpos
theorem ints_blk {b:Nat} {l:List Int} (h:Blk σ b (l.map fun n=>Value.int .i64 n).toArray):Ints σ (some ⟨b,0,none⟩) l.length l:=
 ints_src (.inr ⟨_,rfl,Blk.rdI h fun _ _ h=>h⟩) (by rintro _ ⟨⟩;rfl)
end Go.TM
namespace Go.Proofs
open Go.TM
set_option maxRecDepth 100000
attribute [local irreducible] CallsV YieldV rngX
set_option maxHeartbeats 1000000 in
theorem Tryz.example_ok {T:Type} {S:TM.Sys Tryz.prog T} {σ:View T}:CallsV S 63 #[] (fun v σ'=>(∃ h:TH,v = h.v ∧ TabV σ'.frz h exTbl) ∧ σ.le σ') σ:=by
 refine CallsV.sep (R:=fun v σ'=>(∃ h:TH,v = h.v ∧ TabV σ'.frz h exTbl) ∧ σ.lg σ') (CallsV.of (args:=[]) Tryz.k63 Tryz.mixed (by simp) ?_) ?_
 rotate_left
 ·rintro v σ' _ ⟨⟨h,rfl,ht⟩,hl⟩
  obtain ⟨σ'',h1,h2,h3⟩:=hl.shift
  exact ⟨σ'',h1,⟨h,rfl,ht.lg ⟨fun b o hb=>by show σ''.I b = some o;rw [h3];exact hb,⟨[],rfl⟩,h2.tok.trans hl.tok.symm⟩⟩,h2⟩
 (conv=>whnf)
 intro b0 hf0
 refine ⟨_,.refl _,?_⟩
 (conv=>whnf)
 intro b4 hf4
 refine put_new hf4 fun σ₁ h₁ hb₄=>?_
 (conv=>whnf)
 intro b10 hf10
 refine put_new hf10 fun σ₂ h₂ hb₁₀=>?_
 (conv=>whnf)
 intro b12 hf12
 refine put_new hf12 fun σ₃ h₃ hb₁₂=>?_
 (conv=>whnf)
 intro b18 hf18
 refine put_new hf18 fun σ₄ h₄ hb₁₈=>?_
 (conv=>whnf)
 intro b23 hf23
 refine put_new hf23 fun σ₅ h₅ hb₂₃=>?_
 have hlg:σ.lg σ₅:=(lg_put b0 _).trans (h₁.trans (h₂.trans (h₃.trans (h₄.trans h₅)))).lg
 have hM:σ₅.M = .obj b0 (.cells #[.slice none 0 0,.slice none 0 0,.slice none 0 0] 26 (0,0)) :: σ.M:=by rw [h₅.own,h₄.own,h₃.own,h₂.own,h₁.own];rfl
 have hb₄:=hb₄.le (h₂.trans (h₃.trans (h₄.trans h₅)))
 have hb₁₀:=hb₁₀.le (h₃.trans (h₄.trans h₅))
 have hb₁₂:=hb₁₂.le (h₄.trans h₅)
 have hb₁₈:=hb₁₈.le h₅
 (conv=>whnf)
 refine ⟨rfl,st_allG (vs:=[.slice (some ⟨b12,0,none⟩) 2 2,.slice (some ⟨b18,0,none⟩) 5 5,.slice (some ⟨b23,0,none⟩) 4 4]) [] hM rfl (by simp [Value.single]) fun σ₆ hI₆ ht₆ hM₆=>?_⟩
 (conv=>whnf)
 refine ⟨_,⟨rfl,reads_at [] hM₆⟩,?_⟩
 (conv=>whnf)
 have hl:σ₅.frz.lg σ₆.frz:=⟨hI₆,⟨[],rfl⟩,ht₆⟩
 refine ⟨⟨⟨some ⟨b12,0,none⟩,2,2,some ⟨b18,0,none⟩,5,5,some ⟨b23,0,none⟩,4,4⟩,rfl,TabV.lg (σ:=σ₅.frz) ?_ hl⟩,fun x o h=>hI₆ x o (hlg.imm x o h),⟨[_],hM₆⟩,ht₆.trans hlg.tok⟩
 have e1:RowsV σ₅.frz (some ⟨b4,0,none⟩) 3 2 [⟨⟨#[119,105,110,101]⟩,33⟩,⟨⟨#[98,101,101,114]⟩,32⟩,⟨⟨#[103,108,97,115,115]⟩,21⟩] fun it vs=>vs = encItem it:=rows_blk (enc:=encItem) (n:=2) (fun _=>rfl) (by decide) hb₄
 have e2:RowsV σ₅.frz (some ⟨b10,0,none⟩) 4 2 [⟨⟨#[115,116,105,108,108]⟩,33⟩,⟨⟨#[102,105,122,122]⟩,33⟩,⟨⟨#[97,108,101]⟩,32⟩,⟨⟨#[119,97,114,101]⟩,21⟩] fun it vs=>vs = encItem it:=rows_blk (enc:=encItem) (n:=2) (fun _=>rfl) (by decide) hb₁₀
 refine ⟨⟨rfl,fun i x hx=>?_⟩,?_,?_,by decide,by decide,by decide,?_,?_⟩
 ·have h0:RowsV σ₅.frz (some ⟨b12,0,none⟩) 2 1 [Value.slice (some ⟨b4,0,none⟩) 3 3,.slice (some ⟨b10,0,none⟩) 4 4] fun v vs=>vs = [v]:=rows_blk (enc:=fun v=>[v]) (fun _=>rfl) (by decide) hb₁₂
  match i,hx with
  | 0,hx=>
   obtain ⟨ad,vs,h1,h2,rfl,h4,h5⟩:=h0.2 0 _ rfl
   cases hx
   exact ⟨ad,_,h1,h2,⟨_,rfl,_,_,_,rfl,e1⟩,h4,h5⟩
  | 1,hx=>
   obtain ⟨ad,vs,h1,h2,rfl,h4,h5⟩:=h0.2 1 _ rfl
   cases hx
   exact ⟨ad,_,h1,h2,⟨_,rfl,_,_,_,rfl,e2⟩,h4,h5⟩
  | n + 2,hx=>simp [exTbl] at hx
 ·exact rows_blk (enc:=encMv) (fun _=>rfl) (by decide) hb₁₈
 ·exact rows_blk (enc:=encKn) (fun _=>rfl) (by decide) hb₂₃
 ·intro l hl;simp [exTbl] at hl;rcases hl with rfl | rfl <;> decide
 ·intro l hl it hit;simp [exTbl] at hl;rcases hl with rfl | rfl <;> (simp at hit;rcases hit with rfl | rfl | rfl | rfl <;> decide)
end Go.Proofs
namespace Go.TM
theorem ex2:exTbl.openF 0 [[0,1]] = 0:=by kernel_rfl
theorem ex2a:[(0:Int),1].map (exTbl.clsAt 0) = [33,32]:=by kernel_rfl
theorem ex3:(exTbl.moveF 0 1 [0],exTbl.moveS 0 1 [0],exTbl.moveC 0 1 [0]) = (0,[0],[0,1]):=by kernel_rfl
theorem ex4:(exTbl.moveF 1 0 [0,1],exTbl.moveS 1 0 [0,1],exTbl.moveC 1 0 [0,1]) = (0,[0],[0,1]):=by kernel_rfl
theorem ex5:(exTbl.cutF 1 [0,1,3] [⟨[1],false⟩,⟨[1,3],true⟩],exTbl.cutL 1 [0,1,3] [⟨[1],false⟩,⟨[1,3],true⟩]) = (0,[3]):=by kernel_rfl
theorem ex6:(exTbl.growF 0 [0] [0,2],exTbl.growN 0 [0] [0,2]) = (0,2):=by kernel_rfl
theorem ex8:(exTbl.talkF 0 [0,1] [1,2] 3,exTbl.pairsL 0 [0,1] [1,2] 3) = (0,[(0,1),(1,1)]):=by kernel_rfl
def tkX:Talk:=⟨0,3,[0,1],[1,2]⟩
theorem exR:exTbl.reach tkX [] [] = [(0,1),(1,1)]:=by kernel_rfl
theorem ex9a:exTbl.mostT tkX = 1:=by kernel_rfl
theorem ex10:proofL [0,1] 1 [(0,1),(1,1)] = some [(0,1)]:=by kernel_rfl
theorem ex9:exTbl.agr tkX = ([],[1]):=by kernel_rfl
end Go.TM
namespace Go.TM
theorem ex7:(exTbl.kinF 0 1 [0] [2],exTbl.kinS 0 1 [0] [2]) = (0,0,2):=by kernel_rfl
theorem ex7':((listS (exTbl.kinA 0 1 [0]).s),(listS (exTbl.kinA 0 1 [0]).c)) = ([0],[0,1]):=by kernel_rfl
theorem cls_ex {out:List Int} (h:exTbl.ClsOut 0 [0,1] out):out = [32,33]:=by
 unfold Tbl.ClsOut at h
 rw [if_pos ex2,ex2a] at h
 obtain ⟨l',hp,hs,rfl⟩:=h
 refine asc_ext (cpt_asc l' none (srt_pw hs) (fun m hm=>by cases hm)).1 (by unfold Asc;decide) fun y=>?_
 constructor
 ·intro hy
  have:=hp.mem_iff.1 (cpt_mem _ _ _ hy)
  simp at this ⊢;omega
 ·intro hy
  rcases cpt_mem' l' none y (hp.mem_iff.2 (by simp at hy ⊢;omega)) with h | h
  ·exact h
  ·cases h
theorem rows_pairs {T:Type} {σ:View T} {b:Nat} {l:List (Int × Int)} (h:Blk σ b (l.flatMap encII).toArray):PairsV σ (some ⟨b,0,none⟩) l.length l:=rows_blk (n:=2) (fun _=>rfl) (by decide) h
end Go.TM
namespace Go.Proofs
open Go.TM
set_option maxRecDepth 100000
attribute [local irreducible] CallsV YieldV rngX
theorem Tryz.s49:StructOk Tryz.prog 49 (fsOf Tryz.prog 49):=.of (by kernel_rfl)
set_option maxHeartbeats 4000000 in
theorem Tryz.stocks_ok {σ:View Tk} (htok:σ.tok = ⟨0,.out⟩):CallsV (SysG Tryz.prog 164 2) 26 #[] (fun v σ'=>v = .bool true ∧ σ' = σ) σ:=by
 refine CallsV.pure' (CallsV.of (args:=[]) Tryz.k26 Tryz.mixed (by simp) ?_)
 (conv=>whnf)
 refine ⟨Tryz.k63.any,Tryz.example_ok.mono ?_⟩
 rintro _ σ₁ ⟨⟨h,rfl,ht⟩,h₁⟩ -
 (conv=>whnf)
 intro b1 hf1
 refine ⟨_,.refl _,?_⟩
 (conv=>whnf)
 refine ⟨rfl,st_new (vs:=[.slice h.ea h.el h.ec,.slice h.ma h.ml h.mc,.slice h.ka h.kl h.kc]) hf1 rfl (by simp [Value.single]) fun s2 h2 hb1=>?_⟩
 have hb1:Blk s2 b1 #[.slice h.ea h.el h.ec,.slice h.ma h.ml h.mc,.slice h.ka h.kl h.kc]:=hb1
 have hle:σ.le s2:=h₁.trans h2
 have ht:TabV s2.frz h exTbl:=ht.lg (⟨h2.imm,⟨[],rfl⟩,h2.tok⟩:σ₁.frz.lg s2.frz)
 (conv=>whnf)
 refine ⟨_,⟨rfl,hb1.rdT fun _ _ h=>h⟩,?_⟩
 (conv=>whnf)
 intro b3 hf3
 refine put_new hf3 fun s3 h3 hb3=>?_
 have i3:Ints s3.frz (some ⟨b3,0,none⟩) 2 [0,1]:=ints_blk (l:=[0,1]) hb3
 have hz:s2.frz.lg s3.frz:=⟨h3.imm,⟨[],rfl⟩,h3.tok⟩
 have hle:=hle.trans h3
 have hb1:=hb1.le h3
 have ht:=ht.lg hz
 clear hz h3
 (conv=>whnf)
 refine ⟨Tryz.k27.any,(Tryz.Classes_ok h exTbl (ht.lg frz_self) 0 (some ⟨b3,0,none⟩) 2 2 [0,1] (i3.lg frz_self) (by decide)).mono ?_⟩
 rintro _ s4 ⟨⟨v1,out,hv,hout,iCa,iCc,rfl,iC⟩,h4⟩ -
 rw [ex2] at hv
 subst hv
 obtain rfl:=cls_ex hout
 have hz:s3.frz.lg s4.frz:=⟨h4.imm,⟨[],rfl⟩,h4.tok⟩
 have hle:=hle.trans h4
 have hb1:=hb1.le h4
 have ht:=ht.lg hz
 have i3:=i3.lg hz
 clear hz h4
 (conv=>whnf)
 refine ⟨_,⟨rfl,hb1.rdT fun _ _ h=>h⟩,?_⟩
 (conv=>whnf)
 intro b5 hf5
 refine put_new hf5 fun s5 h5 hb5=>?_
 have i5:Ints s5.frz (some ⟨b5,0,none⟩) 1 [0]:=ints_blk (l:=[0]) hb5
 have hz:s4.frz.lg s5.frz:=⟨h5.imm,⟨[],rfl⟩,h5.tok⟩
 have hle:=hle.trans h5
 have hb1:=hb1.le h5
 have ht:=ht.lg hz
 have i3:=i3.lg hz
 have iC:=iC.lg hz
 clear hz h5
 (conv=>whnf)
 refine ⟨Tryz.k34.any,(Tryz.Move_ok h exTbl ht 0 1 (some ⟨b5,0,none⟩) 1 1 [0] (i5.lg frz_self) (by decide)).mono ?_⟩
 rintro _ s6 ⟨⟨v1,v2,hv,mA,mB⟩,h6⟩ -
 obtain ⟨e1,e2,e3⟩:_ = _ ∧ _ = _ ∧ _ = _:=by simpa only [Prod.mk.injEq] using ex3
 rw [e1] at hv
 rw [e2] at mA
 rw [e3] at mB
 clear e1 e2 e3
 obtain ⟨mAa,mAc,rfl,mA⟩:=mA
 obtain ⟨mBa,mBc,rfl,mB⟩:=mB
 subst hv
 have hz:s5.frz.lg s6.frz:=⟨h6.imm,⟨[],rfl⟩,h6.tok⟩
 have hle:=hle.trans h6
 have hb1:=hb1.le h6
 have ht:=ht.lg hz
 have i3:=i3.lg hz
 have iC:=iC.lg hz
 have i5:=i5.lg hz
 clear hz h6
 (conv=>whnf)
 refine ⟨_,⟨rfl,hb1.rdT fun _ _ h=>h⟩,?_⟩
 (conv=>whnf)
 intro b7 hf7
 refine put_new hf7 fun s7 h7 hb7=>?_
 have i7:Ints s7.frz (some ⟨b7,0,none⟩) 2 [0,1]:=ints_blk (l:=[0,1]) hb7
 have hz:s6.frz.lg s7.frz:=⟨h7.imm,⟨[],rfl⟩,h7.tok⟩
 have hle:=hle.trans h7
 have hb1:=hb1.le h7
 have ht:=ht.lg hz
 have i3:=i3.lg hz
 have iC:=iC.lg hz
 have i5:=i5.lg hz
 have mA:=mA.lg hz
 have mB:=mB.lg hz
 clear hz h7
 (conv=>whnf)
 refine ⟨Tryz.k34.any,(Tryz.Move_ok h exTbl ht 1 0 (some ⟨b7,0,none⟩) 2 2 [0,1] (i7.lg frz_self) (by decide)).mono ?_⟩
 rintro _ s8 ⟨⟨v1,v2,hv,mC,mD⟩,h8⟩ -
 obtain ⟨e1,e2,e3⟩:_ = _ ∧ _ = _ ∧ _ = _:=by simpa only [Prod.mk.injEq] using ex4
 rw [e1] at hv
 rw [e2] at mC
 rw [e3] at mD
 clear e1 e2 e3
 obtain ⟨mCa,mCc,rfl,mC⟩:=mC
 obtain ⟨mDa,mDc,rfl,mD⟩:=mD
 subst hv
 have hz:s7.frz.lg s8.frz:=⟨h8.imm,⟨[],rfl⟩,h8.tok⟩
 have hle:=hle.trans h8
 have hb1:=hb1.le h8
 have ht:=ht.lg hz
 have i3:=i3.lg hz
 have iC:=iC.lg hz
 have i5:=i5.lg hz
 have mA:=mA.lg hz
 have mB:=mB.lg hz
 have i7:=i7.lg hz
 clear hz h8
 (conv=>whnf)
 refine ⟨_,⟨rfl,hb1.rdT fun _ _ h=>h⟩,?_⟩
 (conv=>whnf)
 intro b9 hf9
 refine put_new hf9 fun s9 h9 hb9=>?_
 have i9:Ints s9.frz (some ⟨b9,0,none⟩) 3 [0,1,3]:=ints_blk (l:=[0,1,3]) hb9
 have hz:s8.frz.lg s9.frz:=⟨h9.imm,⟨[],rfl⟩,h9.tok⟩
 have hle:=hle.trans h9
 have hb1:=hb1.le h9
 have ht:=ht.lg hz
 have i3:=i3.lg hz
 have iC:=iC.lg hz
 have i5:=i5.lg hz
 have mA:=mA.lg hz
 have mB:=mB.lg hz
 have i7:=i7.lg hz
 have mC:=mC.lg hz
 have mD:=mD.lg hz
 clear hz h9
 (conv=>whnf)
 intro b10 hf10
 refine put_new hf10 fun s10 h10 hb10=>?_
 have i10:Ints s10.frz (some ⟨b10,0,none⟩) 1 [1]:=ints_blk (l:=[1]) hb10
 have hz:s9.frz.lg s10.frz:=⟨h10.imm,⟨[],rfl⟩,h10.tok⟩
 have hle:=hle.trans h10
 have hb1:=hb1.le h10
 have ht:=ht.lg hz
 have i3:=i3.lg hz
 have iC:=iC.lg hz
 have i5:=i5.lg hz
 have mA:=mA.lg hz
 have mB:=mB.lg hz
 have i7:=i7.lg hz
 have mC:=mC.lg hz
 have mD:=mD.lg hz
 have i9:=i9.lg hz
 clear hz h10
 (conv=>whnf)
 intro b11 hf11
 refine put_new hf11 fun s11 h11 hb11=>?_
 have i11:Ints s11.frz (some ⟨b11,0,none⟩) 2 [1,3]:=ints_blk (l:=[1,3]) hb11
 have hz:s10.frz.lg s11.frz:=⟨h11.imm,⟨[],rfl⟩,h11.tok⟩
 have hle:=hle.trans h11
 have hb1:=hb1.le h11
 have ht:=ht.lg hz
 have i3:=i3.lg hz
 have iC:=iC.lg hz
 have i5:=i5.lg hz
 have mA:=mA.lg hz
 have mB:=mB.lg hz
 have i7:=i7.lg hz
 have mC:=mC.lg hz
 have mD:=mD.lg hz
 have i9:=i9.lg hz
 have i10:=i10.lg hz
 clear hz h11
 (conv=>whnf)
 intro b12 hf12
 refine put_new hf12 fun s12 h12 hb12=>?_
 have hb12:Blk s12 b12 #[.slice (some ⟨b10,0,none⟩) 1 1,.bool false,.slice (some ⟨b11,0,none⟩) 2 2,.bool true]:=hb12
 have hz:s11.frz.lg s12.frz:=⟨h12.imm,⟨[],rfl⟩,h12.tok⟩
 have hle:=hle.trans h12
 have hb1:=hb1.le h12
 have ht:=ht.lg hz
 have i3:=i3.lg hz
 have iC:=iC.lg hz
 have i5:=i5.lg hz
 have mA:=mA.lg hz
 have mB:=mB.lg hz
 have i7:=i7.lg hz
 have mC:=mC.lg hz
 have mD:=mD.lg hz
 have i9:=i9.lg hz
 have i10:=i10.lg hz
 have i11:=i11.lg hz
 clear hz h12
 have hcuts:CutsV s12.frz (some ⟨b12,0,none⟩) 2 [⟨[1],false⟩,⟨[1,3],true⟩]:=by
  refine ⟨rfl,fun i x hx=>?_⟩
  match i,hx with
  | 0,hx=>
   cases hx
   refine ⟨_,[.slice (some ⟨b10,0,none⟩) 1 1,.bool false],rfl,rfl,⟨_,_,_,rfl,i10,by decide⟩,rfl,fun j v hv=>?_⟩
   rw [add_none,add_none]
   match j,hv with
   | 0,hv=>cases hv;exact Blk.sees (σ:=s12.frz) hb12 rfl
   | 1,hv=>cases hv;exact Blk.sees (σ:=s12.frz) hb12 rfl
   | n + 2,hv=>simp at hv
  | 1,hx=>
   cases hx
   refine ⟨_,[.slice (some ⟨b11,0,none⟩) 2 2,.bool true],rfl,rfl,⟨_,_,_,rfl,i11,by decide⟩,rfl,fun j v hv=>?_⟩
   rw [add_none,add_none]
   match j,hv with
   | 0,hv=>cases hv;exact Blk.sees (σ:=s12.frz) hb12 rfl
   | 1,hv=>cases hv;exact Blk.sees (σ:=s12.frz) hb12 rfl
   | n + 2,hv=>simp at hv
  | n + 2,hx=>simp at hx
 (conv=>whnf)
 refine ⟨Tryz.k37.any,(Tryz.Cut_ok h exTbl (ht.lg frz_self) 1 (some ⟨b9,0,none⟩) (some ⟨b12,0,none⟩) 3 3 2 2 [0,1,3] [⟨[1],false⟩,⟨[1,3],true⟩] (i9.lg frz_self) hcuts (by decide) (by decide)).mono ?_⟩
 rintro _ s13 ⟨⟨v1,hv,iL⟩,h13⟩ -
 clear hcuts
 obtain ⟨e1,e2⟩:_ = _ ∧ _ = _:=by simpa only [Prod.mk.injEq] using ex5
 rw [e1] at hv
 rw [e2] at iL
 clear e1 e2
 obtain ⟨iLa,iLc,rfl,iL⟩:=iL
 subst hv
 have hz:s12.frz.lg s13.frz:=⟨h13.imm,⟨[],rfl⟩,h13.tok⟩
 have hle:=hle.trans h13
 have hb1:=hb1.le h13
 have ht:=ht.lg hz
 have i3:=i3.lg hz
 have iC:=iC.lg hz
 have i5:=i5.lg hz
 have mA:=mA.lg hz
 have mB:=mB.lg hz
 have i7:=i7.lg hz
 have mC:=mC.lg hz
 have mD:=mD.lg hz
 have i9:=i9.lg hz
 have i10:=i10.lg hz
 have i11:=i11.lg hz
 clear hz h13
 (conv=>whnf)
 refine ⟨_,⟨rfl,hb1.rdT fun _ _ h=>h⟩,?_⟩
 (conv=>whnf)
 intro b14 hf14
 refine put_new hf14 fun s14 h14 hb14=>?_
 have i14:Ints s14.frz (some ⟨b14,0,none⟩) 1 [0]:=ints_blk (l:=[0]) hb14
 have hz:s13.frz.lg s14.frz:=⟨h14.imm,⟨[],rfl⟩,h14.tok⟩
 have hle:=hle.trans h14
 have hb1:=hb1.le h14
 have ht:=ht.lg hz
 have i3:=i3.lg hz
 have iC:=iC.lg hz
 have i5:=i5.lg hz
 have mA:=mA.lg hz
 have mB:=mB.lg hz
 have i7:=i7.lg hz
 have mC:=mC.lg hz
 have mD:=mD.lg hz
 have i9:=i9.lg hz
 have i10:=i10.lg hz
 have i11:=i11.lg hz
 have iL:=iL.lg hz
 clear hz h14
 (conv=>whnf)
 intro b15 hf15
 refine put_new hf15 fun s15 h15 hb15=>?_
 have i15:Ints s15.frz (some ⟨b15,0,none⟩) 2 [0,2]:=ints_blk (l:=[0,2]) hb15
 have hz:s14.frz.lg s15.frz:=⟨h15.imm,⟨[],rfl⟩,h15.tok⟩
 have hle:=hle.trans h15
 have hb1:=hb1.le h15
 have ht:=ht.lg hz
 have i3:=i3.lg hz
 have iC:=iC.lg hz
 have i5:=i5.lg hz
 have mA:=mA.lg hz
 have mB:=mB.lg hz
 have i7:=i7.lg hz
 have mC:=mC.lg hz
 have mD:=mD.lg hz
 have i9:=i9.lg hz
 have i10:=i10.lg hz
 have i11:=i11.lg hz
 have iL:=iL.lg hz
 have i14:=i14.lg hz
 clear hz h15
 (conv=>whnf)
 refine ⟨Tryz.k39.any,(Tryz.Grows_ok h exTbl (ht.lg frz_self) 0 (some ⟨b14,0,none⟩) (some ⟨b15,0,none⟩) 1 1 2 2 [0] [0,2] (i14.lg frz_self) (i15.lg frz_self) (by decide) (by decide)).mono ?_⟩
 rintro _ s' ⟨hv,hs'⟩ -
 obtain rfl:=hs'.symm
 obtain ⟨e1,e2⟩:_ = _ ∧ _ = _:=by simpa only [Prod.mk.injEq] using ex6
 rw [e1,e2] at hv
 clear e1 e2
 subst hv
 (conv=>whnf)
 refine ⟨_,⟨rfl,hb1.rdT fun _ _ h=>h⟩,?_⟩
 (conv=>whnf)
 intro b16 hf16
 refine put_new hf16 fun s16 h16 hb16=>?_
 have i16:Ints s16.frz (some ⟨b16,0,none⟩) 1 [0]:=ints_blk (l:=[0]) hb16
 have hz:s15.frz.lg s16.frz:=⟨h16.imm,⟨[],rfl⟩,h16.tok⟩
 have hle:=hle.trans h16
 have hb1:=hb1.le h16
 have ht:=ht.lg hz
 have i3:=i3.lg hz
 have iC:=iC.lg hz
 have i5:=i5.lg hz
 have mA:=mA.lg hz
 have mB:=mB.lg hz
 have i7:=i7.lg hz
 have mC:=mC.lg hz
 have mD:=mD.lg hz
 have i9:=i9.lg hz
 have i10:=i10.lg hz
 have i11:=i11.lg hz
 have iL:=iL.lg hz
 have i14:=i14.lg hz
 have i15:=i15.lg hz
 clear hz h16
 (conv=>whnf)
 intro b17 hf17
 refine put_new hf17 fun s17 h17 hb17=>?_
 have i17:Ints s17.frz (some ⟨b17,0,none⟩) 1 [2]:=ints_blk (l:=[2]) hb17
 have hz:s16.frz.lg s17.frz:=⟨h17.imm,⟨[],rfl⟩,h17.tok⟩
 have hle:=hle.trans h17
 have hb1:=hb1.le h17
 have ht:=ht.lg hz
 have i3:=i3.lg hz
 have iC:=iC.lg hz
 have i5:=i5.lg hz
 have mA:=mA.lg hz
 have mB:=mB.lg hz
 have i7:=i7.lg hz
 have mC:=mC.lg hz
 have mD:=mD.lg hz
 have i9:=i9.lg hz
 have i10:=i10.lg hz
 have i11:=i11.lg hz
 have iL:=iL.lg hz
 have i14:=i14.lg hz
 have i15:=i15.lg hz
 have i16:=i16.lg hz
 clear hz h17
 have hN:exTbl.kinF 0 1 [0] [2] = 0 → (listS (exTbl.kinA 0 1 [0]).s).length ≤ 2 ∧ (listS (exTbl.kinA 0 1 [0]).c).length ≤ 2:=fun _=>by
  obtain ⟨e1,e2⟩:_ = _ ∧ _ = _:=by simpa only [Prod.mk.injEq] using ex7'
  rw [e1,e2];decide
 (conv=>whnf)
 refine ⟨Tryz.k41.any,(Tryz.Kin_ok (hle.tok.trans htok) h exTbl ht 0 1 (some ⟨b16,0,none⟩) (some ⟨b17,0,none⟩) 1 1 1 1 [0] [2] (i16.lg frz_self) (i17.lg frz_self) (by decide) (by decide) hN).mono ?_⟩
 rintro _ s' ⟨hv,hs'⟩ -
 obtain rfl:=hs'.symm
 obtain ⟨e1,e2⟩:_ = _ ∧ _ = _:=by simpa only [Prod.mk.injEq] using ex7
 rw [e1,e2] at hv
 clear e1 e2 hN
 subst hv
 (conv=>whnf)
 intro b14 hf14
 refine ⟨_,.refl _,?_⟩
 (conv=>whnf)
 refine ⟨rfl,st_new (vs:=[.int .i64 0,.int .i64 2]) hf14 rfl (by simp [Value.single]) fun s18 h18 hb14=>?_⟩
 have hb14:Blk s18 b14 #[.int .i64 0,.int .i64 2]:=hb14
 have hz:s17.frz.lg s18.frz:=⟨h18.imm,⟨[],rfl⟩,h18.tok⟩
 have hle:=hle.trans h18
 have hb1:=hb1.le h18
 have ht:=ht.lg hz
 have i3:=i3.lg hz
 have iC:=iC.lg hz
 have i5:=i5.lg hz
 have mA:=mA.lg hz
 have mB:=mB.lg hz
 have i7:=i7.lg hz
 have mC:=mC.lg hz
 have mD:=mD.lg hz
 have i9:=i9.lg hz
 have i10:=i10.lg hz
 have i11:=i11.lg hz
 have iL:=iL.lg hz
 have i14:=i14.lg hz
 have i15:=i15.lg hz
 have i16:=i16.lg hz
 have i17:=i17.lg hz
 clear hz h18
 (conv=>whnf)
 refine ⟨_,⟨rfl,hb1.rdT fun _ _ h=>h⟩,?_⟩
 (conv=>whnf)
 intro b19 hf19
 refine put_new hf19 fun s19 h19 hb19=>?_
 have i19:Ints s19.frz (some ⟨b19,0,none⟩) 2 [0,1]:=ints_blk (l:=[0,1]) hb19
 have hz:s18.frz.lg s19.frz:=⟨h19.imm,⟨[],rfl⟩,h19.tok⟩
 have hle:=hle.trans h19
 have hb1:=hb1.le h19
 have ht:=ht.lg hz
 have i3:=i3.lg hz
 have iC:=iC.lg hz
 have i5:=i5.lg hz
 have mA:=mA.lg hz
 have mB:=mB.lg hz
 have i7:=i7.lg hz
 have mC:=mC.lg hz
 have mD:=mD.lg hz
 have i9:=i9.lg hz
 have i10:=i10.lg hz
 have i11:=i11.lg hz
 have iL:=iL.lg hz
 have i14:=i14.lg hz
 have i15:=i15.lg hz
 have i16:=i16.lg hz
 have i17:=i17.lg hz
 have hb14:=hb14.le h19
 clear hz h19
 (conv=>whnf)
 intro b20 hf20
 refine put_new hf20 fun s20 h20 hb20=>?_
 have i20:Ints s20.frz (some ⟨b20,0,none⟩) 2 [1,2]:=ints_blk (l:=[1,2]) hb20
 have hz:s19.frz.lg s20.frz:=⟨h20.imm,⟨[],rfl⟩,h20.tok⟩
 have hle:=hle.trans h20
 have hb1:=hb1.le h20
 have ht:=ht.lg hz
 have i3:=i3.lg hz
 have iC:=iC.lg hz
 have i5:=i5.lg hz
 have mA:=mA.lg hz
 have mB:=mB.lg hz
 have i7:=i7.lg hz
 have mC:=mC.lg hz
 have mD:=mD.lg hz
 have i9:=i9.lg hz
 have i10:=i10.lg hz
 have i11:=i11.lg hz
 have iL:=iL.lg hz
 have i14:=i14.lg hz
 have i15:=i15.lg hz
 have i16:=i16.lg hz
 have i17:=i17.lg hz
 have hb14:=hb14.le h20
 have i19:=i19.lg hz
 clear hz h20
 (conv=>whnf)
 refine ⟨Tryz.k43.any,(Tryz.Pairs_ok h exTbl ht 0 3 (some ⟨b19,0,none⟩) (some ⟨b20,0,none⟩) 2 2 2 2 [0,1] [1,2] i19 i20 (by decide) (by decide)).mono ?_⟩
 rintro _ s21 ⟨⟨v1,ps,hv,hps,iP⟩,h21⟩ -
 obtain ⟨e1,e2⟩:_ = _ ∧ _ = _:=by simpa only [Prod.mk.injEq] using ex8
 rw [e1] at hv
 rw [e2] at hps
 clear e1 e2
 subst hps
 obtain ⟨iPa,iPc,rfl,-,iP⟩:=iP
 subst hv
 have hz:s20.frz.lg s21.frz:=⟨h21.imm,⟨[],rfl⟩,h21.tok⟩
 have hle:=hle.trans h21
 have hb1:=hb1.le h21
 have ht:=ht.lg hz
 have i3:=i3.lg hz
 have iC:=iC.lg hz
 have i5:=i5.lg hz
 have mA:=mA.lg hz
 have mB:=mB.lg hz
 have i7:=i7.lg hz
 have mC:=mC.lg hz
 have mD:=mD.lg hz
 have i9:=i9.lg hz
 have i10:=i10.lg hz
 have i11:=i11.lg hz
 have iL:=iL.lg hz
 have i14:=i14.lg hz
 have i15:=i15.lg hz
 have i16:=i16.lg hz
 have i17:=i17.lg hz
 have hb14:=hb14.le h21
 have i19:=i19.lg hz
 have i20:=i20.lg hz
 clear hz h21
 (conv=>whnf)
 refine ⟨_,⟨rfl,hb1.rdT fun _ _ h=>h⟩,?_⟩
 (conv=>whnf)
 intro b22 hf22
 refine put_new hf22 fun s22 h22 hb22=>?_
 have i22:Ints s22.frz (some ⟨b22,0,none⟩) 2 [0,1]:=ints_blk (l:=[0,1]) hb22
 have hz:s21.frz.lg s22.frz:=⟨h22.imm,⟨[],rfl⟩,h22.tok⟩
 have hle:=hle.trans h22
 have hb1:=hb1.le h22
 have ht:=ht.lg hz
 have i3:=i3.lg hz
 have iC:=iC.lg hz
 have i5:=i5.lg hz
 have mA:=mA.lg hz
 have mB:=mB.lg hz
 have i7:=i7.lg hz
 have mC:=mC.lg hz
 have mD:=mD.lg hz
 have i9:=i9.lg hz
 have i10:=i10.lg hz
 have i11:=i11.lg hz
 have iL:=iL.lg hz
 have i14:=i14.lg hz
 have i15:=i15.lg hz
 have i16:=i16.lg hz
 have i17:=i17.lg hz
 have hb14:=hb14.le h22
 have i19:=i19.lg hz
 have i20:=i20.lg hz
 have iP:=RowsV.lg iP hz fun _ _ h=>h
 clear hz h22
 (conv=>whnf)
 intro b23 hf23
 refine put_new hf23 fun s23 h23 hb23=>?_
 have i23:Ints s23.frz (some ⟨b23,0,none⟩) 2 [1,2]:=ints_blk (l:=[1,2]) hb23
 have hz:s22.frz.lg s23.frz:=⟨h23.imm,⟨[],rfl⟩,h23.tok⟩
 have hle:=hle.trans h23
 have hb1:=hb1.le h23
 have ht:=ht.lg hz
 have i3:=i3.lg hz
 have iC:=iC.lg hz
 have i5:=i5.lg hz
 have mA:=mA.lg hz
 have mB:=mB.lg hz
 have i7:=i7.lg hz
 have mC:=mC.lg hz
 have mD:=mD.lg hz
 have i9:=i9.lg hz
 have i10:=i10.lg hz
 have i11:=i11.lg hz
 have iL:=iL.lg hz
 have i14:=i14.lg hz
 have i15:=i15.lg hz
 have i16:=i16.lg hz
 have i17:=i17.lg hz
 have hb14:=hb14.le h23
 have i19:=i19.lg hz
 have i20:=i20.lg hz
 have iP:=RowsV.lg iP hz fun _ _ h=>h
 have i22:=i22.lg hz
 clear hz h23
 have hL:exTbl.talkF 0 [0,1] [1,2] 3 = 0 → (proofL [0,1] (exTbl.mostT ⟨0,3,[0,1],[1,2]⟩) (exTbl.reach ⟨0,3,[0,1],[1,2]⟩ [] [])).isSome = true:=fun _=>by
  show (proofL [0,1] (exTbl.mostT tkX) (exTbl.reach tkX [] [])).isSome = true
  rw [ex9a,exR,ex10];rfl
 have h12:exTbl.talkF 0 [0,1] [1,2] 3 = 0 → ∀ x,(exTbl.reach ⟨0,3,[0,1],[1,2]⟩ x []).length ≤ 12:=fun _ x=>Nat.le_trans (exTbl.reach_len _ x []) (by decide)
 (conv=>whnf)
 refine ⟨Tryz.k46.any,(Tryz.Agree_ok h exTbl ht 0 3 (some ⟨b22,0,none⟩) (some ⟨b23,0,none⟩) 2 2 2 2 [0,1] [1,2] i22 i23 (by decide) (by decide) hL h12).mono ?_⟩
 rintro _ s24 ⟨⟨va,vb,vp,la,lb,lp,hv,iX,iY,iQ,hag⟩,h24⟩ -
 have e1:exTbl.talkF 0 [0,1] [1,2] 3 = 0:=by have:=congrArg Prod.fst ex8;exact this
 rw [e1] at hv
 rw [if_pos e1] at hag
 obtain ⟨hag1,hag2⟩:=hag
 have hag1:(la,lb) = exTbl.agr tkX:=hag1
 have hag2:proofL [0,1] (exTbl.mostT tkX) (exTbl.reach tkX [] []) = some lp:=hag2
 rw [ex9,Prod.mk.injEq] at hag1
 rw [ex9a,exR,ex10,Option.some.injEq] at hag2
 obtain ⟨rfl,rfl⟩:=hag1
 subst hag2
 clear hL h12 e1
 obtain ⟨iXa,iXc,rfl,-,iX⟩:=iX
 obtain ⟨iYa,iYc,rfl,-,iY⟩:=iY
 obtain ⟨iQa,iQc,rfl,-,iQ⟩:=iQ
 subst hv
 have hz:s23.frz.lg s24.frz:=⟨h24.imm,⟨[],rfl⟩,h24.tok⟩
 have hle:=hle.trans h24
 have hb1:=hb1.le h24
 have ht:=ht.lg hz
 have i3:=i3.lg hz
 have iC:=iC.lg hz
 have i5:=i5.lg hz
 have mA:=mA.lg hz
 have mB:=mB.lg hz
 have i7:=i7.lg hz
 have mC:=mC.lg hz
 have mD:=mD.lg hz
 have i9:=i9.lg hz
 have i10:=i10.lg hz
 have i11:=i11.lg hz
 have iL:=iL.lg hz
 have i14:=i14.lg hz
 have i15:=i15.lg hz
 have i16:=i16.lg hz
 have i17:=i17.lg hz
 have hb14:=hb14.le h24
 have i19:=i19.lg hz
 have i20:=i20.lg hz
 have iP:=RowsV.lg iP hz fun _ _ h=>h
 have i22:=i22.lg hz
 have i23:=i23.lg hz
 clear hz h24
 (conv=>whnf);(repeat (refine ⟨rfl,?_⟩;conv=>whnf))
 intro b25 hf25
 refine put_new hf25 fun s25 h25 hb25=>?_
 have i25:Ints s25.frz (some ⟨b25,0,none⟩) 2 [32,33]:=ints_blk (l:=[32,33]) hb25
 have hz:s24.frz.lg s25.frz:=⟨h25.imm,⟨[],rfl⟩,h25.tok⟩
 have hle:=hle.trans h25
 have hb1:=hb1.le h25
 have ht:=ht.lg hz
 have i3:=i3.lg hz
 have iC:=iC.lg hz
 have i5:=i5.lg hz
 have mA:=mA.lg hz
 have mB:=mB.lg hz
 have i7:=i7.lg hz
 have mC:=mC.lg hz
 have mD:=mD.lg hz
 have i9:=i9.lg hz
 have i10:=i10.lg hz
 have i11:=i11.lg hz
 have iL:=iL.lg hz
 have i14:=i14.lg hz
 have i15:=i15.lg hz
 have i16:=i16.lg hz
 have i17:=i17.lg hz
 have hb14:=hb14.le h25
 have i19:=i19.lg hz
 have i20:=i20.lg hz
 have iP:=RowsV.lg iP hz fun _ _ h=>h
 have i22:=i22.lg hz
 have i23:=i23.lg hz
 have iX:=iX.lg hz
 have iY:=iY.lg hz
 have iQ:=RowsV.lg iQ hz fun _ _ h=>h
 clear hz h25
 (conv=>whnf)
 refine ⟨Tryz.k33.any,(Tryz.same_ok iCa (some ⟨b25,0,none⟩) 2 iCc 2 2 [32,33] [32,33] (iC.lg frz_self) (i25.lg frz_self) (by decide)).mono ?_⟩
 rintro _ s' ⟨hv,hs'⟩ -
 obtain rfl:=hs'.symm
 rw [show decide ([32,33] = ([32,33]:List (Int))) = true from by decide] at hv
 subst hv
 (conv=>whnf)
 intro b26 hf26
 refine put_new hf26 fun s26 h26 hb26=>?_
 have i26:Ints s26.frz (some ⟨b26,0,none⟩) 1 [0]:=ints_blk (l:=[0]) hb26
 have hz:s25.frz.lg s26.frz:=⟨h26.imm,⟨[],rfl⟩,h26.tok⟩
 have hle:=hle.trans h26
 have hb1:=hb1.le h26
 have ht:=ht.lg hz
 have i3:=i3.lg hz
 have iC:=iC.lg hz
 have i5:=i5.lg hz
 have mA:=mA.lg hz
 have mB:=mB.lg hz
 have i7:=i7.lg hz
 have mC:=mC.lg hz
 have mD:=mD.lg hz
 have i9:=i9.lg hz
 have i10:=i10.lg hz
 have i11:=i11.lg hz
 have iL:=iL.lg hz
 have i14:=i14.lg hz
 have i15:=i15.lg hz
 have i16:=i16.lg hz
 have i17:=i17.lg hz
 have hb14:=hb14.le h26
 have i19:=i19.lg hz
 have i20:=i20.lg hz
 have iP:=RowsV.lg iP hz fun _ _ h=>h
 have i22:=i22.lg hz
 have i23:=i23.lg hz
 have iX:=iX.lg hz
 have iY:=iY.lg hz
 have iQ:=RowsV.lg iQ hz fun _ _ h=>h
 have i25:=i25.lg hz
 clear hz h26
 (conv=>whnf)
 refine ⟨Tryz.k33.any,(Tryz.same_ok mAa (some ⟨b26,0,none⟩) 1 mAc 1 1 [0] [0] (mA.lg frz_self) (i26.lg frz_self) (by decide)).mono ?_⟩
 rintro _ s' ⟨hv,hs'⟩ -
 obtain rfl:=hs'.symm
 rw [show decide ([0] = ([0]:List (Int))) = true from by decide] at hv
 subst hv
 (conv=>whnf)
 intro b27 hf27
 refine put_new hf27 fun s27 h27 hb27=>?_
 have i27:Ints s27.frz (some ⟨b27,0,none⟩) 2 [0,1]:=ints_blk (l:=[0,1]) hb27
 have hz:s26.frz.lg s27.frz:=⟨h27.imm,⟨[],rfl⟩,h27.tok⟩
 have hle:=hle.trans h27
 have hb1:=hb1.le h27
 have ht:=ht.lg hz
 have i3:=i3.lg hz
 have iC:=iC.lg hz
 have i5:=i5.lg hz
 have mA:=mA.lg hz
 have mB:=mB.lg hz
 have i7:=i7.lg hz
 have mC:=mC.lg hz
 have mD:=mD.lg hz
 have i9:=i9.lg hz
 have i10:=i10.lg hz
 have i11:=i11.lg hz
 have iL:=iL.lg hz
 have i14:=i14.lg hz
 have i15:=i15.lg hz
 have i16:=i16.lg hz
 have i17:=i17.lg hz
 have hb14:=hb14.le h27
 have i19:=i19.lg hz
 have i20:=i20.lg hz
 have iP:=RowsV.lg iP hz fun _ _ h=>h
 have i22:=i22.lg hz
 have i23:=i23.lg hz
 have iX:=iX.lg hz
 have iY:=iY.lg hz
 have iQ:=RowsV.lg iQ hz fun _ _ h=>h
 have i25:=i25.lg hz
 have i26:=i26.lg hz
 clear hz h27
 (conv=>whnf)
 refine ⟨Tryz.k33.any,(Tryz.same_ok mBa (some ⟨b27,0,none⟩) 2 mBc 2 2 [0,1] [0,1] (mB.lg frz_self) (i27.lg frz_self) (by decide)).mono ?_⟩
 rintro _ s' ⟨hv,hs'⟩ -
 obtain rfl:=hs'.symm
 rw [show decide ([0,1] = ([0,1]:List (Int))) = true from by decide] at hv
 subst hv
 (conv=>whnf)
 intro b28 hf28
 refine put_new hf28 fun s28 h28 hb28=>?_
 have i28:Ints s28.frz (some ⟨b28,0,none⟩) 1 [0]:=ints_blk (l:=[0]) hb28
 have hz:s27.frz.lg s28.frz:=⟨h28.imm,⟨[],rfl⟩,h28.tok⟩
 have hle:=hle.trans h28
 have hb1:=hb1.le h28
 have ht:=ht.lg hz
 have i3:=i3.lg hz
 have iC:=iC.lg hz
 have i5:=i5.lg hz
 have mA:=mA.lg hz
 have mB:=mB.lg hz
 have i7:=i7.lg hz
 have mC:=mC.lg hz
 have mD:=mD.lg hz
 have i9:=i9.lg hz
 have i10:=i10.lg hz
 have i11:=i11.lg hz
 have iL:=iL.lg hz
 have i14:=i14.lg hz
 have i15:=i15.lg hz
 have i16:=i16.lg hz
 have i17:=i17.lg hz
 have hb14:=hb14.le h28
 have i19:=i19.lg hz
 have i20:=i20.lg hz
 have iP:=RowsV.lg iP hz fun _ _ h=>h
 have i22:=i22.lg hz
 have i23:=i23.lg hz
 have iX:=iX.lg hz
 have iY:=iY.lg hz
 have iQ:=RowsV.lg iQ hz fun _ _ h=>h
 have i25:=i25.lg hz
 have i26:=i26.lg hz
 have i27:=i27.lg hz
 clear hz h28
 (conv=>whnf)
 refine ⟨Tryz.k33.any,(Tryz.same_ok mCa (some ⟨b28,0,none⟩) 1 mCc 1 1 [0] [0] (mC.lg frz_self) (i28.lg frz_self) (by decide)).mono ?_⟩
 rintro _ s' ⟨hv,hs'⟩ -
 obtain rfl:=hs'.symm
 rw [show decide ([0] = ([0]:List (Int))) = true from by decide] at hv
 subst hv
 (conv=>whnf)
 intro b29 hf29
 refine put_new hf29 fun s29 h29 hb29=>?_
 have i29:Ints s29.frz (some ⟨b29,0,none⟩) 2 [0,1]:=ints_blk (l:=[0,1]) hb29
 have hz:s28.frz.lg s29.frz:=⟨h29.imm,⟨[],rfl⟩,h29.tok⟩
 have hle:=hle.trans h29
 have hb1:=hb1.le h29
 have ht:=ht.lg hz
 have i3:=i3.lg hz
 have iC:=iC.lg hz
 have i5:=i5.lg hz
 have mA:=mA.lg hz
 have mB:=mB.lg hz
 have i7:=i7.lg hz
 have mC:=mC.lg hz
 have mD:=mD.lg hz
 have i9:=i9.lg hz
 have i10:=i10.lg hz
 have i11:=i11.lg hz
 have iL:=iL.lg hz
 have i14:=i14.lg hz
 have i15:=i15.lg hz
 have i16:=i16.lg hz
 have i17:=i17.lg hz
 have hb14:=hb14.le h29
 have i19:=i19.lg hz
 have i20:=i20.lg hz
 have iP:=RowsV.lg iP hz fun _ _ h=>h
 have i22:=i22.lg hz
 have i23:=i23.lg hz
 have iX:=iX.lg hz
 have iY:=iY.lg hz
 have iQ:=RowsV.lg iQ hz fun _ _ h=>h
 have i25:=i25.lg hz
 have i26:=i26.lg hz
 have i27:=i27.lg hz
 have i28:=i28.lg hz
 clear hz h29
 (conv=>whnf)
 refine ⟨Tryz.k33.any,(Tryz.same_ok mDa (some ⟨b29,0,none⟩) 2 mDc 2 2 [0,1] [0,1] (mD.lg frz_self) (i29.lg frz_self) (by decide)).mono ?_⟩
 rintro _ s' ⟨hv,hs'⟩ -
 obtain rfl:=hs'.symm
 rw [show decide ([0,1] = ([0,1]:List (Int))) = true from by decide] at hv
 subst hv
 (conv=>whnf)
 intro b30 hf30
 refine put_new hf30 fun s30 h30 hb30=>?_
 have i30:Ints s30.frz (some ⟨b30,0,none⟩) 1 [3]:=ints_blk (l:=[3]) hb30
 have hz:s29.frz.lg s30.frz:=⟨h30.imm,⟨[],rfl⟩,h30.tok⟩
 have hle:=hle.trans h30
 have hb1:=hb1.le h30
 have ht:=ht.lg hz
 have i3:=i3.lg hz
 have iC:=iC.lg hz
 have i5:=i5.lg hz
 have mA:=mA.lg hz
 have mB:=mB.lg hz
 have i7:=i7.lg hz
 have mC:=mC.lg hz
 have mD:=mD.lg hz
 have i9:=i9.lg hz
 have i10:=i10.lg hz
 have i11:=i11.lg hz
 have iL:=iL.lg hz
 have i14:=i14.lg hz
 have i15:=i15.lg hz
 have i16:=i16.lg hz
 have i17:=i17.lg hz
 have hb14:=hb14.le h30
 have i19:=i19.lg hz
 have i20:=i20.lg hz
 have iP:=RowsV.lg iP hz fun _ _ h=>h
 have i22:=i22.lg hz
 have i23:=i23.lg hz
 have iX:=iX.lg hz
 have iY:=iY.lg hz
 have iQ:=RowsV.lg iQ hz fun _ _ h=>h
 have i25:=i25.lg hz
 have i26:=i26.lg hz
 have i27:=i27.lg hz
 have i28:=i28.lg hz
 have i29:=i29.lg hz
 clear hz h30
 (conv=>whnf)
 refine ⟨Tryz.k33.any,(Tryz.same_ok iLa (some ⟨b30,0,none⟩) 1 iLc 1 1 [3] [3] (iL.lg frz_self) (i30.lg frz_self) (by decide)).mono ?_⟩
 rintro _ s' ⟨hv,hs'⟩ -
 obtain rfl:=hs'.symm
 rw [show decide ([3] = ([3]:List (Int))) = true from by decide] at hv
 subst hv
 (conv=>whnf);(repeat (refine ⟨rfl,?_⟩;conv=>whnf))
 refine ⟨[.int .i64 0,.int .i64 2],⟨rfl,Blk.rdI (vs:=[.int .i64 0,.int .i64 2]) hb14 (fun _ _ h=>h)⟩,?_⟩
 (conv=>whnf)
 refine raw_neS Tryz.s49 (vs:=[.int .i64 0,.int .i64 2]) (ws:=[.int .i64 0,.int .i64 2]) rfl rfl (by kernel_rfl) (by kernel_rfl) ?_
 (conv=>whnf);(repeat (refine ⟨rfl,?_⟩;conv=>whnf))
 intro b31 hf31
 refine put_new hf31 fun s31 h31 hb31=>?_
 have i31:PairsV s31.frz (some ⟨b31,0,none⟩) 2 [(0,1),(1,1)]:=rows_pairs (l:=[(0,1),(1,1)]) hb31
 have hz:s30.frz.lg s31.frz:=⟨h31.imm,⟨[],rfl⟩,h31.tok⟩
 have hle:=hle.trans h31
 have hb1:=hb1.le h31
 have ht:=ht.lg hz
 have i3:=i3.lg hz
 have iC:=iC.lg hz
 have i5:=i5.lg hz
 have mA:=mA.lg hz
 have mB:=mB.lg hz
 have i7:=i7.lg hz
 have mC:=mC.lg hz
 have mD:=mD.lg hz
 have i9:=i9.lg hz
 have i10:=i10.lg hz
 have i11:=i11.lg hz
 have iL:=iL.lg hz
 have i14:=i14.lg hz
 have i15:=i15.lg hz
 have i16:=i16.lg hz
 have i17:=i17.lg hz
 have hb14:=hb14.le h31
 have i19:=i19.lg hz
 have i20:=i20.lg hz
 have iP:=RowsV.lg iP hz fun _ _ h=>h
 have i22:=i22.lg hz
 have i23:=i23.lg hz
 have iX:=iX.lg hz
 have iY:=iY.lg hz
 have iQ:=RowsV.lg iQ hz fun _ _ h=>h
 have i25:=i25.lg hz
 have i26:=i26.lg hz
 have i27:=i27.lg hz
 have i28:=i28.lg hz
 have i29:=i29.lg hz
 have i30:=i30.lg hz
 clear hz h31
 (conv=>whnf)
 refine ⟨Tryz.k45.any,(Tryz.samePairs_ok iPa (some ⟨b31,0,none⟩) 2 iPc 2 2 [(0,1),(1,1)] [(0,1),(1,1)] (RowsV.lg iP frz_self fun _ _ h=>h) (RowsV.lg i31 frz_self fun _ _ h=>h) (by decide)).mono ?_⟩
 rintro _ s' ⟨hv,hs'⟩ -
 obtain rfl:=hs'.symm
 rw [show decide ([(0,1),(1,1)] = ([(0,1),(1,1)]:List (Int × Int))) = true from by decide] at hv
 subst hv
 (conv=>whnf);(repeat (refine ⟨rfl,?_⟩;conv=>whnf))
 intro b32 hf32
 refine put_new hf32 fun s32 h32 hb32=>?_
 have i32:Ints s32.frz (some ⟨b32,0,none⟩) 1 [1]:=ints_blk (l:=[1]) hb32
 have hz:s31.frz.lg s32.frz:=⟨h32.imm,⟨[],rfl⟩,h32.tok⟩
 have hle:=hle.trans h32
 have hb1:=hb1.le h32
 have ht:=ht.lg hz
 have i3:=i3.lg hz
 have iC:=iC.lg hz
 have i5:=i5.lg hz
 have mA:=mA.lg hz
 have mB:=mB.lg hz
 have i7:=i7.lg hz
 have mC:=mC.lg hz
 have mD:=mD.lg hz
 have i9:=i9.lg hz
 have i10:=i10.lg hz
 have i11:=i11.lg hz
 have iL:=iL.lg hz
 have i14:=i14.lg hz
 have i15:=i15.lg hz
 have i16:=i16.lg hz
 have i17:=i17.lg hz
 have hb14:=hb14.le h32
 have i19:=i19.lg hz
 have i20:=i20.lg hz
 have iP:=RowsV.lg iP hz fun _ _ h=>h
 have i22:=i22.lg hz
 have i23:=i23.lg hz
 have iX:=iX.lg hz
 have iY:=iY.lg hz
 have iQ:=RowsV.lg iQ hz fun _ _ h=>h
 have i25:=i25.lg hz
 have i26:=i26.lg hz
 have i27:=i27.lg hz
 have i28:=i28.lg hz
 have i29:=i29.lg hz
 have i30:=i30.lg hz
 have i31:=RowsV.lg i31 hz fun _ _ h=>h
 clear hz h32
 (conv=>whnf)
 refine ⟨Tryz.k33.any,(Tryz.same_ok iYa (some ⟨b32,0,none⟩) 1 iYc 1 1 [1] [1] (iY.lg frz_self) (i32.lg frz_self) (by decide)).mono ?_⟩
 rintro _ s' ⟨hv,hs'⟩ -
 obtain rfl:=hs'.symm
 rw [show decide ([1] = ([1]:List (Int))) = true from by decide] at hv
 subst hv
 (conv=>whnf)
 intro b33 hf33
 refine put_new hf33 fun s33 h33 hb33=>?_
 have i33:PairsV s33.frz (some ⟨b33,0,none⟩) 1 [(0,1)]:=rows_pairs (l:=[(0,1)]) hb33
 have hz:s32.frz.lg s33.frz:=⟨h33.imm,⟨[],rfl⟩,h33.tok⟩
 have hle:=hle.trans h33
 have hb1:=hb1.le h33
 have ht:=ht.lg hz
 have i3:=i3.lg hz
 have iC:=iC.lg hz
 have i5:=i5.lg hz
 have mA:=mA.lg hz
 have mB:=mB.lg hz
 have i7:=i7.lg hz
 have mC:=mC.lg hz
 have mD:=mD.lg hz
 have i9:=i9.lg hz
 have i10:=i10.lg hz
 have i11:=i11.lg hz
 have iL:=iL.lg hz
 have i14:=i14.lg hz
 have i15:=i15.lg hz
 have i16:=i16.lg hz
 have i17:=i17.lg hz
 have hb14:=hb14.le h33
 have i19:=i19.lg hz
 have i20:=i20.lg hz
 have iP:=RowsV.lg iP hz fun _ _ h=>h
 have i22:=i22.lg hz
 have i23:=i23.lg hz
 have iX:=iX.lg hz
 have iY:=iY.lg hz
 have iQ:=RowsV.lg iQ hz fun _ _ h=>h
 have i25:=i25.lg hz
 have i26:=i26.lg hz
 have i27:=i27.lg hz
 have i28:=i28.lg hz
 have i29:=i29.lg hz
 have i30:=i30.lg hz
 have i31:=RowsV.lg i31 hz fun _ _ h=>h
 have i32:=i32.lg hz
 clear hz h33
 (conv=>whnf)
 refine ⟨Tryz.k45.any,(Tryz.samePairs_ok iQa (some ⟨b33,0,none⟩) 1 iQc 1 1 [(0,1)] [(0,1)] (RowsV.lg iQ frz_self fun _ _ h=>h) (RowsV.lg i33 frz_self fun _ _ h=>h) (by decide)).mono ?_⟩
 rintro _ s' ⟨hv,hs'⟩ -
 obtain rfl:=hs'.symm
 rw [show decide ([(0,1)] = ([(0,1)]:List (Int × Int))) = true from by decide] at hv
 subst hv
 (conv=>whnf);(repeat (refine ⟨rfl,?_⟩;conv=>whnf))
 exact hle.lg
end Go.Proofs
namespace Go.TM
def edIts:List GItem → List ByteArray → Int
 | [],_=>0
 | it :: r,p=>if nameOk it.name then (if inS it.name p then 5 else if btw it.cls 1 45 then edIts r (p ++ [it.name]) else 1) else 4
def edF (l:List GItem):Int:=if 8 < l.length then 2 else edIts l []
def edsF:List (List GItem) → Int
 | []=>0
 | l :: r=>if edF l = 0 then edsF r else edF l
theorem chkIts_eq (e:Int):∀ (l:List GItem) (s:List (Int × ByteArray)) (p:List ByteArray),(∀ n,(e,n) ∈ s ↔ n ∈ p) → (chkIts e l s).1 = edIts l p ∧ ∀ q ∈ (chkIts e l s).2,q ∈ s ∨ q.1 = e
 | [],s,p,_=>⟨rfl,fun q hq=>.inl hq⟩
 | it :: r,s,p,h=>by
  have hin:inS (e,it.name) s = inS it.name p:=by unfold inS;rw [Bool.eq_iff_iff];simp [h]
  unfold chkIts edIts chkIt
  rw [hin]
  cases h1:nameOk it.name with
  | false=>exact ⟨by simp,fun q hq=>.inl (by simpa using hq)⟩
  | true=>
   cases h2:inS it.name p with
   | true=>exact ⟨by simp,fun q hq=>.inl (by simpa using hq)⟩
   | false=>
    cases h3:btw it.cls 1 45 with
    | false=>exact ⟨by simp,fun q hq=>.inl (by simpa using hq)⟩
    | true=>
     have ih:=chkIts_eq e r (s ++ [(e,it.name)]) (p ++ [it.name]) (fun n=>by simp [h])
     simp only [if_true,Bool.false_eq_true,if_false]
     refine ⟨ih.1,fun q hq=>?_⟩
     rcases ih.2 q hq with hq | hq
     ·rcases List.mem_append.1 hq with hq | hq
      ·exact .inl hq
      ·simp at hq;exact .inr (by rw [hq])
     ·exact .inr hq
theorem chkEds_eq:∀ (ls:List (List GItem)) (e:Int) (s:List (Int × ByteArray)),(∀ q ∈ s,q.1 < e) → chkEds e ls s = edsF ls
 | [],_,_,_=>rfl
 | l :: r,e,s,h=>by
  unfold chkEds edsF edF
  by_cases h8:8 < l.length
  ·simp [h8]
  ·have k:=chkIts_eq e l s [] (fun n=>by simp;intro hn;have:=h _ hn;simp at this)
   simp only [h8,if_false,k.1]
   by_cases h0:edIts l [] = 0
   ·simp only [h0,if_true]
    refine chkEds_eq r (e + 1) _ fun q hq=>?_
    rcases k.2 q hq with hq | hq
    ·have:=h q hq;omega
    ·omega
   ·simp [h0]
theorem Tbl.chkItems_eq (t:Tbl):t.chkItems = if btw t.eds.length 1 3 then edsF t.eds else 2:=by
 unfold Tbl.chkItems
 rw [chkEds_eq t.eds 0 [] (fun q h=>by cases h)]
def letB (c:UInt8):Bool:=btw (c.toNat:Int) 97 122
def digB (c:UInt8):Bool:=btw (c.toNat:Int) 48 57
theorem badCh_eq (c:UInt8):badCh c = (!letB c && !digB c):=by
 unfold badCh letB digB btw
 rw [Bool.eq_iff_iff]
 simp
def nmTo:List UInt8 → Nat → Bool
 | [],_=>true
 | c :: r,i=>(letB c || (digB c && !decide (i = 0))) && nmTo r (i + 1)
theorem nmTo_any:∀ (l:List UInt8) (i:Nat),0 < i → nmTo l i = !(l.any badCh)
 | [],_,_=>rfl
 | c :: r,i,h=>by
  rw [nmTo,nmTo_any r (i + 1) (by omega),List.any_cons,badCh_eq,Bool.not_or,Bool.not_and,Bool.not_not,Bool.not_not]
  have:decide (i = 0) = false:=decide_eq_false (by omega)
  rw [this]
  cases letB c <;> cases digB c <;> rfl
theorem nameOk_eq (s:ByteArray):nameOk s = (btw s.size 1 10 && nmTo s.data.toList 0):=by
 unfold nameOk
 have hsz:s.size = s.data.toList.length:=(Array.length_toList (xs:=s.data)).symm
 cases h:s.data.toList with
 | nil=>
  have:btw (s.size:Int) 1 10 = false:=by unfold btw;rw [hsz,h];rfl
  rw [this];rfl
 | cons c r=>
  congr 1
  rw [nmTo,nmTo_any r 1 (by omega),List.any_cons,badCh_eq,Bool.not_or,Bool.not_and,Bool.not_not,Bool.not_not]
  have e1:(!(decide ((c.toNat:Int) < 97)) && !(decide ((c.toNat:Int) > 122))) = letB c:=by
   unfold letB btw;rw [Bool.eq_iff_iff];simp only [Bool.and_eq_true,Bool.not_eq_true',decide_eq_false_iff_not,decide_eq_true_eq];omega
  simp only [e1]
  cases letB c <;> simp
end Go.TM
namespace Go.TM
theorem wrap_u8 (c:UInt8):IntKind.wrap .i64 (c.toNat:Int) = c.toNat:=by
 have:=c.toNat_lt
 simp only [IntKind.wrap,IntKind.signed,IntKind.bits]
 simp
 omega
theorem ba_loop (s:ByteArray):∀ (n i:Nat) (r:List UInt8),s.size - i = n → ByteArray.toList.loop s i r = r.reverse ++ s.data.toList.drop i:=by
 intro n
 induction n with
 | zero=>
  intro i r h
  have hsz:s.size = s.data.toList.length:=(Array.length_toList (xs:=s.data)).symm
  rw [ByteArray.toList.loop,if_neg (by omega),List.drop_eq_nil_of_le (by omega)];simp
 | succ n ih=>
  intro i r h
  have hsz:s.size = s.data.toList.length:=(Array.length_toList (xs:=s.data)).symm
  rw [ByteArray.toList.loop,if_pos (by omega),ih (i + 1) _ (by omega)]
  have:s.get! i = s.data.toList[i]'(by omega):=by
   have h1:s.get! i = s.data[i]!:=rfl
   rw [h1,getElem!_pos s.data i (by rw [Array.length_toList] at hsz;omega)];rfl
  rw [this,List.reverse_cons,List.append_assoc,List.drop_eq_getElem_cons (by omega:i < s.data.toList.length)];rfl
theorem ba_toList (s:ByteArray):s.toList = s.data.toList:=by
 have:=ba_loop s _ 0 [] rfl
 simpa [ByteArray.toList] using this
theorem teq_dec (a b:ByteArray):(a.toList == b.toList) = decide (a = b):=by
 rw [ba_toList,ba_toList,Bool.eq_iff_iff,beq_iff_eq,decide_eq_true_iff]
 constructor
 ·intro h
  exact ByteArray.ext (Array.ext' h)
 ·rintro rfl;rfl
theorem inS_snoc {κ:Type} [DecidableEq κ] (k x:κ) (s:List κ):inS k (s ++ [x]) = (inS k s || decide (k = x)):=by
 unfold inS;rw [Bool.eq_iff_iff];simp
theorem inS_mem {κ:Type} [DecidableEq κ] {k:κ} {s:List κ}:inS k s = true ↔ k ∈ s:=by unfold inS;exact decide_eq_true_iff
theorem bget' {s:ByteArray} {i:Nat} {c:UInt8} (h:s.data.toList[i]? = some c):s[i]? = some c:=by
 rw [← h]
 have:s[i]? = s.data[i]?:=rfl
 rw [this,Array.getElem?_toList]
end Go.TM
namespace Go.Proofs
open Go.TM
set_option maxRecDepth 100000
variable {T:Type} {S:TM.Sys Tryz.prog T} {σ:View T}
attribute [local irreducible] CallsV YieldV rngX
theorem Tryz.named_ok (s:ByteArray) (hs:s.size < 2 ^ 60):CallsV S 114 #[.string s] (fun v σ'=>v = .bool (nameOk s) ∧ σ' = σ) σ:=by
 refine CallsV.pure' (CallsV.of (args:=[_]) Tryz.k114 Tryz.mixed (by simp) ?_)
 rw [nameOk_eq]
 have hsz:s.size = s.data.toList.length:=(Array.length_toList (xs:=s.data)).symm
 (conv=>whnf);(repeat (refine ⟨rfl,?_⟩;conv=>whnf))
 refine gb_split (fun hc=>?_) (fun hc=>?_)
 ·have h0:s.size ≠ 0:=by simpa using hc
  (conv=>whnf);(repeat (refine ⟨rfl,?_⟩;conv=>whnf))
  refine cb_split (fun hc=>?_) (fun hc=>?_)
  ·have:btw s.size 1 10 = false:=by unfold btw;simp at hc ⊢;omega
   rw [this]
   (conv=>whnf);(repeat (refine ⟨rfl,?_⟩;conv=>whnf))
   exact (View.le.refl _).lg
  ·have:btw s.size 1 10 = true:=by unfold btw;simp at hc ⊢;omega
   rw [this,Bool.true_and]
   (conv=>whnf)
   refine ⟨Nat,fun i=>[(0,.string s),(3,.int .i64 i)],fun i σ'=>σ.le σ' ∧ i ≤ s.size ∧ nmTo s.data.toList 0 = nmTo (s.data.toList.drop i) i,fun i=>s.size - i,0,⟨rfl,rfl,trivial⟩,⟨.refl _,by omega,rfl⟩,?_⟩
   rintro i f σ₀ ⟨hle₀,hi,hinv⟩
   (conv=>whnf);(repeat (refine ⟨rfl,?_⟩;conv=>whnf))
   refine cb_split (fun hc=>?_) (fun hc=>?_)
   ·have hlt:i < s.size:=by simpa using hc
    obtain ⟨c,hx⟩:∃ c,s.data.toList[i]? = some c:=⟨_,List.getElem?_eq_getElem (by omega)⟩
    rw [drop_at hx,nmTo] at hinv
    (conv=>whnf)
    refine ⟨i,c,⟨rfl,bget' hx⟩,?_⟩
    (conv=>whnf)
    refine ⟨.bool (letB c),fun σ' hle _=>?_,?_⟩
    ·(conv=>whnf)
     refine ⟨Tryz.k71.any,(Tryz.in_ok _ _ _ _).mono ?_⟩
     rintro _ σ'' ⟨rfl,hσ⟩ -
     exact ⟨by rw [wrap_u8];rfl,_,.refl _,hσ ▸ .refl _⟩
    (conv=>whnf)
    refine ⟨i,c,⟨rfl,bget' hx⟩,?_⟩
    (conv=>whnf)
    intro σ₁ hle _
    refine ⟨Tryz.k71.any,(Tryz.in_ok _ _ _ _).mono ?_⟩
    rintro _ σ' ⟨rfl,hσ'⟩ -
    obtain rfl:=hσ'.symm
    rw [wrap_u8]
    have hin:InR (i + 1):=by unfold InR;omega
    have next:nmTo s.data.toList 0 = nmTo (s.data.toList.drop (i + 1)) (i + 1) → i + 1 ≤ s.size ∧ nmTo s.data.toList 0 = nmTo (s.data.toList.drop (i + 1)) (i + 1):=fun h=>⟨by omega,h⟩
    (conv=>whnf);(repeat (refine ⟨rfl,?_⟩;conv=>whnf))
    refine gb_split (fun hc=>?_) (fun hc=>?_)
    ·have h1:letB c = false:=by simpa using hc
     (conv=>whnf);(repeat (refine ⟨rfl,?_⟩;conv=>whnf))
     refine gb_split (fun hc=>?_) (fun hc=>?_)
     ·have h2:digB c = true:=by simpa [digB] using hc
      (conv=>whnf);(repeat (refine ⟨rfl,?_⟩;conv=>whnf))
      refine cb_split (fun hc=>?_) (fun hc=>?_)
      ·have h3:i = 0:=by simpa using hc
       (conv=>whnf);(repeat (refine ⟨rfl,?_⟩;conv=>whnf))
       exact ⟨by rw [hinv,h1,h3];simp,(hle₀.trans hle).lg⟩
      ·have h3:i ≠ 0:=by simpa using hc
       (conv=>whnf)
       refine ⟨hin,?_⟩
       (conv=>whnf)
       refine ⟨rfl,i + 1,⟨rfl,rfl,trivial⟩,⟨hle₀.trans hle,next (by rw [hinv,h1,h2];simp [h3])⟩,by show _ - _ < _ - _;omega⟩
     ·have h2:digB c = false:=by simpa [digB] using hc
      (conv=>whnf);(repeat (refine ⟨rfl,?_⟩;conv=>whnf))
      exact ⟨by rw [hinv,h1,h2];simp,(hle₀.trans hle).lg⟩
    ·have h1:letB c = true:=by simpa using hc
     (conv=>whnf);(repeat (refine ⟨rfl,?_⟩;conv=>whnf))
     refine ⟨hin,?_⟩
     (conv=>whnf)
     refine ⟨rfl,i + 1,⟨rfl,rfl,trivial⟩,⟨hle₀.trans hle,next (by rw [hinv,h1];simp)⟩,by show _ - _ < _ - _;omega⟩
   ·have hge:s.size ≤ i:=by simpa using hc
    rw [List.drop_eq_nil_of_le (by omega)] at hinv
    (conv=>whnf);(repeat (refine ⟨rfl,?_⟩;conv=>whnf))
    exact ⟨by rw [hinv];rfl,hle₀.lg⟩
 ·have h0:s.size = 0:=by simpa using hc
  have:btw s.size 1 10 = false:=by unfold btw;rw [h0];rfl
  rw [this]
  (conv=>whnf);(repeat (refine ⟨rfl,?_⟩;conv=>whnf))
  exact (View.le.refl _).lg
theorem Tryz.checkEdition_ok (a:Option Addr) (len cap:Nat) (l:List GItem) (hl:RowsV σ a len 2 l fun it vs=>vs = [.string it.name,.int .i64 it.cls]) (hlen:len < 2 ^ 60) (hn:∀ it ∈ l,it.name.size < 2 ^ 60) :
  CallsV S 72 #[.agg #[.slice a len cap]] (fun v σ'=>v = .int .i64 (edF l) ∧ σ' = σ) σ:=by
 refine CallsV.pure' (CallsV.of (args:=[_]) Tryz.k72 Tryz.mixed (by simp) ?_)
 have hll:=hl.1
 (conv=>whnf);(repeat (refine ⟨rfl,?_⟩;conv=>whnf))
 intro b σ₁ h₁ hb
 have hb:Blk σ₁ b #[.slice a len cap]:=hb
 (conv=>whnf)
 refine ⟨_,hb.sees3 (o:=0) rfl,?_⟩
 (conv=>whnf);(repeat (refine ⟨rfl,?_⟩;conv=>whnf))
 refine cb_split (fun hc=>?_) (fun hc=>?_)
 ·have h8:8 < l.length:=by rw [hll];simp at hc;omega
  (conv=>whnf);(repeat (refine ⟨rfl,?_⟩;conv=>whnf))
  exact ⟨by unfold edF;rw [if_pos h8],h₁.lg⟩
 have h8:¬ 8 < l.length:=by rw [hll];simp at hc;omega
 have hspec:edF l = edIts l []:=by unfold edF;rw [if_neg h8]
 rw [hspec]
 (conv=>whnf)
 refine ⟨Nat,fun i=>[(1,.pointer (some ⟨b,0,none⟩)),(3,.int .i64 i)],fun i σ'=>σ₁.le σ' ∧ i ≤ len ∧ edIts l [] = edIts (l.drop i) ((l.take i).map (·.name)),fun i=>len - i,0,⟨rfl,rfl,trivial⟩,⟨.refl _,by omega,rfl⟩,?_⟩
 rintro i f σ₂ ⟨h₂,hi,hinv⟩
 (conv=>whnf)
 refine ⟨_,(hb.le h₂).sees3 (o:=0) rfl,?_⟩
 (conv=>whnf);(repeat (refine ⟨rfl,?_⟩;conv=>whnf))
 refine cb_split (fun hc=>?_) (fun hc=>?_)
 ·have hlt:i < len:=by simpa using hc
  obtain ⟨ad,it,vs,hx,rfl,hsp,rfl,-,hrd⟩:=(hl.lg (h₁.trans h₂).lg (fun _ _ h=>h)).at hlt
  have hin:InR (i + 1):=by unfold InR;omega
  rw [drop_at hx,edIts] at hinv
  (conv=>whnf)
  refine ⟨_,(hb.le h₂).sees3 (o:=0) rfl,?_⟩
  (conv=>whnf)
  refine ⟨ad,i,⟨rfl,rfl,hlt⟩,?_⟩
  (conv=>whnf)
  refine ⟨_,hrd 0 _ rfl,?_⟩
  (conv=>whnf)
  refine ⟨Tryz.k114.any,(Tryz.named_ok it.name (hn it (List.mem_of_getElem? hx))).mono ?_⟩
  rintro _ σ' ⟨rfl,hσ'⟩ -
  obtain rfl:=hσ'.symm
  (conv=>whnf);(repeat (refine ⟨rfl,?_⟩;conv=>whnf))
  refine cb_split (fun hc=>?_) (fun hc=>?_)
  ·have h1:nameOk it.name = false:=by simpa using hc
   (conv=>whnf);(repeat (refine ⟨rfl,?_⟩;conv=>whnf))
   exact ⟨by rw [hinv,h1];rfl,(h₁.trans h₂).lg⟩
  have h1:nameOk it.name = true:=by simpa using hc
  rw [if_pos h1] at hinv
  (conv=>whnf)
  refine ⟨Nat,fun k=>[(1,.pointer (some ⟨b,0,none⟩)),(3,.int .i64 i),(4,.int .i64 k)],fun k σ'=>σ₂.le σ' ∧ k ≤ i ∧ inS it.name ((l.take k).map (·.name)) = false,fun k=>i - k,0,⟨rfl,rfl,rfl,trivial⟩,⟨.refl _,by omega,rfl⟩,?_⟩
  rintro k f σ₃ ⟨h₃,hk,hno⟩
  have hb₃:=hb.le (h₂.trans h₃)
  (conv=>whnf);(repeat (refine ⟨rfl,?_⟩;conv=>whnf))
  refine cb_split (fun hc=>?_) (fun hc=>?_)
  ·have hlk:k < i:=by simpa using hc
   obtain ⟨_,it',vs,hx',e,hsp',rfl,-,hrd'⟩:=(hl.lg (h₁.trans h₂).lg (fun _ _ h=>h)).at (show k < len by omega)
   cases e
   (conv=>whnf)
   refine ⟨_,hb₃.sees3 (o:=0) rfl,?_⟩
   (conv=>whnf)
   refine ⟨ad,k,⟨rfl,rfl,by omega⟩,?_⟩
   (conv=>whnf)
   refine ⟨_,(hrd' 0 _ rfl).lg h₃.lg,?_⟩
   (conv=>whnf)
   refine ⟨_,hb₃.sees3 (o:=0) rfl,?_⟩
   (conv=>whnf)
   refine ⟨ad,i,⟨rfl,rfl,hlt⟩,?_⟩
   (conv=>whnf)
   refine ⟨_,(hrd 0 _ rfl).lg h₃.lg,?_⟩
   (conv=>whnf)
   intro σ₄ h₄ _
   (conv=>whnf);(repeat (refine ⟨rfl,?_⟩;conv=>whnf))
   rw [teq_dec]
   refine cb_split (fun hc=>?_) (fun hc=>?_)
   ·have he:it'.name = it.name:=by simpa using hc
    have hs:inS it.name ((l.take i).map (·.name)) = true:=by
     refine inS_mem.2 (List.mem_map.2 ?_)
     exact ⟨it',List.mem_of_getElem? (i:=k) (by rw [List.getElem?_take,if_pos hlk];exact hx'),he⟩
    (conv=>whnf);(repeat (refine ⟨rfl,?_⟩;conv=>whnf))
    exact ⟨by rw [hinv,hs];rfl,(h₁.trans (h₂.trans (h₃.trans h₄))).lg⟩
   ·have he:it'.name ≠ it.name:=by simpa using hc
    (conv=>whnf)
    refine ⟨by unfold InR;omega,?_⟩
    (conv=>whnf)
    refine ⟨rfl,k + 1,⟨rfl,rfl,rfl,trivial⟩,⟨h₃.trans h₄,by omega,?_⟩,by show _ - _ < _ - _;omega⟩
    rw [take_at hx',List.map_append,List.map_cons,List.map_nil,inS_snoc,hno]
    simpa using Ne.symm he
  ·have hge:i ≤ k:=by simpa using hc
   obtain rfl:k = i:=by omega
   rw [if_neg (by rw [hno];simp)] at hinv
   (conv=>whnf)
   refine ⟨_,hb₃.sees3 (o:=0) rfl,?_⟩
   (conv=>whnf)
   refine ⟨ad,k,⟨rfl,rfl,hlt⟩,?_⟩
   (conv=>whnf)
   refine ⟨_,(hrd 1 _ rfl).lg h₃.lg,?_⟩
   (conv=>whnf)
   refine ⟨Tryz.k71.any,(Tryz.in_ok _ _ _ _).mono ?_⟩
   rintro _ σ' ⟨rfl,hσ'⟩ -
   obtain rfl:=hσ'.symm
   (conv=>whnf);(repeat (refine ⟨rfl,?_⟩;conv=>whnf))
   refine cb_split (fun hc=>?_) (fun hc=>?_)
   ·have h2:btw it.cls 1 45 = false:=by simpa using hc
    (conv=>whnf);(repeat (refine ⟨rfl,?_⟩;conv=>whnf))
    exact ⟨by rw [hinv,h2];rfl,(h₁.trans (h₂.trans h₃)).lg⟩
   ·have h2:btw it.cls 1 45 = true:=by simpa using hc
    rw [if_pos h2] at hinv
    (conv=>whnf)
    refine ⟨hin,?_⟩
    (conv=>whnf)
    refine ⟨rfl,k + 1,⟨rfl,rfl,trivial⟩,⟨h₂.trans h₃,by omega,?_⟩,by show _ - _ < _ - _;omega⟩
    rw [hinv,take_at hx,List.map_append];rfl
 ·have hge:len ≤ i:=by simpa using hc
  rw [List.drop_eq_nil_of_le (by omega)] at hinv
  (conv=>whnf);(repeat (refine ⟨rfl,?_⟩;conv=>whnf))
  exact ⟨by rw [hinv];rfl,(h₁.trans h₂).lg⟩
end Go.Proofs
