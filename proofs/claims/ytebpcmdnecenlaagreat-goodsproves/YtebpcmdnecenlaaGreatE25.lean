/- A part of the proof: lemmas that the last text uses. No conditions of its own. -/
import Derived.Test.YtebpcmdnecenlaaGreatE24
import Derived.Test.YtebpcmdnecenlaaGreatE06
set_option linter.unusedSimpArgs false
set_option linter.unusedVariables false
namespace Go.TM
variable {T:Type} {P:Program} {S:Sys P T} {σ:View T}
def AccIn (e:TypeId) (n:Nat) (v:Value) (cs:List Value) (A:List Res):Prop:=∀ M₁,Acc e n v cs (A ++ M₁) M₁
theorem Acc.split {e n:Nat} {v:Value} {cs:List Value} {M M₀:List Res} (h:Acc e n v cs M M₀):∃ A,M = A ++ M₀ ∧ AccIn e n v cs A:=by
 rcases h with ⟨rfl,rfl,rfl⟩ | ⟨b,c,len,cap,rfl,h1,h2,h3,rfl,h4⟩
 ·exact ⟨[],rfl,fun _=>.inl ⟨rfl,rfl,rfl⟩⟩
 ·exact ⟨[_],rfl,fun _=>.inr ⟨b,c,len,cap,rfl,h1,h2,h3,rfl,h4⟩⟩
theorem AccIn.nil {e n:Nat}:AccIn e n (.slice none 0 0) [] []:=fun _=>.nil
theorem AccIn.src {e n:Nat} {v:Value} {cs:List Value} {A:List Res} (h:AccIn e n v cs A):∃ a l c,v = .slice a l c ∧ cs.length = l * n:=by
 rcases h [] with ⟨rfl,rfl,_⟩ | ⟨b,c,len,cap,rfl,h1,_⟩
 ·exact ⟨none,0,0,rfl,by simp⟩
 ·exact ⟨_,_,_,rfl,h1⟩
theorem CallsV.accs {f:FuncId} {args:Array Value} {e n:Nat} {cs:List Value}
  (h:CallsV S f args (fun v σ'=>(∃ A Y,σ'.M.Perm (Y ++ (A ++ σ.M)) ∧ AccIn e n v cs A) ∧ (∀ x o,σ.I x = some o → σ'.I x = some o) ∧ σ'.tok = σ.tok) σ) :
  CallsV S f args (fun v σ'=>Acc e n v cs σ'.M σ.M ∧ (∀ x o,σ.I x = some o → σ'.I x = some o) ∧ σ'.tok = σ.tok) σ:=
 h.post fun v σ' ⟨⟨A,Y,hM,ha⟩,hI,ht⟩=>⟨_,(shift_perm hM).trans (shift_drop (σ:={ σ' with M:=Y ++ (A ++ σ.M) }) (M':=A ++ σ.M) (List.sublist_append_right ..)),ha σ.M,hI,ht⟩
theorem put_new_perm {b:Nat} {c:Array Value} {t:TypeId} {M':List Res} {Q:View T → Prop} (hf:σ.free b) (hp:σ.M.Perm M') (h:∀ σ₁:View T,(∀ x o,σ.I x = some o → σ₁.I x = some o) → σ₁.tok = σ.tok → σ₁.M = M' → Blk σ₁ b c → Q σ₁):∃ σ₁,Shift (σ.put b (.cells c t)) σ₁ ∧ Q σ₁:=
 ⟨_,(shift_freeze (b:=b) (M':=σ.M) (List.Perm.refl _)).trans (shift_perm (M':=M') hp),h _ (le_add (o:=.cells c t) hf).imm rfl rfl Blk.new⟩
theorem perm_in (B D:Res) (A R:List Res):(B :: D :: (A ++ R)).Perm (A ++ B :: D :: R):=
 (((List.perm_middle (a:=B) (l₁:=A) (l₂:=D :: R)).trans (List.Perm.cons B (List.perm_middle (a:=D) (l₁:=A) (l₂:=R))))).symm
theorem rows_src {α:Type} {enc:α → List Value} {n:Nat} (hn:∀ x,(enc x).length = n) {a:Option Addr} {l:List α} (h:Src σ a (l.flatMap enc)) (hsp:∀ ad,a = some ad → ad.spot = none) (hpos:0 < n):RowsV σ a l.length n l fun x vs=>vs = enc x:=by
 refine ⟨rfl,fun i x hx=>?_⟩
 have hlen:∀ k,k ≤ l.length → ((l.take k).flatMap enc).length = k * n:=by
  intro k hk
  rw [List.length_flatMap]
  have:(l.take k).map (fun x=>(enc x).length) = (l.take k).map fun _=>n:=by congr 1;funext x;exact hn x
  rw [this,List.map_const',List.sum_replicate_nat,List.length_take]
  rw [Nat.min_eq_left hk]
 have hi:i < l.length:=(List.getElem?_eq_some_iff.1 hx).1
 rcases h with ⟨_,hnil⟩ | ⟨ad,rfl,hr⟩
 ·have h0:=List.flatMap_eq_nil_iff.1 hnil x (List.mem_of_getElem? hx)
  have:=hn x;rw [h0] at this;simp at this;omega
 ·refine ⟨ad,enc x,rfl,hsp ad rfl,rfl,hn x,fun j v hv=>?_⟩
  rw [add_add _ (hsp ad rfl)]
  refine hr (i * n + j) v ?_
  have:=flatMap_at (f:=enc) hx hv
  rwa [hlen i (by omega)] at this
theorem encII_len (l:List (Int × Int)):(l.flatMap encII).length = l.length * 2:=by
 rw [List.length_flatMap]
 have e:l.map (fun p=>(encII p).length) = l.map fun _=>2:=rfl
 rw [e,List.map_const',List.sum_replicate_nat]
def PairsN (σ:View T) (v:Value) (l:List (Int × Int)):Prop:=∃ a cap,v = .slice a l.length cap ∧ l.length ≤ cap ∧ RowsV σ a l.length 2 l fun p vs=>vs = encII p
theorem PairsN.lg {σ':View T} {v:Value} {l:List (Int × Int)} (h:PairsN σ v l) (hl:σ.lg σ'):PairsN σ' v l:=let ⟨a,c,e,k,h⟩:=h;⟨a,c,e,k,h.lg hl fun _ _ h=>h⟩
theorem Acc.cap {e n:Nat} {v:Value} {cs:List Value} {M M₀:List Res} (h:Acc e n v cs M M₀):∀ a len cap,v = .slice a len cap → len ≤ cap:=by
 rcases h with ⟨rfl,_⟩ | ⟨b,c,len,cap,rfl,_,h2,_⟩
 ·intro a len cap e;cases e;exact Nat.le_refl _
 ·intro a len cap e;cases e;exact h2
theorem Acc.pairsN {σ':View T} {v:Value} {l:List (Int × Int)} (hs:Sep σ') (h:Acc 80 2 v (l.flatMap encII) σ'.M σ.M) (hI:∀ x ox,σ.I x = some ox → σ'.I x = some ox) (ht:σ'.tok = σ.tok):∃ σ'',Shift σ' σ'' ∧ σ.le σ'' ∧ PairsN σ''.frz v l:=by
 have hcap:=h.cap
 obtain ⟨σ'',k1,k2,a,len,cap,rfl,hl,hsrc,hsp,_⟩:=h.freeze hs hI ht
 have hcap:=hcap _ _ _ rfl
 have:len = l.length:=by
  have h2:=encII_len l
  have h3:l.length * 2 = len * 2:=h2.symm.trans hl
  exact (Nat.eq_of_mul_eq_mul_right (by decide) h3).symm
 subst this
 exact ⟨σ'',k1,k2,a,cap,rfl,hcap,rows_src (n:=2) (fun _=>rfl) hsrc hsp (by decide)⟩
end Go.TM
namespace Go.Proofs
open Go.TM
set_option maxRecDepth 100000
variable {T:Type} {S:TM.Sys Tryz.prog T} {σ:View T}
attribute [local irreducible] CallsV YieldV rngX
theorem Tryz.sl52:SlT Tryz.prog 52 80 2:=.of (by kernel_rfl)
theorem Tryz.pairs_ok (h:TH) (k:KH) (tk:Talk) (xa ya:Option Addr) (xl xc yl yc:Nat) :
  CallsV S 92 #[KH.v h k tk,.slice xa xl xc,.slice ya yl yc] (fun v σ'=>(∃ b3 b4 b5,v = .func (.func 129) #[] #[.pointer (some ⟨b3,0,none⟩),.pointer (some ⟨b4,0,none⟩),.pointer (some ⟨b5,0,none⟩)] ∧ Blk σ' b3 (KH.cs h k tk).toArray ∧ Blk σ' b4 #[.slice xa xl xc] ∧ Blk σ' b5 #[.slice ya yl yc]) ∧ σ.le σ') σ:=by
 refine CallsV.of (args:=[_,_,_]) Tryz.k92 Tryz.mixed (by simp) ?_
 (conv=>whnf);(repeat (refine ⟨rfl,?_⟩;conv=>whnf))
 intro b3 σ₁ h₁ hb₃
 (conv=>whnf)
 intro b4 σ₂ h₂ hb₄
 (conv=>whnf)
 intro b5 σ₃ h₃ hb₅
 (conv=>whnf);(repeat (refine ⟨rfl,?_⟩;conv=>whnf))
 exact ⟨⟨b3,b4,b5,rfl,hb₃.le (h₂.trans h₃),hb₄.le h₃,hb₅⟩,(h₁.trans h₂).trans h₃⟩
theorem Tryz.appendSeq_ok (g:FuncId) (capt:Array Value) (ps:List (Int × Int)) (hg:(Tryz.prog.funcs[g]?.any fun fd=>fd.body.isSome && fd.name != "runtime.NumGoroutine") = true)
  (hit:∀ l σ₁,σ.frz.lg σ₁ → IterV S g ([Value.func (.yield l) #[] #[]] ++ capt.toList).toArray l (ps.map encA) σ₁) (hlen:ps.length ≤ 400000) :
  CallsV S 128 #[.slice none 0 0,.func (.func g) #[] capt] (fun v σ'=>Acc 80 2 v (ps.flatMap encII) σ'.M σ.M ∧ (∀ x o,σ.I x = some o → σ'.I x = some o) ∧ σ'.tok = σ.tok) σ:=by
 refine CallsV.accs (CallsV.of (args:=[_,_]) Tryz.k128 Tryz.mixed (by simp) ?_)
 (conv=>whnf);(repeat (refine ⟨rfl,?_⟩;conv=>whnf))
 intro b2 hf2
 (conv=>whnf);(repeat (refine ⟨rfl,?_⟩;conv=>whnf))
 let Inv:Nat → View T → Prop:=fun k σ'=>σ.frz.lg σ' ∧ ∃ v A,σ'.M = A ++ .obj b2 (.cells #[v] 52 (0,0)) :: σ.M ∧ AccIn 80 2 v ((ps.take k).flatMap encII) A
 refine rngX_iter Tryz.mixed (ps.map encA) Inv (fun _ _=>False) (fun _=>False) rfl rfl hg (fun l σ₁ hl=>hit l σ₁ ⟨hl.imm,⟨_,(List.append_nil _).symm⟩,hl.tok⟩) ?_ ⟨?_,?_⟩ ?_ ?_ ?_ ?_ ?_
 ·intro p hp
  obtain ⟨q,_,rfl⟩:=List.mem_map.1 hp
  rfl
 ·rintro k σ' σ'' hle ⟨hl,v,A,hM,ha⟩
  exact ⟨frz_le hl hle,v,A,hle.own.trans hM,ha⟩
 ·rintro k σ' ⟨hl,_⟩
  exact ⟨hl.imm,⟨_,(List.append_nil _).symm⟩,hl.tok⟩
 ·exact ⟨⟨fun _ _ h=>h,⟨_,(List.append_nil _).symm⟩,rfl⟩,.slice none 0 0,[],rfl,.nil⟩
 ·intro l A' B D k p σ₀ KN KX KR KA hp ⟨hl,v,A,hM,ha⟩ hKN hKX hKR hKA
  obtain ⟨q,hq,rfl⟩:∃ q,ps[k]? = some q ∧ p = encA q:=by
   rw [List.getElem?_map] at hp
   cases hq:ps[k]? with
   | none=>rw [hq] at hp;cases hp
   | some q=>rw [hq] at hp;cases hp;exact ⟨q,rfl,rfl⟩
  have hk:k < ps.length:=(List.getElem?_eq_some_iff.1 hq).1
  obtain ⟨sa,sl,sc,rfl,hsl⟩:=ha.src
  (conv=>whnf)
  intro b5 hf5
  refine ⟨_,.refl _,?_⟩
  (conv=>whnf)
  refine ⟨rfl,st_new (vs:=encII q) hf5 rfl (by simp [encII,Value.single]) fun σ₁ h₁ hb₅=>?_⟩
  (conv=>whnf)
  have e1:σ₁ = ({ σ₁ with M:=σ₀.M }:View T).on A' D:=by
   have:=h₁.own
   obtain ⟨i1,m1,t1⟩:=σ₁
   simp only [View.on] at this ⊢
   rw [this]
  rw [e1]
  refine hKA _ _ ?_
  have hM1:(({ σ₁ with M:=σ₀.M }:View T).on B D).M = B :: D :: (A ++ .obj b2 (.cells #[.slice sa sl sc] 52 (0,0)) :: σ.M):=by show B :: D :: σ₀.M = _;rw [hM]
  have hI1:∀ x o,σ₀.I x = some o → σ₁.I x = some o:=fun x o h=>h₁.imm x o h
  have hb₅':Blk (({ σ₁ with M:=σ₀.M }:View T).on B D) b5 (encII q).toArray:=hb₅
  generalize hσ₂:(({ σ₁ with M:=σ₀.M }:View T).on B D) = σ₂ at hM1 hb₅' ⊢
  have hI2:∀ x o,σ.I x = some o → σ₂.I x = some o:=fun x o h=>by rw [← hσ₂];exact hI1 x o (hl.imm x o h)
  have ht2:σ₂.tok = σ.tok:=by rw [← hσ₂];exact h₁.tok.trans hl.tok
  clear hσ₂ e1 h₁ hb₅ hf5
  (conv=>whnf)
  refine ⟨_,reads_at (B :: D :: A) hM1 0 _ rfl,?_⟩
  (conv=>whnf)
  refine ⟨encII q,⟨rfl,Blk.rdI hb₅' (fun _ _ h=>h)⟩,?_⟩
  (conv=>whnf)
  intro bn hfn
  refine put_new_perm (M':=A ++ B :: D :: .obj b2 (.cells #[.slice sa sl sc] 52 (0,0)) :: σ.M) hfn (by rw [hM1];exact perm_in B D A _) fun σ₃ hI₃ ht₃ hM₃ hbn=>?_
  have hbn:Blk σ₃ bn (encII q).toArray:=hbn
  (conv=>whnf)
  refine raw_app (v:=.slice sa sl sc) (cs:=(ps.take k).flatMap encII) (new:=encII q) (M₀:=B :: D :: .obj b2 (.cells #[.slice sa sl sc] 52 (0,0)) :: σ.M) Tryz.sl52 rfl rfl (by rw [hM₃];exact ha _) (.inr ⟨_,rfl,Blk.rdI hbn (fun _ _ h=>h)⟩) rfl (by simp [encII,Value.single]) (by rw [encII_len,List.length_take];show _ + 2 ≤ _;omega) fun v' M' ha' _=>?_
  have ha':Acc 80 2 v' ((ps.take (k + 1)).flatMap encII) M' (B :: D :: .obj b2 (.cells #[.slice sa sl sc] 52 (0,0)) :: σ.M):=by rw [take_at hq];simpa using ha'
  obtain ⟨A₂,hM',ha₂⟩:=ha'.split
  obtain ⟨ta,tl,tc,rfl,-⟩:=ha₂.src
  (conv=>whnf)
  refine ⟨rfl,?_⟩
  refine stv_mid (M₀:=σ.M) (e:=52) (A₂ ++ [B,D]) [.slice ta tl tc] 0 #[.slice sa sl sc] _ (by show M' = _;rw [hM'];simp) (by simp [Value.single]) (by simp) ?_
  refine ⟨({ σ₃ with M:=A₂ ++ .obj b2 (.cells #[.slice ta tl tc] 52 (0,0)) :: σ.M }:View T).on B D,?_,?_⟩
  ·refine shift_perm ?_
   show List.Perm ((A₂ ++ [B,D]) ++ .obj b2 _ :: σ.M) (B :: D :: (A₂ ++ _))
   simpa [layAt] using (perm_in B D A₂ (.obj b2 (.cells #[.slice ta tl tc] 52 (0,0)) :: σ.M)).symm
  (conv=>whnf)
  exact hKN _ _ _ ⟨⟨fun x o h=>hI₃ x o (hI2 x o h),⟨_,(List.append_nil _).symm⟩,ht₃.trans ht2⟩,_,A₂,rfl,ha₂⟩
 ·rintro d l A σ₃ ⟨hl,v,A₁,hM,ha⟩
  rw [List.take_of_length_le (by simp)] at ha
  obtain ⟨sa,sl,sc,rfl,hsl⟩:=ha.src
  (conv=>whnf)
  refine ⟨_,reads_at (.obj l A :: .obj d (.deferred (some [])) :: A₁) (by show _ :: _ :: σ₃.M = _;rw [hM];rfl) 0 _ rfl,?_⟩
  (conv=>whnf)
  refine ⟨_,.there .here,?_⟩
  (conv=>whnf)
  refine ⟨⟨A₁,[.obj l A,.obj d (.deferred none),.obj b2 (.cells #[.slice sa sl sc] 52 (0,0))],?_,ha⟩,hl.imm,hl.tok⟩
  show List.Perm (.obj l A :: .obj d (.deferred none) :: σ₃.M) _
  rw [hM]
  exact List.Perm.cons _ (List.Perm.cons _ List.perm_middle)
 ·exact fun d l A i σ₃ h=>h.elim
 ·exact fun d l A σ₃ h=>h.elim
end Go.Proofs
namespace Go.TM
variable {T:Type} {P:Program} {S:Sys P T} {σ:View T}
theorem CallsV.pairsE {f:FuncId} {args:Array Value} {F:Int} {R:List (Int × Int) → Prop} (h:CallsV S f args (fun v σ'=>∃ v1 l,v = .tuple #[v1,.int .i64 F] ∧ R l ∧ Acc 80 2 v1 (l.flatMap encII) σ'.M σ.M ∧ (∀ x ox,σ.I x = some ox → σ'.I x = some ox) ∧ σ'.tok = σ.tok) σ) :
  CallsV S f args (fun v σ'=>(∃ v1 l,v = .tuple #[v1,.int .i64 F] ∧ R l ∧ PairsN σ'.frz v1 l) ∧ σ.le σ') σ:=by
 refine h.sep fun v σ' hs ⟨v1,l,hv,hr,ha,hI,ht⟩=>?_
 obtain ⟨σ'',k1,k2,k3⟩:=ha.pairsN hs hI ht
 exact ⟨σ'',k1,⟨_,l,hv,hr,k3⟩,k2⟩
def Tbl.pairsL (t:Tbl) (e:Int) (a b:List Int) (lv:Int):List (Int × Int):=if t.talkF e a b lv = 0 then t.reach ⟨e,lv,a,b⟩ [] [] else []
theorem Tbl.reach_len (t:Tbl) (k:Talk) (x y:List Int):(t.reach k x y).length ≤ k.a.length * k.b.length:=by
 unfold Tbl.reach
 rw [List.length_flatMap]
 have:∀ l:List Int,(l.map fun a=>(t.reachRow k x y a).length).sum ≤ l.length * k.b.length:=by
  intro l
  induction l with
  | nil=>simp
  | cons a l ih=>
   have h1:(t.reachRow k x y a).length ≤ k.b.length:=by unfold Tbl.reachRow;rw [List.length_map];exact List.length_filter_le ..
   simp only [List.map_cons,List.sum_cons,List.length_cons,Nat.succ_mul]
   omega
 exact this _
theorem Tbl.open_two {t:Tbl} {e:Int} {a b:List Int} (h:t.openF e [a,b] = 0):t.flaw = 0 ∧ t.isEd e = true ∧ t.chk e none a = 0 ∧ t.chk e none b = 0:=by
 unfold Tbl.openF at h
 split at h
 ·split at h
  ·simp only [Tbl.chkAll] at h
   split at h
   ·split at h
    ·exact ⟨‹_›,‹_›,‹_›,‹_›⟩
    ·exact absurd h ‹_›
   ·exact absurd h ‹_›
  ·cases h
 ·exact absurd h ‹_›
theorem Tbl.talk_two {t:Tbl} {e lv:Int} {a b:List Int} (h:t.talkF e a b lv = 0):t.flaw = 0 ∧ t.isEd e = true ∧ t.chk e none a = 0 ∧ t.chk e none b = 0 ∧ btw lv 1 5 = true:=by
 unfold Tbl.talkF at h
 split at h
 ·rename_i ho
  split at h
  ·obtain ⟨h1,h2,h3,h4⟩:=Tbl.open_two ho
   exact ⟨h1,h2,h3,h4,‹_›⟩
  ·cases h
 ·exact absurd h ‹_›
theorem chk_len8 {t:Tbl} (hf:t.flaw = 0) {e:Int} {l:List Int} (h:t.chk e none l = 0):l.length ≤ 8:=by
 rcases chk_len hf h (by simp) with rfl | h
 ·simp
 ·exact h
end Go.TM
namespace Go.Proofs
open Go.TM
set_option maxRecDepth 100000
variable {T:Type} {S:TM.Sys Tryz.prog T} {σ:View T}
attribute [local irreducible] CallsV YieldV rngX
theorem Tryz.collect_ok (g:FuncId) (capt:Array Value) (ps:List (Int × Int)) (hg:(Tryz.prog.funcs[g]?.any fun fd=>fd.body.isSome && fd.name != "runtime.NumGoroutine") = true)
  (hit:∀ l σ₁,σ.frz.lg σ₁ → IterV S g ([Value.func (.yield l) #[] #[]] ++ capt.toList).toArray l (ps.map encA) σ₁) (hlen:ps.length ≤ 400000) :
  CallsV S 91 #[.func (.func g) #[] capt] (fun v σ'=>Acc 80 2 v (ps.flatMap encII) σ'.M σ.M ∧ (∀ x o,σ.I x = some o → σ'.I x = some o) ∧ σ'.tok = σ.tok) σ:=by
 refine CallsV.of (args:=[_]) Tryz.k91 Tryz.mixed (by simp) ?_
 (conv=>whnf)
 refine ⟨Tryz.k128.any,(Tryz.appendSeq_ok g capt ps hg hit hlen).mono ?_⟩
 rintro v σ' ⟨ha,hI,ht⟩ -
 obtain ⟨sa,sl,sc,rfl,-⟩:=Acc.src ha
 (conv=>whnf);(repeat (refine ⟨rfl,?_⟩;conv=>whnf))
 exact ⟨ha,hI,ht⟩
theorem Tryz.talkPairs_ok (h:TH) (t:Tbl) (ht:TabV σ.frz h t) (k:KH) (tk:Talk) (ha:Ints σ.frz k.aa k.al tk.a) (hb:Ints σ.frz k.ba k.bl tk.b) (hal:k.al ≤ 8) (hbl:k.bl ≤ 8) (b3 b4 b5:Nat) (xa:Option Addr) (xl xc:Nat) (x:List Int) (hx:Ints σ.frz xa xl x) (hxl:xl < 2 ^ 60)
  (hb3:Blk σ.frz b3 (KH.cs h k tk).toArray) (hb4:Blk σ.frz b4 #[.slice xa xl xc]) (hb5:Blk σ.frz b5 #[.slice none 0 0]) :
  CallsV S 91 #[.func (.func 129) #[] #[.pointer (some ⟨b3,0,none⟩),.pointer (some ⟨b4,0,none⟩),.pointer (some ⟨b5,0,none⟩)]] (fun v σ'=>Acc 80 2 v ((t.reach tk x []).flatMap encII) σ'.M σ.M ∧ (∀ x o,σ.I x = some o → σ'.I x = some o) ∧ σ'.tok = σ.tok) σ:=by
 refine Tryz.collect_ok 129 _ (t.reach tk x []) Tryz.k129.any (fun l σ₁ hl=>?_) ?_
 ·have hl:=hl.frz2
  exact Tryz.pairsIt_ok h t (ht.lg hl) k tk (ha.lg hl) (hb.lg hl) xa none xl xc 0 0 x [] (hx.lg hl) ⟨rfl,by simp⟩ (by omega) (by omega) hxl (by omega) b3 b4 b5 l (hb3.lg hl) (hb4.lg hl) (hb5.lg hl)
 ·have h1:=t.reach_len tk x []
  have h2:=ha.1
  have h3:=hb.1
  have:tk.a.length * tk.b.length ≤ 8 * 8:=Nat.mul_le_mul (by omega) (by omega)
  omega
theorem Tryz.Pairs_ok (h:TH) (t:Tbl) (ht:TabV σ.frz h t) (e lv:Int) (a a':Option Addr) (len cap len' cap':Nat) (l l':List Int) (hl:Ints σ.frz a len l) (hl':Ints σ.frz a' len' l') (hlen:len < 2 ^ 60) (hlen':len' < 2 ^ 60) :
  CallsV S 43 #[h.v,.int .i64 e,.slice a len cap,.slice a' len' cap',.int .i64 lv] (fun v σ'=>(∃ v1 ps,v = .tuple #[v1,.int .i64 (t.talkF e l l' lv)] ∧ ps = t.pairsL e l l' lv ∧ PairsN σ'.frz v1 ps) ∧ σ.le σ') σ:=by
 refine CallsV.pairsE (CallsV.of (args:=[_,_,_,_,_]) Tryz.k43 Tryz.mixed (by simp) ?_)
 (conv=>whnf);(repeat (refine ⟨rfl,?_⟩;conv=>whnf))
 intro b5 σ₁ h₁ hb₅
 (conv=>whnf)
 refine ⟨_,⟨rfl,hb₅.rdT fun _ _ h=>h⟩,?_⟩
 have hf₁:σ.frz.lg σ₁:=frz_self.trans h₁.lg
 (conv=>whnf)
 refine ⟨Tryz.k90.any,(Tryz.talk_ok h t (ht.lg hf₁) e lv a a' len cap len' cap' l l' (hl.lg hf₁) (hl'.lg hf₁) hlen hlen').mono ?_⟩
 rintro _ σ' ⟨rfl,hσ'⟩ -
 obtain rfl:=hσ'.symm
 (conv=>whnf)
 intro b12 hf12
 refine ⟨_,.refl _,?_⟩
 (conv=>whnf)
 refine ⟨rfl,st_new (vs:=KH.cs h ⟨a,len,cap,a',len',cap'⟩ ⟨e,lv,l,l'⟩) hf12 rfl (by simp [KH.cs,Value.single]) fun σ₂ h₂ hb₁₂=>?_⟩
 have hle:=h₁.trans h₂
 have hf₂:σ.frz.lg σ₂:=frz_self.trans hle.lg
 (conv=>whnf);(repeat (refine ⟨rfl,?_⟩;conv=>whnf))
 refine cb_split (fun hc=>?_) (fun hc=>?_)
 ·have hf:t.talkF e l l' lv ≠ 0:=by simpa using hc
  (conv=>whnf);(repeat (refine ⟨rfl,?_⟩;conv=>whnf))
  exact ⟨_,[],rfl,by unfold Tbl.pairsL;rw [if_neg hf],by rw [hle.own];exact .nil,hle.imm,hle.tok⟩
 have hf:t.talkF e l l' lv = 0:=by simpa using hc
 obtain ⟨hfl,hed,hc1,hc2,hlv⟩:=Tbl.talk_two hf
 have l8:l.length ≤ 8:=chk_len8 hfl hc1
 have l8':l'.length ≤ 8:=chk_len8 hfl hc2
 have hll:=hl.1
 have hll':=hl'.1
 (conv=>whnf)
 refine ⟨KH.cs h ⟨a,len,cap,a',len',cap'⟩ ⟨e,lv,l,l'⟩,⟨rfl,Blk.rdI hb₁₂ (fun _ _ h=>h)⟩,?_⟩
 (conv=>whnf)
 refine ⟨Tryz.k92.any,(Tryz.pairs_ok h ⟨a,len,cap,a',len',cap'⟩ ⟨e,lv,l,l'⟩ none none 0 0 0 0).mono ?_⟩
 rintro _ σ₃ ⟨⟨b3,b4,b5',rfl,hb3,hb4,hb5⟩,h₃⟩ -
 have hle:=hle.trans h₃
 have hf₃:σ.frz.lg σ₃.frz:=(hf₂.trans h₃.lg).frz2
 (conv=>whnf)
 refine ⟨Tryz.k91.any,(Tryz.talkPairs_ok h t (ht.lg hf₃) ⟨a,len,cap,a',len',cap'⟩ ⟨e,lv,l,l'⟩ (hl.lg hf₃) (hl'.lg hf₃) (by show len ≤ 8;omega) (by show len' ≤ 8;omega) b3 b4 b5' none 0 0 [] ⟨rfl,by simp⟩ (by omega) hb3 hb4 hb5).mono ?_⟩
 rintro v σ₄ ⟨ha,hI,htk⟩ -
 obtain ⟨sa,sl,sc,rfl,-⟩:=Acc.src ha
 (conv=>whnf);(repeat (refine ⟨rfl,?_⟩;conv=>whnf))
 exact ⟨_,_,by rw [hf];rfl,by unfold Tbl.pairsL;rw [if_pos hf],by rw [hle.own] at ha;exact ha,fun x o hx=>hI x o (hle.imm x o hx),htk.trans hle.tok⟩
end Go.Proofs
namespace Go.TM
variable {T:Type} {P:Program} {S:Sys P T} {σ:View T}
def encI (n:Int):Value:=.int .i64 n
def ownV (m:List (Int × Int)):List (Int × Value):=m.map fun p=>(p.1,.int .i64 p.2)
theorem lkI_own (y:Int):∀ (m:List (Int × Int)) (i:Nat),(lkI y (ownV m) i).map (·.2) = (look y m).map (Value.int .i64)
 | [],i=>rfl
 | p :: m,i=>by
  simp only [ownV,List.map_cons,lkI,look]
  by_cases e:y = p.1
  ·simp [e]
  ·rw [if_neg e,if_neg e]
   exact lkI_own y m (i + 1)
theorem lk_own (y:Int) (m:List (Int × Int)):lk y (ownV m) = (look y m).map (Value.int .i64):=lkI_own y m 0
theorem ups_own (y x:Int):∀ m:List (Int × Int),ups y (.int .i64 x) (ownV m) = ownV (upsI y x m)
 | []=>rfl
 | p :: m=>by
  simp only [ownV,List.map_cons,ups,upsI]
  by_cases e:y = p.1
  ·rw [if_pos e,if_pos e];rfl
  ·rw [if_neg e,if_neg e]
   have:=ups_own y x m
   simp only [ownV] at this
   rw [this];rfl
end Go.TM
namespace Go.Proofs
open Go.TM
set_option maxRecDepth 100000
variable {T:Type} {S:TM.Sys Tryz.prog T} {σ:View T}
attribute [local irreducible] CallsV YieldV rngX
theorem Tryz.u3:Tryz.prog.underlying 3 = some (.int .i64):=by kernel_rfl
theorem Tryz.kt3:KeyT T Tryz.prog 3 encI:=by
 refine .simple Tryz.u3 rfl (fun k k'=>?_) (fun k=>?_)
 ·show some (k == k') = some (decide (k = k'))
  congr 1
 ·simp [Instr.sameBits,encI]
theorem Tryz.u171:Tryz.prog.underlying 171 = some (.map 3 3):=by kernel_rfl
theorem Tryz.u172:Tryz.prog.underlying 172 = some (.map 3 4):=by kernel_rfl
theorem Tryz.z3:zeroAt Tryz.prog 3 = some (.int .i64 0):=by kernel_rfl
def gvCap (b3 b9 b5 b10:Nat):Array Value:=#[.pointer (some ⟨b3,0,none⟩),.pointer (some ⟨b9,0,none⟩),.pointer (some ⟨b5,0,none⟩),.pointer (some ⟨b10,0,none⟩)]
theorem Tryz.give_ok (pa:Option Addr) (pl pc:Nat) (ps:List (Int × Int)) (b3 b9 b5 b10 sb ob:Nat) (σ:View T) (hps:RowsV σ.frz pa pl 2 ps fun p vs=>vs = encII p) (hpl:pl < 2 ^ 60)
  (h3:Blk σ.frz b3 #[.slice pa pl pc]) (h9:Blk σ.frz b9 #[.map (some sb)]) (h5:Blk σ.frz b5 #[.map (some ob)]) (h10:Blk σ.frz b10 #[.func (.func 130) #[] (gvCap b3 b9 b5 b10)]) (M₀:List Res) :
  ∀ (n:Nat) (one:Int) (s:GS) (σ₀:View T),σ.frz.lg σ₀ → unseen ps s.seen < n → σ₀.M = .obj sb (mapObj encI (setL s.seen)) :: .obj ob (mapObj encI (ownV s.own)) :: M₀ →
  CallsV S 130 #[.int .i64 one,.pointer (some ⟨b3,0,none⟩),.pointer (some ⟨b9,0,none⟩),.pointer (some ⟨b5,0,none⟩),.pointer (some ⟨b10,0,none⟩)] (fun v σ'=>v = .bool (give ps n one s).1 ∧ σ'.M = .obj sb (mapObj encI (setL (give ps n one s).2.seen)) :: .obj ob (mapObj encI (ownV (give ps n one s).2.own)) :: M₀ ∧
   (∀ x o,σ₀.I x = some o → σ'.I x = some o) ∧ σ'.tok = σ₀.tok) σ₀:=by
 intro n
 induction n with
 | zero=>exact fun one s σ₀ _ h _=>absurd h (Nat.not_lt_zero _)
 | succ n ih=>
 intro one s σ₀ hl hn hM
 refine CallsV.of (args:=[_,_,_,_,_]) Tryz.k130 Tryz.mixed (by simp) ?_
 have hpl':=hps.1
 (conv=>whnf)
 refine ⟨_,(h3.lg hl).sees rfl,?_⟩
 (conv=>whnf)
 refine ⟨Nat × GS,fun y=>[(0,.int .i64 one),(1,.pointer (some ⟨b3,0,none⟩)),(2,.pointer (some ⟨b9,0,none⟩)),(3,.pointer (some ⟨b5,0,none⟩)),(4,.pointer (some ⟨b10,0,none⟩)),(11,.slice pa pl pc),(12,.int .i64 pl),(13,.int .i64 y.1)],
  fun y σ'=>σ.frz.lg σ' ∧ (∀ x o,σ₀.I x = some o → σ'.I x = some o) ∧ σ'.M = .obj sb (mapObj encI (setL y.2.seen)) :: .obj ob (mapObj encI (ownV y.2.own)) :: M₀ ∧ y.1 ≤ pl ∧ unseen ps y.2.seen < n + 1 ∧ give ps (n + 1) one s = giveLoop (give ps n) one (ps.drop y.1) y.2,
  fun y=>pl - y.1,(0,s),⟨rfl,rfl,rfl,rfl,rfl,rfl,rfl,rfl,trivial⟩,⟨hl,fun _ _ h=>h,hM,by omega,hn,rfl⟩,?_⟩
 rintro ⟨i,s⟩ f σ₁ ⟨hl₁,hI₁,hM₁,hi,hn,hinv⟩
 simp only at hM₁ hi hn hinv
 (conv=>whnf);(repeat (refine ⟨rfl,?_⟩;conv=>whnf))
 refine cb_split (fun hc=>?_) (fun hc=>?_)
 ·have hlt:i < pl:=by simpa using hc
  obtain ⟨ad,p,vs,hx,hpa,hsp,rfl,-,hrd⟩:=RowsV.at hps hlt
  have hpm:=List.mem_of_getElem? hx
  have hin:InR (i + 1):=by unfold InR;omega
  rw [drop_at hx] at hinv
  rw [giveLoop] at hinv
  (conv=>whnf)
  refine ⟨ad,i,⟨hpa,rfl,hlt⟩,?_⟩
  (conv=>whnf)
  refine ⟨_,⟨rfl,hrd.lg hl₁⟩,?_⟩
  (conv=>whnf)
  intro b8 hf8
  refine ⟨_,.refl _,?_⟩
  (conv=>whnf)
  refine ⟨rfl,st_new (vs:=encII p) hf8 rfl (by simp [encII,Value.single]) fun σ₂ h₂ hb₈=>?_⟩
  have hb₈:Blk σ₂ b8 #[.int .i64 p.1,.int .i64 p.2]:=hb₈
  have hl₂:=frz_le hl₁ h₂
  have hI₂:∀ x o,σ₀.I x = some o → σ₂.I x = some o:=fun x o h=>h₂.imm x o (hI₁ x o h)
  have hM₂:=h₂.own.trans hM₁
  (conv=>whnf)
  refine ⟨_,hb₈.sees3 (o:=0) rfl,?_⟩
  (conv=>whnf);(repeat (refine ⟨rfl,?_⟩;conv=>whnf))
  refine gb_split (fun hc=>?_) (fun hc=>?_)
  ·have h1:p.1 = one:=by simpa using hc
   (conv=>whnf)
   refine ⟨_,(h9.lg hl₂).sees rfl,?_⟩
   (conv=>whnf)
   refine ⟨_,hb₈.sees3 (o:=1) rfl,?_⟩
   (conv=>whnf)
   refine raw_lookup (k:=p.2) (l:=setL s.seen) Tryz.kt3 Tryz.u172 Tryz.z4 rfl rfl (.inr (by rw [hM₂];exact List.mem_cons_self ..)) ?_
   rw [lk_set]
   (conv=>whnf);(repeat (refine ⟨rfl,?_⟩;conv=>whnf))
   refine cb_split (fun hc=>?_) (fun hc=>?_)
   ·have hin2:p.2 ∈ s.seen:=by simpa [inS] using hc
    rw [if_pos (.inr hin2)] at hinv
    (conv=>whnf);(repeat (refine ⟨rfl,?_⟩;conv=>whnf))
    refine ⟨hin,?_⟩
    (conv=>whnf)
    refine ⟨rfl,(i + 1,s),⟨rfl,rfl,rfl,rfl,rfl,rfl,rfl,rfl,trivial⟩,⟨hl₂,hI₂,hM₂,by omega,hn,hinv⟩,by show _ - _ < _ - _;omega⟩
   have hno:p.2 ∉ s.seen:=by simpa [inS] using hc
   rw [if_neg (by rintro (h | h);exact h h1;exact hno h)] at hinv
   have hlt2:unseen ps (s.seen ++ [p.2]) < unseen ps s.seen:=unseen_lt (fun y hy=>List.mem_append_left _ hy) hpm hno (by simp)
   (conv=>whnf)
   refine ⟨_,(h9.lg hl₂).sees rfl,?_⟩
   (conv=>whnf)
   refine ⟨_,hb₈.sees3 (o:=1) rfl,?_⟩
   (conv=>whnf)
   refine raw_mapUpdate (k:=p.2) (v:=.bool true) (l:=setL s.seen) (M':=.obj sb (mapObj encI (setL (s.seen ++ [p.2]))) :: .obj ob (mapObj encI (ownV s.own)) :: M₀) Tryz.kt3 Tryz.u172 rfl rfl rfl (by rw [hM₂,ups_set' _ _ hno];exact .here) ?_
   have hl₃:σ.frz.lg { σ₂ with M:=.obj sb (mapObj encI (setL (s.seen ++ [p.2]))) :: .obj ob (mapObj encI (ownV s.own)) :: M₀ }:=⟨hl₂.imm,⟨_,(List.append_nil _).symm⟩,hl₂.tok⟩
   have hb₈':Blk ({ σ₂ with M:=.obj sb (mapObj encI (setL (s.seen ++ [p.2]))) :: .obj ob (mapObj encI (ownV s.own)) :: M₀ }:View T) b8 #[.int .i64 p.1,.int .i64 p.2]:=hb₈
   have hM₃:({ σ₂ with M:=.obj sb (mapObj encI (setL (s.seen ++ [p.2]))) :: .obj ob (mapObj encI (ownV s.own)) :: M₀ }:View T).M = .obj sb (mapObj encI (setL (s.seen ++ [p.2]))) :: .obj ob (mapObj encI (ownV s.own)) :: M₀:=rfl
   have hI₃:∀ x o,σ₀.I x = some o → ({ σ₂ with M:=.obj sb (mapObj encI (setL (s.seen ++ [p.2]))) :: .obj ob (mapObj encI (ownV s.own)) :: M₀ }:View T).I x = some o:=hI₂
   have ht₃:({ σ₂ with M:=.obj sb (mapObj encI (setL (s.seen ++ [p.2]))) :: .obj ob (mapObj encI (ownV s.own)) :: M₀ }:View T).tok = σ₂.tok:=rfl
   generalize hσ:({ σ₂ with M:=.obj sb (mapObj encI (setL (s.seen ++ [p.2]))) :: .obj ob (mapObj encI (ownV s.own)) :: M₀ }:View T) = σ₃ at hl₃ hb₈' hM₃ hI₃ ht₃ ⊢
   clear hσ
   have htk:σ₃.tok = σ₀.tok:=hl₃.tok.trans hl.tok.symm
   (conv=>whnf)
   refine ⟨_,(h5.lg hl₃).sees rfl,?_⟩
   (conv=>whnf)
   refine ⟨_,hb₈'.sees3 (o:=1) rfl,?_⟩
   (conv=>whnf)
   refine raw_lookup2 (k:=p.2) (l:=ownV s.own) Tryz.kt3 Tryz.u171 Tryz.z3 rfl rfl (.inr (by rw [hM₃];exact List.mem_cons_of_mem _ (List.mem_cons_self ..))) ?_
   rw [lk_own]
   cases hlook:TM.look p.2 s.own with
   | none=>
    rw [hlook] at hinv
    simp only at hinv
    (conv=>whnf);(repeat (refine ⟨rfl,?_⟩;conv=>whnf))
    refine ⟨_,(h5.lg hl₃).sees rfl,?_⟩
    (conv=>whnf)
    refine ⟨_,hb₈'.sees3 (o:=1) rfl,?_⟩
    (conv=>whnf)
    refine raw_mapUpdate (k:=p.2) (v:=.int .i64 one) (l:=ownV s.own) (M':=.obj sb (mapObj encI (setL (s.seen ++ [p.2]))) :: .obj ob (mapObj encI (ownV (upsI p.2 one s.own))) :: M₀) Tryz.kt3 Tryz.u171 rfl rfl rfl (by rw [hM₃,ups_own];exact .there .here) ?_
    (conv=>whnf);(repeat (refine ⟨rfl,?_⟩;conv=>whnf))
    rw [hinv]
    exact ⟨rfl,rfl,hI₃,htk⟩
   | some o=>
    rw [hlook] at hinv
    simp only at hinv
    (conv=>whnf);(repeat (refine ⟨rfl,?_⟩;conv=>whnf))
    refine ⟨_,(h10.lg hl₃).sees rfl,?_⟩
    (conv=>whnf)
    refine ⟨Tryz.k130.any,(ih o ⟨s.seen ++ [p.2],s.own⟩ σ₃ hl₃ (by show unseen ps (s.seen ++ [p.2]) < n;omega) hM₃).mono ?_⟩
    rintro _ σ₄ ⟨rfl,hM₄,hI₄,ht₄⟩ -
    have hl₄:σ.frz.lg σ₄:=⟨fun b o h=>hI₄ _ _ (hl₃.imm b o h),⟨_,(List.append_nil _).symm⟩,ht₄.trans hl₃.tok⟩
    have hb₈4:=hb₈'.imI hI₄
    have hI₄':∀ x o,σ₀.I x = some o → σ₄.I x = some o:=fun x o h=>hI₄ x o (hI₃ x o h)
    cases hg:give ps n o ⟨s.seen ++ [p.2],s.own⟩ with
    | mk b s'=>
    rw [hg] at hinv hM₄
    simp only at hM₄
    cases b with
    | true=>
     simp only at hinv
     (conv=>whnf);(repeat (refine ⟨rfl,?_⟩;conv=>whnf))
     refine ⟨_,(h5.lg hl₄).sees rfl,?_⟩
     (conv=>whnf)
     refine ⟨_,hb₈4.sees3 (o:=1) rfl,?_⟩
     (conv=>whnf)
     refine raw_mapUpdate (k:=p.2) (v:=.int .i64 one) (l:=ownV s'.own) (M':=.obj sb (mapObj encI (setL s'.seen)) :: .obj ob (mapObj encI (ownV (upsI p.2 one s'.own))) :: M₀) Tryz.kt3 Tryz.u171 rfl rfl rfl (by rw [hM₄,ups_own];exact .there .here) ?_
     (conv=>whnf);(repeat (refine ⟨rfl,?_⟩;conv=>whnf))
     rw [hinv]
     exact ⟨rfl,rfl,hI₄',ht₄.trans htk⟩
    | false=>
     simp only at hinv
     have hu:=unseen_mono (ps:=ps) (give_fails n o ⟨s.seen ++ [p.2],s.own⟩ s' (by show unseen ps (s.seen ++ [p.2]) < n;omega) hg).sub
     simp only at hu
     (conv=>whnf);(repeat (refine ⟨rfl,?_⟩;conv=>whnf))
     refine ⟨hin,?_⟩
     (conv=>whnf)
     refine ⟨rfl,(i + 1,s'),⟨rfl,rfl,rfl,rfl,rfl,rfl,rfl,rfl,trivial⟩,⟨hl₄,hI₄',hM₄,by omega,by show unseen ps s'.seen < n + 1;omega,hinv⟩,by show _ - _ < _ - _;omega⟩
  ·have h1:p.1 ≠ one:=by simpa using hc
   rw [if_pos (.inl h1)] at hinv
   (conv=>whnf);(repeat (refine ⟨rfl,?_⟩;conv=>whnf))
   refine ⟨hin,?_⟩
   (conv=>whnf)
   refine ⟨rfl,(i + 1,s),⟨rfl,rfl,rfl,rfl,rfl,rfl,rfl,rfl,trivial⟩,⟨hl₂,hI₂,hM₂,by omega,hn,hinv⟩,by show _ - _ < _ - _;omega⟩
 ·have hge:pl ≤ i:=by simpa using hc
  rw [List.drop_eq_nil_of_le (by omega),giveLoop] at hinv
  (conv=>whnf);(repeat (refine ⟨rfl,?_⟩;conv=>whnf))
  rw [hinv]
  exact ⟨rfl,hM₁,hI₁,hl₁.tok.trans hl.tok.symm⟩
end Go.Proofs
namespace Go.TM
theorem mostStep_eq (ps:List (Int × Int)) (st:Nat × List (Int × Int)) (a:Int):mostStep ps st a = (if (give ps (ps.length + 1) a ⟨[],st.2⟩).1 then st.1 + 1 else st.1,(give ps (ps.length + 1) a ⟨[],st.2⟩).2.own):=by
 unfold mostStep
 cases give ps (ps.length + 1) a ⟨[],st.2⟩ with
 | mk b s=>cases b <;> rfl
end Go.TM
namespace Go.Proofs
open Go.TM
set_option maxRecDepth 100000
variable {T:Type} {S:TM.Sys Tryz.prog T} {σ:View T}
attribute [local irreducible] CallsV YieldV rngX
theorem Tryz.most_ok (h:TH) (k:KH) (tk:Talk) (ha:Ints σ.frz k.aa k.al tk.a) (hal:k.al < 2 ^ 60) (pa:Option Addr) (pl pc:Nat) (ps:List (Int × Int)) (hps:RowsV σ.frz pa pl 2 ps fun p vs=>vs = encII p) (hpl:pl < 2 ^ 60) :
  CallsV S 95 #[KH.v h k tk,.slice pa pl pc] (fun v σ'=>v = .int .i64 (most tk.a ps) ∧ σ' = σ) σ:=by
 refine CallsV.pure' (CallsV.of (args:=[_,_]) Tryz.k95 Tryz.mixed (by simp) ?_)
 have hal':=ha.1
 (conv=>whnf);(repeat (refine ⟨rfl,?_⟩;conv=>whnf))
 intro b2 σ₁ h₁ hb₂
 have hb₂:Blk σ₁ b2 (KH.cs h k tk).toArray:=hb₂
 (conv=>whnf)
 intro b3 σ₂ h₂ hb₃
 have hb₂:=hb₂.le h₂
 have hle₂:=h₁.trans h₂
 (conv=>whnf)
 refine raw_makeMap encI fun ob hob=>?_
 (conv=>whnf)
 intro b5 hf5
 refine ⟨_,.refl _,?_⟩
 (conv=>whnf)
 refine ⟨rfl,st_new (vs:=[.map (some ob)]) hf5 rfl (by simp [Value.single]) fun σ₃ h₃ hb₅=>?_⟩
 have hM₃:σ₃.M = .obj ob (mapObj encI []) :: σ.M:=by rw [h₃.own];show _ :: σ₂.M = _;rw [hle₂.own]
 have hI₃:∀ x o,σ₂.I x = some o → σ₃.I x = some o:=fun x o h=>h₃.imm x o h
 have hf₃:σ.frz.lg σ₃:=⟨fun x o h=>hI₃ x o (hle₂.imm x o h),⟨_,(List.append_nil _).symm⟩,(h₃.tok.trans hle₂.tok)⟩
 have hb₂:=hb₂.imI hI₃
 have hb₃:=hb₃.imI hI₃
 (conv=>whnf)
 refine ⟨_,hb₂.sees3 (o:=5) rfl,?_⟩
 (conv=>whnf)
 refine ⟨Nat × Nat × List (Int × Int),fun y=>[(2,.pointer (some ⟨b2,0,none⟩)),(3,.pointer (some ⟨b3,0,none⟩)),(5,.pointer (some ⟨b5,0,none⟩)),(6,.int .i64 y.2.1),(13,.slice k.aa k.al k.ac),(14,.int .i64 k.al),(15,.int .i64 y.1)],
  fun y σ'=>(∀ x o,σ₃.I x = some o → σ'.I x = some o) ∧ σ'.tok = σ.tok ∧ σ'.M = .obj ob (mapObj encI (ownV y.2.2)) :: σ.M ∧ y.1 ≤ k.al ∧ y.2.1 ≤ y.1 ∧ (tk.a.take y.1).foldl (mostStep ps) (0,[]) = y.2,
  fun y=>k.al - y.1,(0,0,[]),⟨rfl,rfl,rfl,rfl,rfl,rfl,rfl,trivial⟩,⟨fun _ _ h=>h,hf₃.tok,hM₃,by omega,by simp,rfl⟩,?_⟩
 rintro ⟨i,many,own⟩ f σ₄ ⟨hI₄,ht₄,hM₄,hi,hmi,hst⟩
 simp only at hM₄ hmi hi hst
 have hf₄:σ.frz.lg σ₄:=⟨fun x o h=>hI₄ x o (hf₃.imm x o h),⟨_,(List.append_nil _).symm⟩,ht₄⟩
 (conv=>whnf);(repeat (refine ⟨rfl,?_⟩;conv=>whnf))
 refine cb_split (fun hc=>?_) (fun hc=>?_)
 ·have hlt:i < k.al:=by simpa using hc
  obtain ⟨ad,a,hx,hka,-,hs⟩:=(ha.lg hf₄).at hlt
  have hin:InR (i + 1):=by unfold InR;omega
  have hst:(tk.a.take (i + 1)).foldl (mostStep ps) (0,[]) = mostStep ps (many,own) a:=by rw [take_at hx,List.foldl_append,hst];rfl
  have hin2:InR (many + 1):=by unfold InR;omega
  (conv=>whnf)
  refine ⟨ad,i,⟨hka,rfl,hlt⟩,?_⟩
  (conv=>whnf)
  refine ⟨_,hs,?_⟩
  (conv=>whnf)
  refine raw_makeMap encI fun sb hsb=>?_
  (conv=>whnf)
  intro b9 hf9
  refine ⟨_,.refl _,?_⟩
  (conv=>whnf)
  refine ⟨rfl,st_new (vs:=[.map (some sb)]) hf9 rfl (by simp [Value.single]) fun σ₅ h₅ hb₉=>?_⟩
  (conv=>whnf)
  intro b10 hf10
  refine ⟨_,.refl _,?_⟩
  (conv=>whnf)
  refine ⟨rfl,st_new (vs:=[.func (.func 130) #[] (gvCap b3 b9 b5 b10)]) hf10 rfl (by simp [Value.single]) fun σ₆ h₆ hb₁₀=>?_⟩
  have hM₆:σ₆.M = .obj sb (mapObj encI []) :: .obj ob (mapObj encI (ownV own)) :: σ.M:=by rw [h₆.own,h₅.own];show _ :: σ₄.M = _;rw [hM₄]
  have hI₆:∀ x o,σ₃.I x = some o → σ₆.I x = some o:=fun x o h=>h₆.imm x o (h₅.imm x o (hI₄ x o h))
  have ht₆:σ₆.tok = σ.tok:=h₆.tok.trans (h₅.tok.trans ht₄)
  have hf₆:σ.frz.lg σ₆.frz:=⟨fun x o h=>hI₆ x o (hf₃.imm x o h),⟨[],rfl⟩,ht₆⟩
  have hg:=(Tryz.give_ok (S:=S) pa pl pc ps b3 b9 b5 b10 sb ob σ₆ (hps.lg hf₆ fun _ _ h=>h) hpl (hb₃.imI hI₆) (hb₉.imI h₆.imm) (hb₅.imI hI₆) hb₁₀ σ.M (ps.length + 1) a ⟨[],own⟩ σ₆ frz_self (by have:=unseen_le ps [];show unseen ps [] < _;omega) hM₆).post
   (R':=fun v σ'=>v = .bool (give ps (ps.length + 1) a ⟨[],own⟩).1 ∧ σ'.M = .obj ob (mapObj encI (ownV (give ps (ps.length + 1) a ⟨[],own⟩).2.own)) :: σ.M ∧ (∀ x o,σ₆.I x = some o → σ'.I x = some o) ∧ σ'.tok = σ₆.tok)
   fun v σ' ⟨h1,h2,h3,h4⟩=>⟨_,shift_drop (M':=.obj ob (mapObj encI (ownV (give ps (ps.length + 1) a ⟨[],own⟩).2.own)) :: σ.M) (by rw [h2];exact List.sublist_cons_self ..),h1,rfl,h3,h4⟩
  (conv=>whnf)
  refine ⟨_,hb₁₀.sees rfl,?_⟩
  (conv=>whnf)
  refine ⟨Tryz.k130.any,hg.mono ?_⟩
  rintro _ σ₇ ⟨rfl,hM₇,hI₇,ht₇⟩ -
  have hI₇':∀ x o,σ₃.I x = some o → σ₇.I x = some o:=fun x o h=>hI₇ x o (hI₆ x o h)
  rw [mostStep_eq] at hst
  cases hgv:give ps (ps.length + 1) a ⟨[],own⟩ with
  | mk b s'=>
  rw [hgv] at hM₇ hst
  simp only at hM₇ hst
  cases b with
  | true=>
   simp only [if_true] at hst
   (conv=>whnf);(repeat (refine ⟨rfl,?_⟩;conv=>whnf))
   refine ⟨hin2,?_⟩
   (conv=>whnf)
   refine ⟨hin,?_⟩
   (conv=>whnf)
   refine ⟨rfl,(i + 1,many + 1,s'.own),⟨rfl,rfl,rfl,rfl,rfl,rfl,rfl,trivial⟩,⟨hI₇',ht₇.trans ht₆,hM₇,by omega,by show many + 1 ≤ i + 1;omega,hst⟩,by show _ - _ < _ - _;omega⟩
  | false=>
   simp only [Bool.false_eq_true,if_false] at hst
   (conv=>whnf);(repeat (refine ⟨rfl,?_⟩;conv=>whnf))
   refine ⟨hin,?_⟩
   (conv=>whnf)
   refine ⟨rfl,(i + 1,many,s'.own),⟨rfl,rfl,rfl,rfl,rfl,rfl,rfl,trivial⟩,⟨hI₇',ht₇.trans ht₆,hM₇,by omega,by show many ≤ i + 1;omega,hst⟩,by show _ - _ < _ - _;omega⟩
 ·have hge:k.al ≤ i:=by simpa using hc
  rw [List.take_of_length_le (by omega)] at hst
  (conv=>whnf);(repeat (refine ⟨rfl,?_⟩;conv=>whnf))
  exact ⟨by unfold most;rw [hst],fun x o h=>hf₄.imm x o h,⟨[_],hM₄⟩,ht₄⟩
end Go.Proofs
namespace Go.TM
def cmpL:List Int → List Int → Int
 | [],[]=>0
 | [],_ :: _=>-1
 | _ :: _,[]=>1
 | a :: l,b :: r=>if a < b then -1 else if b < a then 1 else cmpL l r
end Go.TM
namespace Go.Proofs
open Go.TM
set_option maxRecDepth 100000
variable {T:Type} {S:TM.Sys Tryz.prog T} {σ:View T}
attribute [local irreducible] CallsV YieldV rngX
theorem Tryz.isNaN_ok (a:Int):CallsV S 172 #[.int .i64 a] (fun v σ'=>v = .bool false ∧ σ' = σ) σ:=by
 refine CallsV.of (args:=[_]) Tryz.k172 Tryz.mixed (by simp) ?_
 (conv=>whnf);(repeat (refine ⟨rfl,?_⟩;conv=>whnf))
 exact ⟨by simp,rfl⟩
theorem Tryz.cmp_ok (a b:Int):CallsV S 131 #[.int .i64 a,.int .i64 b] (fun v σ'=>v = .int .i64 (if a < b then -1 else if b < a then 1 else 0) ∧ σ' = σ) σ:=by
 refine CallsV.of (args:=[_,_]) Tryz.k131 Tryz.mixed (by simp) ?_
 (conv=>whnf)
 refine ⟨Tryz.k172.any,(Tryz.isNaN_ok a).mono ?_⟩
 rintro _ σ' ⟨rfl,hσ'⟩ -
 obtain rfl:=hσ'.symm
 (conv=>whnf)
 refine ⟨Tryz.k172.any,(Tryz.isNaN_ok b).mono ?_⟩
 rintro _ σ' ⟨rfl,hσ'⟩ -
 obtain rfl:=hσ'.symm
 (conv=>whnf);(repeat (refine ⟨rfl,?_⟩;conv=>whnf))
 refine cb_split (fun hc=>?_) (fun hc=>?_)
 ·have h:a < b:=by simpa using hc
  (conv=>whnf);(repeat (refine ⟨rfl,?_⟩;conv=>whnf))
  exact ⟨by rw [if_pos h],rfl⟩
 have h:¬ a < b:=by simpa using hc
 (conv=>whnf);(repeat (refine ⟨rfl,?_⟩;conv=>whnf))
 refine cb_split (fun hc=>?_) (fun hc=>?_)
 ·have h2:b < a:=by simpa using hc
  (conv=>whnf);(repeat (refine ⟨rfl,?_⟩;conv=>whnf))
  exact ⟨by rw [if_neg h,if_pos h2],rfl⟩
 have h2:¬ b < a:=by simpa using hc
 (conv=>whnf);(repeat (refine ⟨rfl,?_⟩;conv=>whnf))
 exact ⟨by rw [if_neg h,if_neg h2],rfl⟩
theorem Tryz.compare_ok (a a':Option Addr) (len cap len' cap':Nat) (l l':List Int) (hl:Ints σ a len l) (hl':Ints σ a' len' l') (hlen:len < 2 ^ 60) (hlen':len' < 2 ^ 60) :
  CallsV S 97 #[.slice a len cap,.slice a' len' cap'] (fun v σ'=>v = .int .i64 (cmpL l l') ∧ σ' = σ) σ:=by
 refine CallsV.of (args:=[_,_]) Tryz.k97 Tryz.mixed (by simp) ?_
 have hll:=hl.1
 have hll':=hl'.1
 (conv=>whnf);(repeat (refine ⟨rfl,?_⟩;conv=>whnf))
 refine ⟨Nat,fun i=>[(0,.slice a len cap),(1,.slice a' len' cap'),(9,.slice a len cap),(10,.int .i64 len),(11,.int .i64 i)],
  fun i σ'=>σ' = σ ∧ i ≤ len ∧ i ≤ len' ∧ cmpL l l' = cmpL (l.drop i) (l'.drop i),fun i=>len - i,0,⟨rfl,rfl,rfl,rfl,rfl,trivial⟩,⟨rfl,by omega,by omega,by simp⟩,?_⟩
 rintro i f _ ⟨rfl,hi,hi',hinv⟩
 (conv=>whnf);(repeat (refine ⟨rfl,?_⟩;conv=>whnf))
 refine cb_split (fun hc=>?_) (fun hc=>?_)
 ·have hlt:i < len:=by simpa using hc
  obtain ⟨ad,x,hx,rfl,hsp,hs⟩:=hl.at hlt
  (conv=>whnf)
  refine ⟨ad,i,⟨rfl,rfl,hlt⟩,?_⟩
  (conv=>whnf)
  refine ⟨_,hs,?_⟩
  (conv=>whnf);(repeat (refine ⟨rfl,?_⟩;conv=>whnf))
  refine cb_split (fun hc=>?_) (fun hc=>?_)
  ·have hge:len' ≤ i:=by simp at hc;omega
   (conv=>whnf);(repeat (refine ⟨rfl,?_⟩;conv=>whnf))
   rw [hinv,drop_at hx,show l'.drop i = [] from List.drop_eq_nil_of_le (by omega)]
   exact ⟨rfl,rfl⟩
  ·have hlt':i < len':=by simp at hc;omega
   obtain ⟨ad',y,hy,rfl,hsp',hs'⟩:=hl'.at hlt'
   rw [drop_at hx,drop_at hy,cmpL] at hinv
   (conv=>whnf)
   refine ⟨ad',i,⟨rfl,rfl,hlt'⟩,?_⟩
   (conv=>whnf)
   refine ⟨_,hs',?_⟩
   (conv=>whnf)
   refine ⟨Tryz.k131.any,(Tryz.cmp_ok x y).mono ?_⟩
   rintro _ σ' ⟨rfl,hσ'⟩ -
   obtain rfl:=hσ'.symm
   by_cases h1:x < y
   ·rw [if_pos h1] at hinv ⊢
    (conv=>whnf);(repeat (refine ⟨rfl,?_⟩;conv=>whnf))
    exact ⟨by rw [hinv],rfl⟩
   ·rw [if_neg h1] at hinv ⊢
    by_cases h2:y < x
    ·rw [if_pos h2] at hinv ⊢
     (conv=>whnf);(repeat (refine ⟨rfl,?_⟩;conv=>whnf))
     exact ⟨by rw [hinv],rfl⟩
    ·rw [if_neg h2] at hinv ⊢
     (conv=>whnf);(repeat (refine ⟨rfl,?_⟩;conv=>whnf))
     refine ⟨by unfold InR;omega,?_⟩
     (conv=>whnf)
     exact ⟨rfl,i + 1,⟨rfl,rfl,rfl,rfl,rfl,trivial⟩,⟨rfl,by omega,by omega,hinv⟩,by show _ - _ < _ - _;omega⟩
 ·have hge:i = len:=by simp at hc;omega
  subst hge
  rw [show l.drop i = [] from List.drop_eq_nil_of_le (by omega)] at hinv
  (conv=>whnf);(repeat (refine ⟨rfl,?_⟩;conv=>whnf))
  refine cb_split (fun hc=>?_) (fun hc=>?_)
  ·have hlt:i < len':=by simpa using hc
   obtain ⟨ad',y,hy,rfl,hsp',hs'⟩:=hl'.at hlt
   rw [drop_at hy] at hinv
   (conv=>whnf);(repeat (refine ⟨rfl,?_⟩;conv=>whnf))
   exact ⟨by rw [hinv];rfl,rfl⟩
  ·have hge:len' ≤ i:=by simpa using hc
   rw [show l'.drop i = [] from List.drop_eq_nil_of_le (by omega)] at hinv
   (conv=>whnf);(repeat (refine ⟨rfl,?_⟩;conv=>whnf))
   exact ⟨by rw [hinv];rfl,rfl⟩
end Go.Proofs
namespace Go.TM
variable {T:Type} {P:Program} {S:Sys P T} {σ:View T}
theorem src_pairs {v:Value} {l:List (Int × Int)} {M₀:List Res} (h:Acc 80 2 v (l.flatMap encII) σ.M M₀):∃ a cap,v = .slice a l.length cap ∧ RowsV σ a l.length 2 l fun p vs=>vs = encII p:=by
 obtain ⟨a,len,cap,rfl,hl,hs⟩:=h.src
 have:len = l.length:=by
  have h2:=encII_len l
  have h3:l.length * 2 = len * 2:=h2.symm.trans hl
  exact (Nat.eq_of_mul_eq_mul_right (by decide) h3).symm
 subst this
 refine ⟨a,cap,rfl,rows_src (n:=2) (fun _=>rfl) hs ?_ (by decide)⟩
 rintro ad rfl
 rcases h with ⟨h1,_⟩ | ⟨b,c,len,cap',h1,_⟩
 ·cases h1
 ·cases h1;rfl
def row2 (c:Array Value) (k:Nat) (x:Int × Int):Prop:=c[k * 2]? = some (.int .i64 x.1) ∧ c[k * 2 + 1]? = some (.int .i64 x.2)
theorem flat_at:∀ {l:List (Int × Int)} {k:Nat} {x:Int × Int},l[k]? = some x → (l.flatMap encII)[k * 2]? = some (.int .i64 x.1) ∧ (l.flatMap encII)[k * 2 + 1]? = some (.int .i64 x.2)
 | y :: l,0,x,h=>by simp at h;subst h;exact ⟨rfl,rfl⟩
 | y :: l,k + 1,x,h=>by
  have:=flat_at (l:=l) (k:=k) (by simpa using h)
  rw [show (k + 1) * 2 = k * 2 + 1 + 1 by omega,show k * 2 + 1 + 1 + 1 = (k * 2 + 1) + 1 + 1 by omega]
  exact this
theorem flat_inv:∀ {l:List (Int × Int)} {i:Nat} {v:Value},(l.flatMap encII)[i]? = some v → ∃ k x,l[k]? = some x ∧ ((i = k * 2 ∧ v = .int .i64 x.1) ∨ (i = k * 2 + 1 ∧ v = .int .i64 x.2))
 | [],i,v,h=>by simp at h
 | y :: l,0,v,h=>by
  have h:some (Value.int .i64 y.1) = some v:=h
  exact ⟨0,y,rfl,.inl ⟨rfl,(Option.some.inj h).symm⟩⟩
 | y :: l,1,v,h=>by
  have h:some (Value.int .i64 y.2) = some v:=h
  exact ⟨0,y,rfl,.inr ⟨rfl,(Option.some.inj h).symm⟩⟩
 | y :: l,i + 2,v,h=>by
  obtain ⟨k,x,h1,h2⟩:=flat_inv (l:=l) (i:=i) h
  exact ⟨k + 1,x,by simpa using h1,h2.imp (fun ⟨a,b⟩=>⟨by omega,b⟩) fun ⟨a,b⟩=>⟨by omega,b⟩⟩
theorem reads_row {b k:Nat} {e:TypeId} {c:Array Value} {M₀:List Res} {x:Int × Int} (hM:σ.M = .obj b (.cells c e (0,0)) :: M₀) (h:row2 c k x):Reads σ ((Addr.mk b 0 none).add (k * 2)) (encII x):=by
 intro i v hv
 rw [add_none,add_none]
 have:i = 0 ∨ i = 1:=by have:=(List.getElem?_eq_some_iff.1 hv).1;simp [encII] at this;omega
 refine ⟨rfl,.inl ⟨c,e,(0,0),.inr (by rw [hM];exact List.mem_cons_self ..),?_⟩⟩
 rcases this with rfl | rfl
 ·simp [encII] at hv;subst hv;simpa using h.1
 ·simp [encII] at hv;subst hv;simpa using h.2
theorem lay_row {c:Array Value} {i:Nat} {x:Int × Int} (hi:i * 2 + 1 < c.size):row2 (layAt c (i * 2) (encII x) 0) i x:=by
 constructor
 ·rw [layAt_get _ _ _ _ _ (by simp [encII];omega),if_pos (by simp [encII])];simp [encII]
 ·rw [layAt_get _ _ _ _ _ (by simp [encII];omega),if_pos (by simp [encII])];simp [encII]
theorem lay_other {c:Array Value} {i k:Nat} {x y:Int × Int} (hi:i * 2 + 1 < c.size) (hk:k ≠ i) (h:row2 c k y):row2 (layAt c (i * 2) (encII x) 0) k y:=by
 constructor
 ·rw [layAt_get _ _ _ _ _ (by simp [encII];omega),if_neg (by simp [encII];omega)];exact h.1
 ·rw [layAt_get _ _ _ _ _ (by simp [encII];omega),if_neg (by simp [encII];omega)];exact h.2
end Go.TM
namespace Go.Proofs
open Go.TM
set_option maxRecDepth 100000
variable {T:Type} {S:TM.Sys Tryz.prog T} {σ:View T}
attribute [local irreducible] CallsV YieldV rngX
theorem Tryz.u52:Tryz.prog.underlying 52 = some (.slice 80):=by kernel_rfl
theorem Tryz.i80:∃ inf,Tryz.prog.info? 80 = some inf ∧ inf.zero = some (.agg #[.int .i64 0,.int .i64 0]):=by
 have h1:(Tryz.prog.info? 80).map (·.zero) = some (some (.agg #[.int .i64 0,.int .i64 0])):=by kernel_rfl
 cases h:Tryz.prog.info? 80 with
 | none=>rw [h] at h1;cases h1
 | some inf=>rw [h] at h1;exact ⟨inf,rfl,Option.some.inj h1⟩
theorem Tryz.clone2_ok (a:Option Addr) (len cap:Nat) (l:List (Int × Int)) (hl:RowsV σ a len 2 l fun p vs=>vs = encII p) (hlen:len ≤ 400000) :
  CallsV S 133 #[.slice a len cap] (fun v σ'=>Acc 80 2 v (l.flatMap encII) σ'.M σ.M ∧ (∀ x o,σ.I x = some o → σ'.I x = some o) ∧ σ'.tok = σ.tok) σ:=by
 refine CallsV.of (args:=[_]) Tryz.k133 Tryz.mixed (by simp) ?_
 have hll:=hl.1
 (conv=>whnf)
 refine raw_eqNil Tryz.u52 rfl ?_
 (conv=>whnf)
 refine cb_split (fun hc=>?_) (fun hc=>?_)
 ·have ha:a = none:=by simpa using hc
  subst ha
  have:l = []:=by
   cases l with
   | nil=>rfl
   | cons x r=>obtain ⟨ad,vs,h,_⟩:=hl.2 0 x rfl;cases h
  subst this
  (conv=>whnf);(repeat (refine ⟨rfl,?_⟩;conv=>whnf))
  exact ⟨.nil,fun _ _ h=>h,rfl⟩
 ·obtain ⟨ad,rfl⟩:∃ ad,a = some ad:=by cases a with | none=>cases hc | some ad=>exact ⟨ad,rfl⟩
  (conv=>whnf)
  intro b5 hf5
  refine ⟨_,.refl _,?_⟩
  (conv=>whnf)
  refine raw_app (v:=.slice (some ⟨b5,0,none⟩) 0 0) (cs:=[]) (new:=l.flatMap encII) (M₀:=σ.M) Tryz.sl52 rfl rfl .empty (.inr ⟨_,rfl,fun i v hv=>?_⟩) (by rw [encII_len,hll]) (by intro w hw;obtain ⟨q,_,hq⟩:=List.mem_flatMap.1 hw;simp [encII] at hq;rcases hq with rfl | rfl <;> rfl) (by rw [encII_len];simp;omega) fun v' M' ha' _=>?_
  ·obtain ⟨k,x,hx,h⟩:=flat_inv hv
   obtain ⟨ad',vs,e,hsp,rfl,_,hr⟩:=hl.2 k x hx
   cases e
   rcases h with ⟨rfl,rfl⟩ | ⟨rfl,rfl⟩
   ·have:=hr 0 _ rfl
    rw [add_add _ hsp] at this
    exact this.lg (lg_put b5 _)
   ·have:=hr 1 _ rfl
    rw [add_add _ hsp] at this
    exact this.lg (lg_put b5 _)
  obtain ⟨ta,tl,tc,rfl,-,-⟩:=Acc.src (σ:={ σ with M:=M' }) ha'
  (conv=>whnf);(repeat (refine ⟨rfl,?_⟩;conv=>whnf))
  exact ⟨by simpa using ha',fun _ _ h=>h,rfl⟩
theorem zeroC2 (n:Nat):∀ w ∈ (Builtin.zeroCells (Value.agg #[.int .i64 0,.int .i64 0]).cells n).toList,w.single = true:=by
 intro w hw
 simp only [Builtin.zeroCells,Value.cells,Array.toList_map,List.mem_map] at hw
 obtain ⟨i,_,rfl⟩:=hw
 have:i % 2 = 0 ∨ i % 2 = 1:=by omega
 show (#[Value.int .i64 0,.int .i64 0][i % 2]!).single = true
 rcases this with h | h <;> rw [h] <;> rfl
theorem Tryz.delete2_ok (v:Value) (l:List (Int × Int)) (M₀:List Res) (ha:Acc 80 2 v (l.flatMap encII) σ.M M₀) (hlen:l.length ≤ 400000) (g:FuncId) (first capt:Array Value) (p:Int × Int → Bool)
  (hg:(Tryz.prog.funcs[g]?.any fun fd=>fd.body.isSome && fd.name != "runtime.NumGoroutine") = true)
  (hask:∀ σ₁,σ.frz.lg σ₁ → ∀ x ∈ l,CallsV S g (first.toList ++ [Value.agg (encII x).toArray] ++ capt.toList).toArray (fun v σ'=>v = .bool (p x) ∧ σ' = σ₁) σ₁) :
  CallsV S 132 #[v,.func (.func g) first capt] (fun v' σ'=>Acc 80 2 v' ((l.filter fun x=>!p x).flatMap encII) σ'.M M₀ ∧ (∀ x o,σ.I x = some o → σ'.I x = some o) ∧ σ'.tok = σ.tok) σ:=by
 obtain ⟨sa,sc,rfl,hli⟩:=src_pairs ha
 refine CallsV.of (args:=[_,_]) Tryz.k132 Tryz.mixed (by simp) ?_
 (conv=>whnf)
 refine ⟨Tryz.k135.any,(Tryz.idxP_ok encII sa l.length sc l hli (by omega) g first capt p ⟨hg,fun n hn=>hask σ frz_self n hn⟩).mono ?_⟩
 rintro _ σ' ⟨rfl,hσ'⟩ -
 obtain rfl:=hσ'.symm
 rcases idxV_cases p l with ⟨hi,hno⟩ | ⟨i₀,x₀,hi,hx₀,hpx,hno⟩
 ·rw [hi]
  (conv=>whnf);(repeat (refine ⟨rfl,?_⟩;conv=>whnf))
  refine ⟨?_,fun _ _ h=>h,rfl⟩
  rw [List.filter_eq_self.2 fun n hn=>by simp [hno n hn]]
  exact ha
 ·have hi₀:i₀ < l.length:=(List.getElem?_eq_some_iff.1 hx₀).1
  rcases ha with ⟨h1,h2,_⟩ | ⟨b,c,len,cap,h1,h2,h3,h4,hM,h5⟩
  ·have:=encII_len l;rw [h2] at this;simp at this;omega
  rw [encII_len] at h2
  obtain rfl:len = l.length:=(Nat.eq_of_mul_eq_mul_right (by decide) h2).symm
  cases h1
  rw [hi]
  have h5:∀ k x,l[k]? = some x → row2 c k x:=fun k x hx=>⟨h5 _ _ (flat_at hx).1,h5 _ _ (flat_at hx).2⟩
  (conv=>whnf);(repeat (refine ⟨rfl,?_⟩;conv=>whnf))
  refine ⟨by unfold InR;omega,?_⟩
  (conv=>whnf)
  refine ⟨Nat × Nat × Array Value,fun y=>[(0,.slice (some ⟨b,0,none⟩) l.length sc),(1,.func (.func g) first capt),(5,.int .i64 y.2.1),(6,.int .i64 y.1)],
   fun y σ'=>(∀ x o,σ.I x = some o → σ'.I x = some o) ∧ σ'.tok = σ.tok ∧ σ'.M = .obj b (.cells y.2.2 80 (0,0)) :: M₀ ∧ y.2.2.size = sc * 2 ∧ y.1 ≤ l.length ∧ y.2.1 < y.1 ∧ ((l.take y.1).filter fun n=>!p n).length = y.2.1 ∧
    (∀ (k:Nat) x,((l.take y.1).filter fun n=>!p n)[k]? = some x → row2 y.2.2 k x) ∧ (∀ (k:Nat) x,y.1 ≤ k → l[k]? = some x → row2 y.2.2 k x),
   fun y=>l.length - y.1,(i₀ + 1,i₀,c),⟨rfl,rfl,rfl,rfl,trivial⟩,?_,?_⟩
  ·have hk:(l.take (i₀ + 1)).filter (fun n=>!p n) = l.take i₀:=by
    rw [take_at hx₀,List.filter_append,List.filter_eq_self.2 fun n hn=>by simp [hno n hn]]
    simp [hpx]
   refine ⟨fun _ _ h=>h,rfl,hM,by show c.size = sc * 2;omega,by simp only;omega,by simp only;omega,by simp only [hk];simp;omega,fun k x hx=>?_,fun k x _ hx=>h5 k _ hx⟩
   simp only [hk] at hx
   rw [List.getElem?_take] at hx
   split at hx
   ·exact h5 k _ hx
   ·cases hx
  rintro ⟨j,i,c'⟩ f σ₁ ⟨hI,ht,hM₁,hsz,hj,hij,hkl,hk1,hk2⟩
  simp only at hM₁ hsz hj hij hkl hk1 hk2
  have hfl:σ.frz.lg σ₁:=⟨hI,⟨_,(List.append_nil _).symm⟩,ht⟩
  (conv=>whnf);(repeat (refine ⟨rfl,?_⟩;conv=>whnf))
  refine cb_split (fun hc=>?_) (fun hc=>?_)
  ·have hlt:j < l.length:=by simpa using hc
   have hx:l[j]? = some (l[j]'hlt):=by simp
   generalize l[j]'hlt = x at hx
   have hjn:InR (j + 1):=by unfold InR;omega
   have hin:InR (i + 1):=by unfold InR;omega
   (conv=>whnf)
   refine ⟨_,j,⟨rfl,rfl,hlt⟩,?_⟩
   (conv=>whnf)
   refine ⟨encII x,⟨rfl,reads_row hM₁ (hk2 j x (Nat.le_refl _) hx)⟩,?_⟩
   (conv=>whnf)
   intro b7 hf7
   refine ⟨_,.refl _,?_⟩
   (conv=>whnf)
   refine ⟨rfl,st_new (vs:=encII x) hf7 rfl (by simp [encII,Value.single]) fun σ₂ h₂ hb₇=>?_⟩
   have hM₂:=h₂.own.trans hM₁
   have hfl:=frz_le hfl h₂
   have hI₂:∀ x o,σ.I x = some o → σ₂.I x = some o:=hfl.imm
   have ht₂:σ₂.tok = σ.tok:=hfl.tok
   (conv=>whnf)
   refine ⟨encII x,⟨rfl,Blk.rdI hb₇ (fun _ _ h=>h)⟩,?_⟩
   (conv=>whnf)
   refine ⟨hg,(hask σ₂ hfl x (List.mem_of_getElem? hx)).mono ?_⟩
   rintro _ σ' ⟨rfl,hσ'⟩ -
   obtain rfl:=hσ'.symm
   (conv=>whnf);(repeat (refine ⟨rfl,?_⟩;conv=>whnf))
   refine cb_split (fun hc=>?_) (fun hc=>?_)
   ·have hp:p x = false:=by simpa using hc
    have hkx:(l.take (j + 1)).filter (fun n=>!p n) = (l.take j).filter (fun n=>!p n) ++ [x]:=by
     rw [take_at hx,List.filter_append];simp [hp]
    (conv=>whnf)
    refine ⟨encII x,⟨rfl,Blk.rdI hb₇ (fun _ _ h=>h)⟩,?_⟩
    (conv=>whnf)
    refine ⟨_,i,⟨rfl,rfl,by omega⟩,?_⟩
    (conv=>whnf)
    refine ⟨rfl,?_⟩
    show StV ((Addr.mk b 0 none).add (i * 2)) (encII x) 0 _ _
    rw [add_none,Nat.zero_add]
    refine stv_mid (M₀:=M₀) (e:=80) [] (encII x) 0 c' _ hM₂ (by simp [encII,Value.single]) (by simp [encII];omega) ⟨_,.refl _,?_⟩
    have hrow:i * 2 + 1 < c'.size:=by omega
    (conv=>whnf)
    refine ⟨hin,?_⟩
    (conv=>whnf)
    refine ⟨hjn,?_⟩
    (conv=>whnf)
    refine ⟨rfl,(j + 1,i + 1,layAt c' (i * 2) (encII x) 0),⟨rfl,rfl,rfl,rfl,trivial⟩,⟨hI₂,ht₂,rfl,by show (layAt _ _ _ _).size = _;rw [layAt_size];exact hsz,by simp only;omega,by simp only;omega,by simp only [hkx];simp [hkl],fun k y hy=>?_,fun k y hk hy=>?_⟩,by show _ - _ < _ - _;omega⟩
    ·simp only [hkx] at hy
     by_cases e:k < i
     ·rw [List.getElem?_append_left (by omega)] at hy
      exact lay_other hrow (by omega) (hk1 k y hy)
     ·rw [List.getElem?_append_right (by omega),hkl] at hy
      have:k = i:=by
       have:=(List.getElem?_eq_some_iff.1 hy).1
       simp at this;omega
      subst this
      simp at hy
      subst hy
      exact lay_row hrow
    ·simp only at hk
     exact lay_other hrow (by omega) (hk2 k y (by omega) hy)
   ·have hp:p x = true:=by simpa using hc
    have hkx:(l.take (j + 1)).filter (fun n=>!p n) = (l.take j).filter (fun n=>!p n):=by
     rw [take_at hx,List.filter_append];simp [hp]
    (conv=>whnf)
    refine ⟨hjn,?_⟩
    (conv=>whnf)
    refine ⟨rfl,(j + 1,i,c'),⟨rfl,rfl,rfl,rfl,trivial⟩,⟨hI₂,ht₂,hM₂,hsz,by simp only;omega,by simp only;omega,by simp only [hkx];exact hkl,fun k y hy=>hk1 k y (by simpa only [hkx] using hy),fun k y hk hy=>hk2 k y (by simp only at hk;omega) hy⟩,by show _ - _ < _ - _;omega⟩
  ·have hge:l.length ≤ j:=by simpa using hc
   rw [List.take_of_length_le hge] at hkl hk1
   (conv=>whnf)
   refine ⟨i,l.length,⟨rfl,rfl,by omega,by omega⟩,?_⟩
   have hadr:(if sc = i then some (Addr.mk b 0 none) else (some (Addr.mk b 0 none)).map (·.add (i * 2))) = some ⟨b,i * 2,none⟩:=by
    rw [if_neg (by omega)];simp [add_none]
   rw [hadr]
   (conv=>whnf)
   obtain ⟨inf,hi1,hi2⟩:=Tryz.i80
   refine raw_clear (len:=l.length - i) (cap:=sc - i) (off:=i * 2) (b:=b) Tryz.u52 hi1 hi2 (n:=2) rfl (zeroC2 _) rfl hM₁ (by omega) ?_
   (conv=>whnf)
   refine ⟨0,i,⟨rfl,rfl,by omega,by omega⟩,?_⟩
   have hadr2:(if sc = 0 then some (Addr.mk b 0 none) else (some (Addr.mk b 0 none)).map (·.add (0 * 2))) = some ⟨b,0,none⟩:=by
    rw [if_neg (by omega)];simp [add_none]
   rw [hadr2]
   (conv=>whnf);(repeat (refine ⟨rfl,?_⟩;conv=>whnf))
   refine ⟨?_,hI,ht⟩
   refine .inr ⟨b,_,i,sc,rfl,by rw [encII_len,hkl],by omega,by rw [layAt_size];omega,rfl,fun k v hv=>?_⟩
   obtain ⟨q,x,hx,h⟩:=flat_inv hv
   have hq:q < i:=by have:=(List.getElem?_eq_some_iff.1 hx).1;omega
   rw [layAt_get _ _ _ _ _ (by rw [clear_zero (n:=2) rfl];omega),if_neg (by omega)]
   rcases h with ⟨rfl,rfl⟩ | ⟨rfl,rfl⟩
   ·exact (hk1 q x hx).1
   ·exact (hk1 q x hx).2
theorem Tryz.shareP_ok (b:Nat) (p q:Int × Int) (hb:Blk σ b (encII p).toArray):CallsV S 134 #[.agg (encII q).toArray,.pointer (some ⟨b,0,none⟩)] (fun v σ'=>v = .bool (q.1 == p.1 || q.2 == p.2) ∧ σ' = σ) σ:=by
 refine CallsV.pure' (CallsV.of (args:=[_,_]) Tryz.k134 Tryz.mixed (by simp) ?_)
 have hb:Blk σ b #[.int .i64 p.1,.int .i64 p.2]:=hb
 (conv=>whnf);(repeat (refine ⟨rfl,?_⟩;conv=>whnf))
 intro b2 σ₁ h₁ hb₂
 have hb₂:Blk σ₁ b2 #[.int .i64 q.1,.int .i64 q.2]:=hb₂
 have hb:=hb.le h₁
 (conv=>whnf)
 refine ⟨_,hb₂.sees3 (o:=0) rfl,?_⟩
 (conv=>whnf)
 refine ⟨_,hb.sees3 (o:=0) rfl,?_⟩
 (conv=>whnf);(repeat (refine ⟨rfl,?_⟩;conv=>whnf))
 refine gb_split (fun hc=>?_) (fun hc=>?_)
 ·have h1:(q.1 == p.1) = false:=by simpa using hc
  (conv=>whnf)
  refine ⟨_,hb₂.sees3 (o:=1) rfl,?_⟩
  (conv=>whnf)
  refine ⟨_,hb.sees3 (o:=1) rfl,?_⟩
  (conv=>whnf);(repeat (refine ⟨rfl,?_⟩;conv=>whnf))
  exact ⟨by rw [h1];rfl,h₁.lg⟩
 ·have h1:(q.1 == p.1) = true:=by simpa using hc
  (conv=>whnf);(repeat (refine ⟨rfl,?_⟩;conv=>whnf))
  exact ⟨by rw [h1];rfl,h₁.lg⟩
end Go.Proofs
namespace Go.TM
variable {T:Type} {P:Program} {S:Sys P T} {σ:View T}
def restP (p:Int × Int) (r:List (Int × Int)):List (Int × Int):=r.filter fun q=>!(q.1 == p.1 || q.2 == p.2)
def pickP (la:List Int) (need:Nat):List (Int × Int) → Option ((Int × Int) × List (Int × Int))
 | []=>none
 | p :: r=>if need ≤ most la (restP p r) then some (p,restP p r) else pickP la need r
def proofL (la:List Int):Nat → List (Int × Int) → Option (List (Int × Int))
 | 0,_=>some []
 | n + 1,ps=>match pickP la n ps with
  | none=>none
  | some x=>(proofL la n x.2).map (x.1 :: ·)
theorem rows_drop {α:Type} {a:Option Addr} {len n cap i:Nat} {l:List α} {R:α → List Value → Prop} (h:RowsV σ a len n l R) (hi:i ≤ len) (hc:len ≤ cap):RowsV σ (if cap = i then a else a.map (·.add (i * n))) (len - i) n (l.drop i) R:=by
 refine ⟨by rw [List.length_drop,h.1],fun k x hx=>?_⟩
 rw [List.getElem?_drop] at hx
 obtain ⟨ad,vs,rfl,hsp,hr,hn,hv⟩:=h.2 _ x hx
 have hlt:i + k < len:=by have:=(List.getElem?_eq_some_iff.1 hx).1;rw [h.1] at this;exact this
 rw [if_neg (by omega)]
 refine ⟨ad.add (i * n),vs,rfl,?_,hr,hn,?_⟩
 ·obtain ⟨b,o,s⟩:=ad
  cases hsp
  rw [add_none]
 ·rw [add_add _ hsp,← Nat.add_mul];exact hv
end Go.TM
namespace Go.Proofs
open Go.TM
set_option maxRecDepth 100000
variable {T:Type} {S:TM.Sys Tryz.prog T} {σ:View T}
attribute [local irreducible] CallsV YieldV rngX
theorem Tryz.proof_ok (h:TH) (k:KH) (tk:Talk) (ha:Ints σ.frz k.aa k.al tk.a) (hal:k.al < 2 ^ 60) (v₀:Value) (ps₀:List (Int × Int)) (hps:PairsN σ.frz v₀ ps₀) (hpl:ps₀.length ≤ 1000) (many:Nat) (hmany:many ≤ 1000) (L:List (Int × Int)) (hL:proofL tk.a many ps₀ = some L) :
  CallsV S 98 #[KH.v h k tk,v₀,.int .i64 many] (fun v σ'=>Acc 80 2 v (L.flatMap encII) σ'.M σ.M ∧ (∀ x o,σ.I x = some o → σ'.I x = some o) ∧ σ'.tok = σ.tok) σ:=by
 obtain ⟨pa₀,pc₀,rfl,hcap₀,hrows₀⟩:=hps
 refine CallsV.of (args:=[_,_,_]) Tryz.k98 Tryz.mixed (by simp) ?_
 (conv=>whnf);(repeat (refine ⟨rfl,?_⟩;conv=>whnf))
 intro b3 σ₁ h₁ hb₃
 have hb₃:Blk σ₁ b3 (KH.cs h k tk).toArray:=hb₃
 (conv=>whnf)
 refine ⟨Value × Value × List (Int × Int) × Nat × List (Int × Int),fun y=>[(1,y.2.1),(2,.int .i64 many),(3,.pointer (some ⟨b3,0,none⟩)),(7,y.1)],
  fun y σ'=>(∀ x o,σ₁.I x = some o → σ'.I x = some o) ∧ σ'.tok = σ.tok ∧ Acc 80 2 y.1 (y.2.2.2.2.flatMap encII) σ'.M σ.M ∧ PairsN σ'.frz y.2.1 y.2.2.1 ∧ y.2.2.1.length ≤ 1000 ∧ y.2.2.2.2.length + y.2.2.2.1 = many ∧ ∃ L',proofL tk.a y.2.2.2.1 y.2.2.1 = some L' ∧ L = y.2.2.2.2 ++ L',
  fun y=>y.2.2.2.1,(.slice none 0 0,.slice pa₀ ps₀.length pc₀,ps₀,many,[]),⟨rfl,rfl,rfl,rfl,trivial⟩,⟨fun _ _ h=>h,h₁.tok,by rw [h₁.own];exact .nil,⟨pa₀,pc₀,rfl,hcap₀,hrows₀.lg (frz_self.trans h₁.lg).frz2 fun _ _ h=>h⟩,hpl,by simp,L,hL,rfl⟩,?_⟩
 rintro ⟨vo,vp,ps,n,out⟩ f σ₂ ⟨hI₂,ht₂,hacc,hpn,hpl,hn,L',hL',hLo⟩
 simp only at hacc hpn hpl hn hL' hLo
 obtain ⟨oa,oc,rfl,-⟩:=src_pairs hacc
 obtain ⟨pa,pc,rfl,hcap,hrows⟩:=hpn
 have hf₂:σ.frz.lg σ₂:=⟨fun x o h=>hI₂ x o (h₁.imm x o h),⟨_,(List.append_nil _).symm⟩,ht₂⟩
 (conv=>whnf);(repeat (refine ⟨rfl,?_⟩;conv=>whnf))
 refine cb_split (fun hc=>?_) (fun hc=>?_)
 ·have hlt:out.length < many:=by simpa using hc
  obtain ⟨n',rfl⟩:∃ n',n = n' + 1:=⟨n - 1,by omega⟩
  rw [proofL] at hL'
  cases hpick:pickP tk.a n' ps with
  | none=>rw [hpick] at hL';cases hL'
  | some pr=>
  obtain ⟨p₁,rest₁⟩:=pr
  rw [hpick] at hL'
  simp only at hL'
  obtain ⟨L₁,hL₁,rfl⟩:=Option.map_eq_some_iff.1 hL'
  (conv=>whnf);(repeat (refine ⟨rfl,?_⟩;conv=>whnf))
  refine ⟨Nat,fun j=>[(1,.slice pa ps.length pc),(2,.int .i64 many),(3,.pointer (some ⟨b3,0,none⟩)),(7,.slice oa out.length oc),(15,.slice pa ps.length pc),(16,.int .i64 ps.length),(17,.int .i64 j)],
   fun j σ'=>(∀ x o,σ₂.I x = some o → σ'.I x = some o) ∧ σ'.tok = σ.tok ∧ σ'.M = σ₂.M ∧ j ≤ ps.length ∧ pickP tk.a n' (ps.drop j) = some (p₁,rest₁),
   fun j=>ps.length - j,0,⟨rfl,rfl,rfl,rfl,rfl,rfl,rfl,trivial⟩,⟨fun _ _ h=>h,ht₂,rfl,by omega,by simpa using hpick⟩,?_⟩
  rintro j f σ₃ ⟨hI₃,ht₃,hM₃,hj,hpk⟩
  have hle₃:σ₂.le σ₃:=⟨hI₃,hM₃,ht₃.trans ht₂.symm⟩
  have hf₃:σ.frz.lg σ₃:=frz_le hf₂ hle₃
  (conv=>whnf);(repeat (refine ⟨rfl,?_⟩;conv=>whnf))
  refine cb_split (fun hc=>?_) (fun hc=>?_)
  ·have hltj:j < ps.length:=by simpa using hc
   obtain ⟨ad,p,vs,hx,hpa,hsp,rfl,-,hrd⟩:=RowsV.at hrows hltj
   rw [drop_at hx,pickP] at hpk
   have hjn:InR (j + 1):=by unfold InR;omega
   have hf₂₃:σ₂.frz.lg σ₃:=frz_self.trans hle₃.lg
   (conv=>whnf)
   refine ⟨ad,j,⟨hpa,rfl,hltj⟩,?_⟩
   (conv=>whnf)
   refine ⟨encII p,⟨rfl,hrd.lg hf₂₃⟩,?_⟩
   (conv=>whnf)
   intro b9 hf9
   refine ⟨_,.refl _,?_⟩
   (conv=>whnf)
   refine ⟨rfl,st_new (vs:=encII p) hf9 rfl (by simp [encII,Value.single]) fun σ₄ h₄ hb₉=>?_⟩
   have hle₄:=hle₃.trans h₄
   (conv=>whnf)
   refine ⟨hjn,?_⟩
   (conv=>whnf)
   refine ⟨j + 1,ps.length,⟨rfl,rfl,by omega,by omega⟩,?_⟩
   have hdr:=rows_drop (i:=j + 1) (hrows.lg (frz_self.trans hle₄.lg) fun _ _ h=>h) (by omega) hcap
   generalize (if pc = j + 1 then pa else pa.map (·.add ((j + 1) * 2))) = da at hdr ⊢
   (conv=>whnf)
   refine ⟨Tryz.k133.any,(Tryz.clone2_ok da (ps.length - (j + 1)) (pc - (j + 1)) (ps.drop (j + 1)) hdr (by omega)).mono ?_⟩
   rintro cv σ₅ ⟨ha₅,hI₅,ht₅⟩ -
   obtain ⟨ca,cc,rfl,-⟩:=src_pairs ha₅
   have hdel:=(Tryz.delete2_ok (S:=S) (σ:=σ₅) _ (ps.drop (j + 1)) σ₄.M ha₅ (by rw [List.length_drop];omega) 134 #[] #[.pointer (some ⟨b9,0,none⟩)] (fun q=>q.1 == p.1 || q.2 == p.2) Tryz.k134.any fun σ₆ hl₆ x _=>Tryz.shareP_ok b9 p x ((hb₉.imI hI₅).imI hl₆.imm)).sep
    (R':=fun v σ''=>σ₄.le σ'' ∧ PairsN σ''.frz v (restP p (ps.drop (j + 1)))) fun v σ' hs ⟨h1,h2,h3⟩=>by
     obtain ⟨σ'',k1,k2,k3⟩:=h1.pairsN (σ:=σ₄) hs (fun x o h=>h2 x o (hI₅ x o h)) (h3.trans ht₅)
     exact ⟨σ'',k1,k2,k3⟩
   (conv=>whnf)
   refine ⟨Tryz.k132.any,hdel.mono ?_⟩
   rintro _ σ₆ ⟨hle₆,ra,rc,rfl,hrcap,hrr⟩ -
   have hle₆':=hle₄.trans hle₆
   have hf₆:σ.frz.lg σ₆.frz:=(frz_le hf₂ hle₆').frz2
   have hb₃6:Blk σ₆ b3 (KH.cs h k tk).toArray:=hb₃.imI fun x o h=>hle₆'.imm x o (hI₂ x o h)
   have hrl:(restP p (ps.drop (j + 1))).length ≤ 1000:=by
    have h1:=List.length_filter_le (fun q:Int × Int=>!(q.1 == p.1 || q.2 == p.2)) (ps.drop (j + 1))
    rw [List.length_drop] at h1
    unfold restP;omega
   (conv=>whnf)
   refine ⟨KH.cs h k tk,⟨rfl,Blk.rdI hb₃6 (fun _ _ h=>h)⟩,?_⟩
   (conv=>whnf)
   refine ⟨Tryz.k95.any,(Tryz.most_ok h k tk (ha.lg hf₆) hal ra _ rc (restP p (ps.drop (j + 1))) hrr (by omega)).mono ?_⟩
   rintro _ σ' ⟨rfl,hσ'⟩ -
   obtain rfl:=hσ'.symm
   (conv=>whnf);(repeat (refine ⟨rfl,?_⟩;conv=>whnf))
   refine ⟨by unfold InR;omega,?_⟩
   (conv=>whnf)
   refine ⟨by unfold InR;omega,?_⟩
   (conv=>whnf);(repeat (refine ⟨rfl,?_⟩;conv=>whnf))
   refine cb_split (fun hc=>?_) (fun hc=>?_)
   ·have hge:n' ≤ most tk.a (restP p (ps.drop (j + 1))):=by simp at hc;omega
    rw [if_pos hge] at hpk
    simp only [Option.some.injEq,Prod.mk.injEq] at hpk
    obtain ⟨rfl,rfl⟩:=hpk
    (conv=>whnf)
    refine ⟨encII p,⟨rfl,Blk.rdI (hb₉.imI hle₆.imm) (fun _ _ h=>h)⟩,?_⟩
    (conv=>whnf)
    intro bn hfn
    refine put_new hfn fun σ₇ h₇ hbn=>?_
    have hbn:Blk σ₇ bn (encII p).toArray:=hbn
    have hle₇:=hle₆'.trans h₇
    (conv=>whnf)
    refine raw_app (v:=.slice oa out.length oc) (cs:=out.flatMap encII) (new:=encII p) (M₀:=σ.M) Tryz.sl52 rfl rfl (by rw [hle₇.own];exact hacc) (.inr ⟨_,rfl,Blk.rdI hbn (fun _ _ h=>h)⟩) rfl (by simp [encII,Value.single]) (by rw [encII_len];show _ + 2 ≤ _;omega) fun v' M' ha' _=>?_
    have ha':Acc 80 2 v' ((out ++ [p]).flatMap encII) M' σ.M:=by simpa using ha'
    obtain ⟨ta,tc,rfl,-⟩:=src_pairs (σ:={ σ₇ with M:=M' }) ha'
    (conv=>whnf)
    refine ⟨rfl,(_,_,restP p (ps.drop (j + 1)),n',out ++ [p]),⟨rfl,rfl,rfl,rfl,trivial⟩,⟨fun x o h=>hle₇.imm x o (hI₂ x o h),hle₇.tok.trans ht₂,ha',⟨ra,rc,rfl,hrcap,hrr.lg (⟨h₇.imm,⟨[],rfl⟩,h₇.tok⟩:σ₆.frz.lg ({ σ₇ with M:=M' }:View T).frz) fun _ _ h=>h⟩,hrl,by simp;omega,L₁,hL₁,by rw [hLo];simp⟩,by show n' < n' + 1;omega⟩
   ·have hlt2:¬ n' ≤ most tk.a (restP p (ps.drop (j + 1))):=by simp at hc;omega
    rw [if_neg hlt2] at hpk
    (conv=>whnf);(repeat (refine ⟨rfl,?_⟩;conv=>whnf))
    refine ⟨hjn,?_⟩
    (conv=>whnf)
    refine ⟨rfl,j + 1,⟨rfl,rfl,rfl,rfl,rfl,rfl,rfl,trivial⟩,⟨hle₆'.imm,hle₆'.tok.trans ht₂,hle₆'.own,by omega,hpk⟩,by show _ - _ < _ - _;omega⟩
  ·have hge:ps.length ≤ j:=by simpa using hc
   rw [show ps.drop j = [] from List.drop_eq_nil_of_le hge] at hpk
   cases hpk
 ·have hge:¬ out.length < many:=by simpa using hc
  obtain rfl:n = 0:=by omega
  rw [proofL] at hL'
  cases hL'
  (conv=>whnf);(repeat (refine ⟨rfl,?_⟩;conv=>whnf))
  rw [hLo,List.append_nil]
  exact ⟨hacc,hf₂.imm,ht₂⟩
end Go.Proofs
namespace Go.TM
variable {T:Type} {P:Program} {S:Sys P T} {σ:View T}
theorem updobj_mid {b:Nat} {o o':Obj} {M:List Res}:∀ X:List Res,UpdObj b o' o (X ++ .obj b o :: M) (X ++ .obj b o' :: M)
 | []=>.here
 | _ :: X=>.there (updobj_mid X)
def IntsN (σ:View T) (v:Value) (l:List Int):Prop:=∃ a cap,v = .slice a l.length cap ∧ (a = none ↔ l = []) ∧ Ints σ a l.length l
theorem IntsN.lg {σ':View T} {v:Value} {l:List Int} (h:IntsN σ v l) (hl:σ.lg σ'):IntsN σ' v l:=let ⟨a,c,e,k,h⟩:=h;⟨a,c,e,k,h.lg hl⟩
theorem IntsN.nil:IntsN σ (.slice none 0 0) []:=⟨none,0,rfl,⟨fun _=>rfl,fun _=>rfl⟩,rfl,by simp⟩
theorem Acc.intsN {σ':View T} {v:Value} {l:List Int} (hs:Sep σ') (h:Acc 3 1 v (l.map fun n=>.int .i64 n) σ'.M σ.M) (h0:l = [] → v = .slice none 0 0) (hI:∀ x ox,σ.I x = some ox → σ'.I x = some ox) (ht:σ'.tok = σ.tok):∃ σ'',Shift σ' σ'' ∧ σ.le σ'' ∧ IntsN σ''.frz v l:=by
 obtain ⟨σ'',k1,k2,a,len,cap,rfl,hl,hsrc,hsp,_⟩:=h.freeze hs hI ht
 have hl:l.length = len * 1:=by simpa using hl
 obtain rfl:len = l.length:=by omega
 refine ⟨σ'',k1,k2,a,cap,rfl,⟨fun e=>?_,fun e=>?_⟩,ints_src hsrc hsp⟩
 ·subst e
  rcases hsrc with ⟨_,h⟩ | ⟨ad,h,_⟩
  ·simpa using h
  ·cases h
 ·have:=h0 e
  simp at this
  exact this.1
def Tbl.LeftOut (t:Tbl) (tk:Talk) (x out:List Int):Prop:=∃ l',l'.Perm ((t.reach tk x []).map Prod.snd) ∧ SrtTo l' l'.length ∧ out = cpt none l'
end Go.TM
namespace Go.Proofs
open Go.TM
set_option maxRecDepth 100000
variable {T:Type} {S:TM.Sys Tryz.prog T} {σ:View T}
attribute [local irreducible] CallsV YieldV rngX
theorem Tryz.compact_nil:CallsV S 67 #[.slice none 0 0] (fun v σ'=>v = .slice none 0 0 ∧ σ' = σ) σ:=by
 refine CallsV.of (args:=[_]) Tryz.k67 Tryz.mixed (by simp) ?_
 (conv=>whnf);(repeat (refine ⟨rfl,?_⟩;conv=>whnf))
def encT (q:Int × Int):Value:=.int .i64 q.2
theorem Tryz.left_ok (h:TH) (t:Tbl) (ht:TabV σ.frz h t) (k:KH) (tk:Talk) (ha:Ints σ.frz k.aa k.al tk.a) (hb:Ints σ.frz k.ba k.bl tk.b) (hal:k.al ≤ 8) (hbl:k.bl ≤ 8) (xa:Option Addr) (xl xc:Nat) (x:List Int) (hx:Ints σ.frz xa xl x) (hxl:xl < 2 ^ 60) (h12:(t.reach tk x []).length ≤ 12) :
  CallsV S 96 #[KH.v h k tk,.slice xa xl xc] (fun v σ'=>(∃ out,t.LeftOut tk x out ∧ IntsN σ'.frz v out) ∧ σ.le σ') σ:=by
 refine CallsV.sep (R:=fun v σ'=>∃ out,t.LeftOut tk x out ∧ (out = [] → v = .slice none 0 0) ∧ (∃ A Y,σ'.M.Perm (Y ++ (A ++ σ.M)) ∧ AccIn 3 1 v (out.map fun n=>.int .i64 n) A) ∧ (∀ x o,σ.I x = some o → σ'.I x = some o) ∧ σ'.tok = σ.tok) ?_ ?_
 rotate_left
 ·rintro v σ' hs ⟨out,hout,h0,⟨A,Y,hM,hacc⟩,hI,htk⟩
  let σ₁:View T:={ σ' with M:=A ++ σ.M }
  have hsh:Shift σ' σ₁:=(shift_perm hM).trans (shift_drop (σ:={ σ' with M:=Y ++ (A ++ σ.M) }) (M':=A ++ σ.M) (List.sublist_append_right ..))
  have hs₁:Sep σ₁:=fun r hr=>hs r (hM.mem_iff.2 (List.mem_append_right _ hr))
  obtain ⟨σ'',k1,k2,k3⟩:=Acc.intsN (σ':=σ₁) hs₁ (hacc σ.M) h0 hI htk
  exact ⟨σ'',hsh.trans k1,⟨out,hout,k3⟩,k2⟩
 refine CallsV.of (args:=[_,_]) Tryz.k96 Tryz.mixed (by simp) ?_
 (conv=>whnf);(repeat (refine ⟨rfl,?_⟩;conv=>whnf))
 intro b2 σ₁ h₁ hb₂
 have hb₂:Blk σ₁ b2 (KH.cs h k tk).toArray:=hb₂
 (conv=>whnf)
 intro b5 hf5
 refine ⟨_,.refl _,?_⟩
 (conv=>whnf)
 refine ⟨KH.cs h k tk,⟨rfl,Blk.rdI hb₂ (fun _ _ h=>h)⟩,?_⟩
 (conv=>whnf)
 refine ⟨Tryz.k92.any,(Tryz.pairs_ok h k tk xa none xl xc 0 0).mono ?_⟩
 rintro _ σ₂ ⟨⟨p3,p4,p5,rfl,hp3,hp4,hp5⟩,h₂⟩ -
 have hM₂:σ₂.M = .obj b5 (.cells #[.slice none 0 0] 27 (0,0)) :: σ.M:=by rw [h₂.own];show _ :: σ₁.M = _;rw [h₁.own]
 have hf₂:σ.frz.lg σ₂:=⟨fun x o h=>h₂.imm x o (h₁.imm x o h),⟨_,(List.append_nil _).symm⟩,h₂.tok.trans h₁.tok⟩
 have hit:∀ l σ₃,σ₂.frz.lg σ₃ → IterV S 129 #[.func (.yield l) #[] #[],.pointer (some ⟨p3,0,none⟩),.pointer (some ⟨p4,0,none⟩),.pointer (some ⟨p5,0,none⟩)] l ((t.reach tk x []).map encA) σ₃:=fun l σ₃ hl=>by
  have hl':=hl.frz2
  have hf:=hf₂.frz2.trans hl'
  exact Tryz.pairsIt_ok h t (ht.lg hf) k tk (ha.lg hf) (hb.lg hf) xa none xl xc 0 0 x [] (hx.lg hf) ⟨rfl,by simp⟩ (by omega) (by omega) hxl (by omega) p3 p4 p5 l (hp3.imI hl.imm) (hp4.imI hl.imm) (hp5.imI hl.imm)
 generalize hps:t.reach tk x [] = ps at hit h12
 (conv=>whnf)
 let Inv:Nat → View T → Prop:=fun k σ'=>σ₂.frz.lg σ' ∧ ∃ v A,σ'.M = A ++ .obj b5 (.cells #[v] 27 (0,0)) :: σ.M ∧ AccIn 3 1 v ((ps.take k).map encT) A ∧ (k = 0 → v = .slice none 0 0)
 refine rngX_iter Tryz.mixed (ps.map encA) Inv (fun _ _=>False) (fun _=>False) rfl rfl Tryz.k129.any (fun l σ₁ hl=>hit l σ₁ ⟨hl.imm,⟨_,(List.append_nil _).symm⟩,hl.tok⟩) ?_ ⟨?_,?_⟩ ?_ ?_ ?_ ?_ ?_
 ·intro p hp
  obtain ⟨q,_,rfl⟩:=List.mem_map.1 hp
  rfl
 ·rintro k σ' σ'' hle ⟨hl,v,A,hM,ha,h0⟩
  exact ⟨frz_le hl hle,v,A,hle.own.trans hM,ha,h0⟩
 ·rintro k σ' ⟨hl,_⟩
  exact ⟨hl.imm,⟨_,(List.append_nil _).symm⟩,hl.tok⟩
 ·exact ⟨⟨fun _ _ h=>h,⟨_,(List.append_nil _).symm⟩,rfl⟩,.slice none 0 0,[],hM₂,.nil,fun _=>rfl⟩
 ·intro l A' B D k p σ₀ KN KX KR KA hp ⟨hl,v,A,hM,ha,h0⟩ hKN hKX hKR hKA
  obtain ⟨q,hq,rfl⟩:∃ q,ps[k]? = some q ∧ p = encA q:=by
   rw [List.getElem?_map] at hp
   cases hq:ps[k]? with
   | none=>rw [hq] at hp;cases hp
   | some q=>rw [hq] at hp;cases hp;exact ⟨q,rfl,rfl⟩
  have hk:k < ps.length:=(List.getElem?_eq_some_iff.1 hq).1
  obtain ⟨sa,sl,sc,rfl,hsl⟩:=ha.src
  (conv=>whnf)
  intro b6 hf6
  refine ⟨_,.refl _,?_⟩
  (conv=>whnf)
  refine ⟨rfl,st_new (vs:=encII q) hf6 rfl (by simp [encII,Value.single]) fun σ₁ h₁ hb₆=>?_⟩
  (conv=>whnf)
  have e1:σ₁ = ({ σ₁ with M:=σ₀.M }:View T).on A' D:=by
   have:=h₁.own
   obtain ⟨i1,m1,t1⟩:=σ₁
   simp only [View.on] at this ⊢
   rw [this]
  rw [e1]
  refine hKA _ _ ?_
  have hM1:(({ σ₁ with M:=σ₀.M }:View T).on B D).M = B :: D :: (A ++ .obj b5 (.cells #[.slice sa sl sc] 27 (0,0)) :: σ.M):=by show B :: D :: σ₀.M = _;rw [hM]
  have hI1:∀ x o,σ₀.I x = some o → σ₁.I x = some o:=fun x o h=>h₁.imm x o h
  have hb₆':Blk (({ σ₁ with M:=σ₀.M }:View T).on B D) b6 #[.int .i64 q.1,.int .i64 q.2]:=hb₆
  generalize hσ₂:(({ σ₁ with M:=σ₀.M }:View T).on B D) = σ₃ at hM1 hb₆' ⊢
  have hI2:∀ x o,σ₂.I x = some o → σ₃.I x = some o:=fun x o h=>by rw [← hσ₂];exact hI1 x o (hl.imm x o h)
  have ht2:σ₃.tok = σ₂.tok:=by rw [← hσ₂];exact h₁.tok.trans hl.tok
  clear hσ₂ e1 h₁ hb₆ hf6
  (conv=>whnf)
  refine ⟨_,reads_at (B :: D :: A) hM1 0 _ rfl,?_⟩
  (conv=>whnf)
  refine ⟨_,hb₆'.sees3 (o:=1) rfl,?_⟩
  (conv=>whnf)
  intro bn hfn
  refine put_new_perm (M':=A ++ B :: D :: .obj b5 (.cells #[.slice sa sl sc] 27 (0,0)) :: σ.M) hfn (by rw [hM1];exact perm_in B D A _) fun σ₄ hI₄ ht₄ hM₄ hbn=>?_
  have hbn:Blk σ₄ bn #[encT q]:=hbn
  (conv=>whnf)
  refine raw_app (v:=.slice sa sl sc) (cs:=(ps.take k).map encT) (new:=[encT q]) (M₀:=B :: D :: .obj b5 (.cells #[.slice sa sl sc] 27 (0,0)) :: σ.M) Tryz.sl27 rfl rfl (by rw [hM₄];exact ha _) (.inr ⟨_,rfl,Blk.rdI (vs:=[encT q]) hbn (fun _ _ h=>h)⟩) rfl (by simp [encT,Value.single]) (by simp;omega) fun v' M' ha' hnil=>?_
  have ha':Acc 3 1 v' ((ps.take (k + 1)).map encT) M' (B :: D :: .obj b5 (.cells #[.slice sa sl sc] 27 (0,0)) :: σ.M):=by rw [take_at hq];simpa using ha'
  obtain ⟨A₂,hM',ha₂⟩:=ha'.split
  obtain ⟨ta,tl,tc,rfl,-⟩:=ha₂.src
  (conv=>whnf)
  refine ⟨rfl,?_⟩
  refine stv_mid (M₀:=σ.M) (e:=27) (A₂ ++ [B,D]) [.slice ta tl tc] 0 #[.slice sa sl sc] _ (by show M' = _;rw [hM'];simp) (by simp [Value.single]) (by simp) ?_
  refine ⟨({ σ₄ with M:=A₂ ++ .obj b5 (.cells #[.slice ta tl tc] 27 (0,0)) :: σ.M }:View T).on B D,?_,?_⟩
  ·refine shift_perm ?_
   show List.Perm ((A₂ ++ [B,D]) ++ .obj b5 _ :: σ.M) (B :: D :: (A₂ ++ _))
   simpa [layAt] using (perm_in B D A₂ (.obj b5 (.cells #[.slice ta tl tc] 27 (0,0)) :: σ.M)).symm
  (conv=>whnf)
  exact hKN _ _ _ ⟨⟨fun x o h=>hI₄ x o (hI2 x o h),⟨_,(List.append_nil _).symm⟩,ht₄.trans ht2⟩,_,A₂,rfl,ha₂,fun h=>absurd h (Nat.succ_ne_zero _)⟩
 ·rintro d l OA σ₃ ⟨hl,v,A₁,hM,ha,h0⟩
  rw [List.take_of_length_le (by simp)] at ha
  rw [List.length_map] at h0
  obtain ⟨sa,sl,sc,rfl,hsl⟩:=ha.src
  have hM₃:(σ₃.on (.obj l OA) (.obj d (.deferred (some [])))).M = .obj l OA :: .obj d (.deferred (some [])) :: (A₁ ++ .obj b5 (.cells #[.slice sa sl sc] 27 (0,0)) :: σ.M):=by show _ :: _ :: σ₃.M = _;rw [hM]
  have hI₃:∀ x o,σ.I x = some o → (σ₃.on (.obj l OA) (.obj d (.deferred (some [])))).I x = some o:=fun x o h=>hl.imm x o (hf₂.imm x o h)
  have ht₃:(σ₃.on (.obj l OA) (.obj d (.deferred (some [])))).tok = σ.tok:=hl.tok.trans hf₂.tok
  generalize hσ:σ₃.on (.obj l OA) (.obj d (.deferred (some []))) = σ₄ at hM₃ hI₃ ht₃ ⊢
  clear hσ
  (conv=>whnf)
  refine ⟨_,reads_at (.obj l OA :: .obj d (.deferred (some [])) :: A₁) hM₃ 0 _ rfl,?_⟩
  have ha':AccIn 3 1 (.slice sa sl sc) ((ps.map Prod.snd).map fun n=>.int .i64 n) A₁:=by rw [List.map_map];exact ha
  by_cases hnil:ps = []
  ·have h0:=h0 (by rw [hnil];rfl)
   simp only [Value.slice.injEq] at h0
   obtain ⟨rfl,rfl,rfl⟩:=h0
   subst hnil
   have hA1:A₁ = []:=by
    rcases ha [] with ⟨_,_,h⟩ | ⟨b,c,len,cap,h,_⟩
    ·simpa using h
    ·cases h
   subst hA1
   (conv=>whnf)
   refine ⟨Tryz.k66.any,(Tryz.sort_ok (.slice none 0 0) [] _ .nil (by simp)).mono ?_⟩
   rintro v₅ σ₅ ⟨hI₅,ht₅,l',hp,hs',ha₅⟩ -
   obtain rfl:=hp.eq_nil
   have hM₅:σ₅.M = .obj l OA :: .obj d (.deferred (some [])) :: .obj b5 (.cells #[.slice none 0 0] 27 (0,0)) :: σ.M:=by
    rcases ha₅ with ⟨_,_,h⟩ | ⟨b,c,len,cap,h,_⟩
    ·exact h.trans hM₃
    ·cases h
   (conv=>whnf)
   refine ⟨_,reads_at [.obj l OA,.obj d (.deferred (some []))] hM₅ 0 _ rfl,?_⟩
   (conv=>whnf)
   refine ⟨Tryz.k67.any,(Tryz.compact_nil).mono ?_⟩
   rintro _ σ' ⟨rfl,hσ'⟩ -
   obtain rfl:=hσ'.symm
   (conv=>whnf)
   refine ⟨.obj l OA :: .obj d (.deferred none) :: .obj b5 (.cells #[.slice none 0 0] 27 (0,0)) :: σ.M,by rw [hM₅];exact .there .here,?_⟩
   (conv=>whnf)
   refine ⟨[],⟨[],by rw [hps];exact .nil,by simp [SrtTo],rfl⟩,fun _=>rfl,⟨[],[.obj l OA,.obj d (.deferred none),.obj b5 (.cells #[.slice none 0 0] 27 (0,0))],.refl _,.nil⟩,fun x o h=>hI₅ x o (hI₃ x o h),ht₅.trans ht₃⟩
  ·(conv=>whnf)
   refine ⟨Tryz.k66.any,CallsV.shift (shift_perm (M':=A₁ ++ .obj l OA :: .obj d (.deferred (some [])) :: .obj b5 (.cells #[.slice sa sl sc] 27 (0,0)) :: σ.M) (by rw [hM₃];exact perm_in _ _ A₁ _)) ((Tryz.sort_ok (.slice sa sl sc) (ps.map Prod.snd) (.obj l OA :: .obj d (.deferred (some [])) :: .obj b5 (.cells #[.slice sa sl sc] 27 (0,0)) :: σ.M) (ha' _) (by rw [List.length_map];exact h12)).mono ?_)⟩
   rintro v₅ σ₅ ⟨hI₅,ht₅,l',hp,hs',ha₅⟩ -
   obtain ⟨A₅,hM₅,ha₅'⟩:=ha₅.split
   have hM₅':σ₅.M = (A₅ ++ [.obj l OA,.obj d (.deferred (some []))]) ++ .obj b5 (.cells #[.slice sa sl sc] 27 (0,0)) :: σ.M:=by rw [hM₅];simp
   (conv=>whnf)
   refine ⟨_,reads_at _ hM₅' 0 _ rfl,?_⟩
   have hlp:=hp.length_eq
   rw [List.length_map] at hlp
   (conv=>whnf)
   refine ⟨Tryz.k67.any,(Tryz.compact_ok (.slice sa sl sc) l' _ ha₅ (by omega)).mono ?_⟩
   rintro v₆ σ₆ ⟨ha₆,hI₆,ht₆⟩ -
   obtain ⟨A₆,hM₆,ha₆'⟩:=ha₆.split
   obtain ⟨ta,tl,tc,rfl,htl⟩:=ha₆'.src
   (conv=>whnf)
   refine ⟨A₆ ++ .obj l OA :: .obj d (.deferred none) :: .obj b5 (.cells #[.slice sa sl sc] 27 (0,0)) :: σ.M,by rw [hM₆];have:=updobj_mid (b:=d) (o:=.deferred (some [])) (o':=.deferred none) (M:=.obj b5 (.cells #[.slice sa sl sc] 27 (0,0)) :: σ.M) (A₆ ++ [.obj l OA]);rwa [List.append_assoc,List.append_assoc] at this,?_⟩
   (conv=>whnf)
   refine ⟨cpt none l',⟨l',by rw [hps];exact hp,by rw [hlp,← List.length_map (f:=Prod.snd)];exact hs',rfl⟩,fun h=>?_,⟨A₆,[.obj l OA,.obj d (.deferred none),.obj b5 (.cells #[.slice sa sl sc] 27 (0,0))],?_,ha₆'⟩,fun x o h=>hI₆ x o (hI₅ x o (hI₃ x o h)),ht₆.trans (ht₅.trans ht₃)⟩
   ·exfalso
    cases l' with
    | nil=>simp at hlp;exact hnil (List.length_eq_zero_iff.1 hlp.symm)
    | cons a r=>cases h
   ·show List.Perm (A₆ ++ .obj l OA :: .obj d (.deferred none) :: .obj b5 (.cells #[.slice sa sl sc] 27 (0,0)) :: σ.M) _
    refine ((perm_in (.obj l OA) (.obj d (.deferred none)) A₆ (.obj b5 (.cells #[.slice sa sl sc] 27 (0,0)) :: σ.M)).symm).trans ?_
    exact List.Perm.cons _ (List.Perm.cons _ List.perm_middle)
 ·exact fun d l A i σ₃ h=>h.elim
 ·exact fun d l A σ₃ h=>h.elim
end Go.Proofs
namespace Go.TM
def subA (s:Nat):Nat → List Int → List Int
 | _,[]=>[]
 | i,x :: r=>if s.testBit i then x :: subA s (i + 1) r else subA s (i + 1) r
theorem subA_snoc (s:Nat) (x:Int):∀ (l:List Int) (i:Nat),subA s i (l ++ [x]) = subA s i l ++ (if s.testBit (i + l.length) then [x] else [])
 | [],i=>by simp only [List.nil_append,subA,List.length_nil,Nat.add_zero]
 | a :: l,i=>by
  simp only [List.cons_append,subA,subA_snoc s x l (i + 1),List.length_cons]
  rw [show i + 1 + l.length = i + (l.length + 1) by omega]
  by_cases h:s.testBit i <;> simp [h]
theorem subA_len (s:Nat):∀ (l:List Int) (i:Nat),(subA s i l).length ≤ l.length
 | [],i=>by simp [subA]
 | a :: l,i=>by
  have:=subA_len s l (i + 1)
  simp only [subA]
  split <;> simp <;> omega
def Tbl.leftF (t:Tbl) (tk:Talk) (x:List Int):List Int:=tk.b.filter fun y=>(t.reach tk x []).any fun p=>p.2 == y
def agStep (many:Nat) (lf:List Int → List Int) (a:List Int) (st:List Int × List Int) (s:Nat):List Int × List Int:=
 if (subA s 0 a).length + (lf (subA s 0 a)).length = many ∧ (s = 0 ∨ (st.1 = [] ∧ st.2 = []) ∨ cmpL (subA s 0 a) st.1 < 0) then (subA s 0 a,lf (subA s 0 a)) else st
def agAll (many:Nat) (lf:List Int → List Int) (a:List Int):List Int × List Int:=(List.range (2 ^ a.length)).foldl (agStep many lf a) ([],[])
def Asc (l:List Int):Prop:=l.Pairwise (· < ·)
theorem asc_ext:∀ {l l':List Int},Asc l → Asc l' → (∀ x,x ∈ l ↔ x ∈ l') → l = l'
 | [],[],_,_,_=>rfl
 | [],a :: l',_,_,h=>absurd ((h a).2 (List.mem_cons_self ..)) (by simp)
 | a :: l,[],_,_,h=>absurd ((h a).1 (List.mem_cons_self ..)) (by simp)
 | a :: l,b :: l',h1,h2,h=>by
  have h1':=List.pairwise_cons.1 h1
  have h2':=List.pairwise_cons.1 h2
  have hab:a = b:=by
   rcases List.mem_cons.1 ((h a).1 (List.mem_cons_self ..)) with e | e
   ·exact e
   ·rcases List.mem_cons.1 ((h b).2 (List.mem_cons_self ..)) with e' | e'
    ·exact e'.symm
    ·have:=h1'.1 b e';have:=h2'.1 a e;omega
  subst hab
  congr 1
  refine asc_ext h1'.2 h2'.2 fun x=>⟨fun hx=>?_,fun hx=>?_⟩
  ·rcases List.mem_cons.1 ((h x).1 (List.mem_cons_of_mem _ hx)) with e | e
   ·have:=h1'.1 x hx;omega
   ·exact e
  ·rcases List.mem_cons.1 ((h x).2 (List.mem_cons_of_mem _ hx)) with e | e
   ·have:=h2'.1 x hx;omega
   ·exact e
theorem Asc.filter {l:List Int} (h:Asc l) (p:Int → Bool):Asc (l.filter p):=List.Pairwise.filter _ h
theorem srt_pw {l:List Int} (h:SrtTo l l.length):l.Pairwise (· ≤ ·):=by
 rw [List.pairwise_iff_getElem]
 intro i j hi hj hij
 exact h i j _ _ hij hj (by simp) (by simp)
theorem cpt_mem:∀ (l:List Int) (p:Option Int) (x:Int),x ∈ cpt p l → x ∈ l
 | [],_,_,h=>by simp [cpt] at h
 | a :: l,p,x,h=>by
  simp only [cpt] at h
  split at h
  ·exact List.mem_cons_of_mem _ (cpt_mem l _ x h)
  ·rcases List.mem_cons.1 h with h | h
   ·rw [h];exact List.mem_cons_self ..
   ·exact List.mem_cons_of_mem _ (cpt_mem l _ x h)
theorem cpt_mem':∀ (l:List Int) (p:Option Int) (x:Int),x ∈ l → x ∈ cpt p l ∨ p = some x
 | [],_,_,h=>by simp at h
 | a :: l,p,x,h=>by
  simp only [cpt]
  split
  ·rename_i e
   rcases List.mem_cons.1 h with h | h
   ·subst h;exact .inr e
   ·rcases cpt_mem' l (some a) x h with h | h
    ·exact .inl h
    ·cases h;exact .inr e
  ·rcases List.mem_cons.1 h with h | h
   ·subst h;exact .inl (List.mem_cons_self ..)
   ·rcases cpt_mem' l (some a) x h with h | h
    ·exact .inl (List.mem_cons_of_mem _ h)
    ·cases h;exact .inl (List.mem_cons_self ..)
theorem cpt_asc:∀ (l:List Int) (p:Option Int),l.Pairwise (· ≤ ·) → (∀ m,p = some m → ∀ x ∈ l,m ≤ x) → Asc (cpt p l) ∧ ∀ m,p = some m → ∀ x ∈ cpt p l,m < x
 | [],_,_,_=>⟨List.Pairwise.nil,fun _ _ x h=>by simp [cpt] at h⟩
 | a :: l,p,h,hp=>by
  have h':=List.pairwise_cons.1 h
  obtain ⟨k1,k2⟩:=cpt_asc l (some a) h'.2 (fun m e x hx=>by cases e;exact h'.1 x hx)
  simp only [cpt]
  split
  ·rename_i e
   exact ⟨k1,fun m hm x hx=>by rw [e] at hm;cases hm;exact k2 a rfl x hx⟩
  ·rename_i e
   refine ⟨List.pairwise_cons.2 ⟨fun x hx=>k2 a rfl x hx,k1⟩,fun m hm x hx=>?_⟩
   have ha:=hp m hm a (List.mem_cons_self ..)
   have hne:m ≠ a:=fun e'=>e (by rw [hm,e'])
   rcases List.mem_cons.1 hx with rfl | hx
   ·omega
   ·have:=k2 a rfl x hx;omega
theorem Tbl.chk_asc {t:Tbl} {e:Int}:∀ {l:List Int} {p:Option Int},t.chk e p l = 0 → Asc l ∧ ∀ m,p = some m → ∀ x ∈ l,m < x
 | [],_,_=>⟨List.Pairwise.nil,fun _ _ x h=>by simp at h⟩
 | a :: l,p,h=>by
  rw [Tbl.chk_cons] at h
  split at h
  ·have key:t.chk e (some a) l = 0 → Asc (a :: l):=fun h=>by
    obtain ⟨k1,k2⟩:=Tbl.chk_asc h
    exact List.pairwise_cons.2 ⟨fun x hx=>k2 a rfl x hx,k1⟩
   cases p with
   | none=>exact ⟨key h,fun m hm=>by cases hm⟩
   | some m=>
    simp only at h
    split at h
    ·cases h
    ·rename_i hlt
     have hk:=key h
     refine ⟨hk,fun m' hm x hx=>?_⟩
     cases hm
     rcases List.mem_cons.1 hx with rfl | hx
     ·omega
     ·have:=(List.pairwise_cons.1 hk).1 x hx;omega
  ·cases h
theorem Tbl.reach_snd {t:Tbl} {tk:Talk} {x y:List Int} {p:Int × Int} (h:p ∈ t.reach tk x y):p.1 ∈ tk.a ∧ p.2 ∈ tk.b:=by
 unfold Tbl.reach at h
 obtain ⟨one,h1,h2⟩:=List.mem_flatMap.1 h
 unfold Tbl.reachRow at h2
 obtain ⟨two,h3,rfl⟩:=List.mem_map.1 h2
 exact ⟨h1,(List.mem_filter.1 h3).1⟩
theorem Tbl.left_eq {t:Tbl} {tk:Talk} {x out:List Int} (hb:Asc tk.b) (h:t.LeftOut tk x out):out = t.leftF tk x:=by
 obtain ⟨l',hp,hs,rfl⟩:=h
 refine asc_ext (cpt_asc l' none (srt_pw hs) (fun m hm=>by cases hm)).1 (hb.filter _) fun y=>?_
 have hm:y ∈ l' ↔ ∃ p,p ∈ t.reach tk x [] ∧ p.2 = y:=by rw [hp.mem_iff,List.mem_map]
 constructor
 ·intro hy
  obtain ⟨p,h1,rfl⟩:=hm.1 (cpt_mem _ _ _ hy)
  exact List.mem_filter.2 ⟨(Tbl.reach_snd h1).2,List.any_eq_true.2 ⟨p,h1,by simp⟩⟩
 ·intro hy
  obtain ⟨p,h1,h2⟩:=List.any_eq_true.1 (List.mem_filter.1 hy).2
  rcases cpt_mem' l' none y (hm.2 ⟨p,h1,by simpa using h2⟩) with h | h
  ·exact h
  ·cases h
theorem bit_and (s i:Nat) (hs:s < 2 ^ 32) (hi:i < 64):IntKind.wrap .i64 (BitVec.ofInt (IntKind.bits .i64) ((s:Int).fdiv (2 ^ (min (i:Int).toNat (IntKind.bits .i64)))) &&& BitVec.ofInt (IntKind.bits .i64) 1).toNat = if s.testBit i then 1 else 0:=by
 show IntKind.wrap .i64 (BitVec.ofInt 64 ((s:Int).fdiv (2 ^ (min (i:Int).toNat 64))) &&& BitVec.ofInt 64 1).toNat = _
 have e1:min (i:Int).toNat 64 = i:=by simp;omega
 have e2:(s:Int).fdiv (2 ^ i) = ((s / 2 ^ i:Nat):Int):=by
  rw [Int.fdiv_eq_ediv_of_nonneg _ (by exact Int.pow_nonneg (by decide))]
  simp
 rw [e1,e2,BitVec.ofInt_natCast,show (BitVec.ofInt 64 1) = BitVec.ofNat 64 1 from rfl]
 have hlt:s / 2 ^ i < 2 ^ 64:=Nat.lt_of_le_of_lt (Nat.div_le_self ..) (by omega)
 have e3:(BitVec.ofNat 64 (s / 2 ^ i) &&& BitVec.ofNat 64 1).toNat = s / 2 ^ i % 2:=by
  rw [BitVec.toNat_and,BitVec.toNat_ofNat,BitVec.toNat_ofNat,Nat.mod_eq_of_lt hlt,show 1 % 2 ^ 64 = 1 from rfl,Nat.and_one_is_mod]
 rw [e3,wrap_inR (by unfold InR;omega),Nat.testBit_eq_decide_div_mod_eq]
 by_cases h:s / 2 ^ i % 2 = 1
 ·simp [h]
 ·have:s / 2 ^ i % 2 = 0:=by omega
  simp [this]
theorem shl_pow (n:Nat) (h:n ≤ 32):IntKind.wrap .i64 (1 * 2 ^ (min (n:Int).toNat (IntKind.bits .i64))) = ((2 ^ n:Nat):Int):=by
 show IntKind.wrap .i64 (1 * 2 ^ (min (n:Int).toNat 64)) = _
 have e1:min (n:Int).toNat 64 = n:=by simp;omega
 rw [e1,Int.one_mul]
 have h2:2 ^ n ≤ 2 ^ 32:=Nat.pow_le_pow_right (by decide) h
 have e2:((2:Int) ^ n) = ((2 ^ n:Nat):Int):=by simp
 rw [e2]
 generalize 2 ^ n = m at h2 ⊢
 exact wrap_inR (by unfold InR;omega)
variable {T:Type} {P:Program} {S:Sys P T} {σ:View T}
theorem Acc.nilOf {e n:Nat} {v:Value} {cs:List Value} {M M₀:List Res} (h:Acc e n v cs M M₀) (hn:isNilS v = true):v = .slice none 0 0:=by
 rcases h with ⟨rfl,_⟩ | ⟨b,c,len,cap,rfl,_⟩
 ·rfl
 ·cases hn
theorem st_allG {T:Type} {σ:View T} {b:Nat} {e:TypeId} {c:Array Value} {vs:List Value} {M₀:List Res} {Q:View T → Prop} (X:List Res) (hM:σ.M = X ++ .obj b (.cells c e (0,0)) :: M₀) (hsz:c.size = vs.length) (hs:∀ v ∈ vs,v.single = true)
  (h:∀ σ':View T,(∀ x o,σ.I x = some o → σ'.I x = some o) → σ'.tok = σ.tok → σ'.M = X ++ .obj b (.cells vs.toArray e (0,0)) :: M₀ → Q σ'):StV ⟨b,0,none⟩ vs 0 (fun σ'=>∃ σ₁,Shift σ' σ₁ ∧ Q σ₁) σ:=st_all X hM hsz hs (h _ (fun _ _ h=>h) rfl rfl)
theorem most_le (la:List Int) (ps:List (Int × Int)):most la ps ≤ la.length:=by
 have key:∀ (la:List Int) (st:Nat × List (Int × Int)),(la.foldl (mostStep ps) st).1 ≤ st.1 + la.length:=by
  intro la
  induction la with
  | nil=>intro st;simp
  | cons a la ih=>
   intro st
   have h1:=ih (mostStep ps st a)
   have h2:(mostStep ps st a).1 ≤ st.1 + 1:=by rw [mostStep_eq];simp only;split <;> omega
   simp only [List.foldl_cons,List.length_cons]
   omega
 simpa [most] using key la (0,[])
theorem PairsN.nil:PairsN σ (.slice none 0 0) []:=⟨none,0,rfl,Nat.le_refl _,rfl,by simp⟩
end Go.TM
namespace Go.Proofs
open Go.TM
set_option maxRecDepth 100000
variable {T:Type} {S:TM.Sys Tryz.prog T} {σ:View T}
attribute [local irreducible] CallsV YieldV rngX
end Go.Proofs
namespace Go.TM
open Go.Proofs
def Tbl.mostT (t:Tbl) (tk:Talk):Nat:=most tk.a (t.reach tk [] [])
end Go.TM
namespace Go.Proofs
open Go.TM
set_option maxRecDepth 100000
variable {T:Type} {S:TM.Sys Tryz.prog T} {σ:View T}
attribute [local irreducible] CallsV YieldV rngX
end Go.Proofs
namespace Go.TM
open Go.Proofs
def Tbl.agr (t:Tbl) (tk:Talk):List Int × List Int:=agAll (t.mostT tk) (t.leftF tk) tk.a
end Go.TM
namespace Go.Proofs
open Go.TM
set_option maxRecDepth 100000
variable {T:Type} {S:TM.Sys Tryz.prog T} {σ:View T}
attribute [local irreducible] CallsV YieldV rngX
theorem Tryz.Agree_ok (h:TH) (t:Tbl) (ht:TabV σ.frz h t) (e lv:Int) (a a':Option Addr) (len cap len' cap':Nat) (l l':List Int) (hl:Ints σ.frz a len l) (hl':Ints σ.frz a' len' l') (hlen:len < 2 ^ 60) (hlen':len' < 2 ^ 60)
  (hL:t.talkF e l l' lv = 0 → (proofL l (t.mostT ⟨e,lv,l,l'⟩) (t.reach ⟨e,lv,l,l'⟩ [] [])).isSome = true) (h12:t.talkF e l l' lv = 0 → ∀ x,(t.reach ⟨e,lv,l,l'⟩ x []).length ≤ 12) :
  CallsV S 46 #[h.v,.int .i64 e,.slice a len cap,.slice a' len' cap',.int .i64 lv] (fun v σ'=>(∃ va vb vp la lb lp,v = .tuple #[va,vb,vp,.int .i64 (t.talkF e l l' lv)] ∧ IntsN σ'.frz va la ∧ IntsN σ'.frz vb lb ∧ PairsN σ'.frz vp lp ∧
   (if t.talkF e l l' lv = 0 then (la,lb) = t.agr ⟨e,lv,l,l'⟩ ∧ proofL l (t.mostT ⟨e,lv,l,l'⟩) (t.reach ⟨e,lv,l,l'⟩ [] []) = some lp else la = [] ∧ lb = [] ∧ lp = [])) ∧ σ.le σ') σ:=by
 refine CallsV.sep (R:=fun v σ'=>∃ va vb vp la lb lp,v = .tuple #[va,vb,vp,.int .i64 (t.talkF e l l' lv)] ∧ IntsN σ'.frz va la ∧ IntsN σ'.frz vb lb ∧ Acc 80 2 vp (lp.flatMap encII) σ'.M σ.M ∧ (∀ x o,σ.I x = some o → σ'.I x = some o) ∧ σ'.tok = σ.tok ∧
   (if t.talkF e l l' lv = 0 then (la,lb) = t.agr ⟨e,lv,l,l'⟩ ∧ proofL l (t.mostT ⟨e,lv,l,l'⟩) (t.reach ⟨e,lv,l,l'⟩ [] []) = some lp else la = [] ∧ lb = [] ∧ lp = [])) (CallsV.of (args:=[_,_,_,_,_]) Tryz.k46 Tryz.mixed (by simp) ?_) ?_
 rotate_left
 ·rintro v σ' hs ⟨va,vb,vp,la,lb,lp,rfl,h1,h2,h3,h4,h5,h6⟩
  obtain ⟨σ'',k1,k2,k3⟩:=Acc.pairsN (σ:={ σ' with M:=σ.M }) hs h3 (fun _ _ h=>h) rfl
  have hle:σ'.frz.lg σ''.frz:=⟨k2.imm,⟨[],rfl⟩,k2.tok⟩
  exact ⟨σ'',k1,⟨va,vb,vp,la,lb,lp,rfl,h1.lg hle,h2.lg hle,k3,h6⟩,⟨fun b o hb=>k2.imm b o (h4 b o hb),k2.own,k2.tok.trans h5⟩⟩
 (conv=>whnf);(repeat (refine ⟨rfl,?_⟩;conv=>whnf))
 intro b5 σ₁ h₁ hb₅
 (conv=>whnf)
 refine ⟨_,⟨rfl,hb₅.rdT fun _ _ h=>h⟩,?_⟩
 have hf₁:σ.frz.lg σ₁:=frz_self.trans h₁.lg
 (conv=>whnf)
 refine ⟨Tryz.k90.any,(Tryz.talk_ok h t (ht.lg hf₁) e lv a a' len cap len' cap' l l' (hl.lg hf₁) (hl'.lg hf₁) hlen hlen').mono ?_⟩
 rintro _ σ' ⟨rfl,hσ'⟩ -
 obtain rfl:=hσ'.symm
 (conv=>whnf)
 intro b14 hf14
 refine ⟨_,.refl _,?_⟩
 (conv=>whnf)
 refine ⟨rfl,st_new (vs:=KH.cs h ⟨a,len,cap,a',len',cap'⟩ ⟨e,lv,l,l'⟩) hf14 rfl (by simp [KH.cs,Value.single]) fun σ₂ h₂ hb₁₄=>?_⟩
 have hle:=h₁.trans h₂
 have hf₂:σ.frz.lg σ₂:=frz_self.trans hle.lg
 (conv=>whnf);(repeat (refine ⟨rfl,?_⟩;conv=>whnf))
 refine cb_split (fun hc=>?_) (fun hc=>?_)
 ·have hf:t.talkF e l l' lv ≠ 0:=by simpa using hc
  (conv=>whnf);(repeat (refine ⟨rfl,?_⟩;conv=>whnf))
  exact ⟨_,_,_,[],[],[],rfl,.nil,.nil,by rw [hle.own];exact .nil,hle.imm,hle.tok,by rw [if_neg hf];exact ⟨rfl,rfl,rfl⟩⟩
 have hf:t.talkF e l l' lv = 0:=by simpa using hc
 obtain ⟨hfl,hed,hc1,hc2,hlv⟩:=Tbl.talk_two hf
 have l8:l.length ≤ 8:=chk_len8 hfl hc1
 have l8':l'.length ≤ 8:=chk_len8 hfl hc2
 have hasc:=(Tbl.chk_asc hc2).1
 have hll:=hl.1
 have hll':=hl'.1
 generalize htk:(⟨e,lv,l,l'⟩:Talk) = tk at *
 have e1:tk.a = l:=by rw [← htk]
 have e2:tk.b = l':=by rw [← htk]
 let kh:KH:=⟨a,len,cap,a',len',cap'⟩
 (conv=>whnf)
 refine ⟨KH.cs h kh tk,⟨rfl,Blk.rdI hb₁₄ (fun _ _ h=>h)⟩,?_⟩
 (conv=>whnf)
 refine ⟨Tryz.k92.any,(Tryz.pairs_ok h kh tk none none 0 0 0 0).mono ?_⟩
 rintro _ σ₃ ⟨⟨b3,b4,b5',rfl,hb3,hb4,hb5⟩,h₃⟩ -
 have hle₃:=hle.trans h₃
 have hf₃:σ.frz.lg σ₃.frz:=(hf₂.trans h₃.lg).frz2
 have hla:Ints σ.frz kh.aa kh.al tk.a:=by rw [e1];exact hl
 have hlb:Ints σ.frz kh.ba kh.bl tk.b:=by rw [e2];exact hl'
 have hka:kh.al ≤ 8:=by show len ≤ 8;omega
 have hkb:kh.bl ≤ 8:=by show len' ≤ 8;omega
 (conv=>whnf)
 refine ⟨Tryz.k91.any,((Tryz.talkPairs_ok h t (ht.lg hf₃) kh tk (hla.lg hf₃) (hlb.lg hf₃) hka hkb b3 b4 b5' none 0 0 [] ⟨rfl,by simp⟩ (by omega) hb3 hb4 hb5).sep (R':=fun v σ''=>σ₃.le σ'' ∧ PairsN σ''.frz v (t.reach tk [] [])) fun v σ' hs ⟨h1,h2,h3⟩=>by
  obtain ⟨σ'',k1,k2,k3⟩:=h1.pairsN hs h2 h3
  exact ⟨σ'',k1,k2,k3⟩).mono ?_⟩
 rintro _ σ₄ ⟨h₄,pa,pc,rfl,hpcap,hprows⟩ -
 have hle₄:=hle₃.trans h₄
 have hf₄:σ.frz.lg σ₄.frz:=(hf₃.trans (⟨h₄.imm,⟨[],rfl⟩,h₄.tok⟩:σ₃.frz.lg σ₄.frz))
 have hb₁₄4:Blk σ₄ b14 (KH.cs h kh tk).toArray:=hb₁₄.le (h₃.trans h₄)
 have hplen:(t.reach tk [] []).length ≤ 12:=h12 hf []
 (conv=>whnf)
 refine ⟨KH.cs h kh tk,⟨rfl,Blk.rdI hb₁₄4 (fun _ _ h=>h)⟩,?_⟩
 (conv=>whnf)
 refine ⟨Tryz.k95.any,(Tryz.most_ok h kh tk (hla.lg hf₄) (by omega) pa _ pc (t.reach tk [] []) hprows (by omega)).mono ?_⟩
 rintro _ σ' ⟨rfl,hσ'⟩ -
 obtain rfl:=hσ'.symm
 have hmost:most tk.a (t.reach tk [] []) = t.mostT tk:=rfl
 rw [hmost]
 have hml:t.mostT tk ≤ 8:=by
  have:=most_le tk.a (t.reach tk [] [])
  rw [e1] at this
  unfold Tbl.mostT
  rw [e1];omega
 (conv=>whnf)
 refine ⟨by omega,?_⟩
 rw [shl_pow len (by omega)]
 (conv=>whnf)
 have hasc':Asc tk.b:=by rw [e2];exact hasc
 refine ⟨Nat × Value × Value × List Int × List Int,fun y=>[(2,.slice a len cap),(10,y.2.1),(11,y.2.2.1),(14,.pointer (some ⟨b14,0,none⟩)),(15,.slice pa (t.reach tk [] []).length pc),(16,.int .i64 (t.mostT tk)),(42,.int .i64 ((2 ^ len:Nat):Int)),(43,.int .i64 y.1)],
  fun y σ'=>σ₄.le σ' ∧ IntsN σ'.frz y.2.1 y.2.2.2.1 ∧ IntsN σ'.frz y.2.2.1 y.2.2.2.2 ∧ y.1 ≤ 2 ^ len ∧ y.2.2.2.1.length ≤ 8 ∧ (y.2.2.2.1,y.2.2.2.2) = (List.range y.1).foldl (agStep (t.mostT tk) (t.leftF tk) tk.a) ([],[]),
  fun y=>2 ^ len - y.1,(0,.slice none 0 0,.slice none 0 0,[],[]),⟨rfl,rfl,rfl,rfl,rfl,rfl,rfl,rfl,trivial⟩,⟨.refl _,.nil,.nil,Nat.zero_le _,by simp,rfl⟩,?_⟩
 have h2len:2 ^ len ≤ 256:=by
  have:2 ^ len ≤ 2 ^ 8:=Nat.pow_le_pow_right (by decide) (by omega)
  omega
 rintro ⟨s,fa,fb,la,lb⟩ f σ₅ ⟨h₅,hfa,hfb,hs,hlal,hst⟩
 simp only at hfa hfb hs hlal hst
 obtain ⟨faa,fac,rfl,hfan,hfai⟩:=hfa
 obtain ⟨fba,fbc,rfl,hfbn,hfbi⟩:=hfb
 have hle₅:=hle₄.trans h₅
 have hf₅:σ.frz.lg σ₅:=frz_self.trans hle₅.lg
 (conv=>whnf);(repeat (refine ⟨rfl,?_⟩;conv=>whnf))
 refine cb_split (fun hc=>?_) (fun hc=>?_)
 ·have hlt:s < 2 ^ len:=by
   have h:=of_decide_eq_true hc
   exact Int.ofNat_lt.1 h
  have hsn:InR (s + 1):=by unfold InR;omega
  (conv=>whnf)
  refine ⟨Nat × Value,fun y=>[(2,.slice a len cap),(10,.slice faa la.length fac),(11,.slice fba lb.length fbc),(14,.pointer (some ⟨b14,0,none⟩)),(15,.slice pa (t.reach tk [] []).length pc),(16,.int .i64 (t.mostT tk)),(17,.int .i64 s),(18,y.2),(42,.int .i64 ((2 ^ len:Nat):Int)),(43,.int .i64 s),(46,.slice a len cap),(47,.int .i64 len),(48,.int .i64 y.1)],
   fun y σ'=>(∀ x o,σ₅.I x = some o → σ'.I x = some o) ∧ σ'.tok = σ.tok ∧ Acc 3 1 y.2 ((subA s 0 (l.take y.1)).map fun n=>.int .i64 n) σ'.M σ.M ∧ isNilS y.2 = (subA s 0 (l.take y.1)).isEmpty ∧ y.1 ≤ len,
   fun y=>len - y.1,(0,.slice none 0 0),⟨rfl,rfl,rfl,rfl,rfl,rfl,rfl,rfl,rfl,rfl,rfl,rfl,rfl,trivial⟩,⟨fun _ _ h=>h,hle₅.tok,by rw [hle₅.own];exact .nil,rfl,by omega⟩,?_⟩
  rintro ⟨i,v⟩ f σ₆ ⟨hI₆,ht₆,hacc,hnil,hi⟩
  simp only at hacc hnil hi
  have hf₆:σ.frz.lg σ₆:=⟨fun x o h=>hI₆ x o (hf₅.imm x o h),⟨_,(List.append_nil _).symm⟩,ht₆⟩
  obtain ⟨sa,sc,rfl,-⟩:=src_ints hacc
  (conv=>whnf);(repeat (refine ⟨rfl,?_⟩;conv=>whnf))
  refine cb_split (fun hc=>?_) (fun hc=>?_)
  ·have hlti:i < len:=by simpa using hc
   obtain ⟨ad,n,hx,hae,-,hrd⟩:=(hl.lg hf₆).at hlti
   have hin:InR (i + 1):=by unfold InR;omega
   have hsub:subA s 0 (l.take (i + 1)) = subA s 0 (l.take i) ++ (if s.testBit i then [n] else []):=by
    rw [take_at hx,subA_snoc,List.length_take,Nat.zero_add,Nat.min_eq_left (by omega)]
   (conv=>whnf)
   refine ⟨ad,i,⟨hae,rfl,hlti⟩,?_⟩
   (conv=>whnf)
   refine ⟨_,hrd,?_⟩
   (conv=>whnf)
   refine ⟨by omega,?_⟩
   (conv=>whnf)
   refine ⟨rfl,?_⟩
   rw [bit_and s i (by omega) (by omega)]
   by_cases hbit:s.testBit i
   ·rw [if_pos hbit] at hsub ⊢
    (conv=>whnf);(repeat (refine ⟨rfl,?_⟩;conv=>whnf))
    intro bn hfn
    refine put_new hfn fun σ₇ h₇ hbn=>?_
    have hbn:Blk σ₇ bn #[.int .i64 n]:=hbn
    (conv=>whnf)
    refine raw_app (v:=.slice sa _ sc) (cs:=(subA s 0 (l.take i)).map fun n=>.int .i64 n) (new:=[.int .i64 n]) (M₀:=σ.M) Tryz.sl27 rfl rfl (by rw [h₇.own];exact hacc) (.inr ⟨_,rfl,Blk.rdI (vs:=[.int .i64 n]) hbn (fun _ _ h=>h)⟩) rfl (by simp [Value.single]) (by have:=subA_len s (l.take i) 0;simp;simp at this;omega) fun v' M' ha' hn'=>?_
    have ha':Acc 3 1 v' ((subA s 0 (l.take (i + 1))).map fun n=>.int .i64 n) M' σ.M:=by rw [hsub];simpa using ha'
    obtain ⟨ta,tc,rfl,-⟩:=src_ints (σ:={ σ₇ with M:=M' }) ha'
    (conv=>whnf)
    refine ⟨hin,?_⟩
    (conv=>whnf)
    refine ⟨rfl,(i + 1,.slice ta _ tc),⟨rfl,rfl,rfl,rfl,rfl,rfl,rfl,rfl,rfl,rfl,rfl,rfl,rfl,trivial⟩,⟨fun x o h=>h₇.imm x o (hI₆ x o h),h₇.tok.trans ht₆,ha',?_,by simp only;omega⟩,by show _ - _ < _ - _;omega⟩
    show isNilS (.slice ta _ tc) = _
    rw [hn',hsub];simp
   ·rw [if_neg hbit] at hsub ⊢
    rw [List.append_nil] at hsub
    (conv=>whnf);(repeat (refine ⟨rfl,?_⟩;conv=>whnf))
    refine ⟨hin,?_⟩
    (conv=>whnf)
    refine ⟨rfl,(i + 1,.slice sa (subA s 0 (l.take i)).length sc),⟨rfl,rfl,rfl,rfl,rfl,rfl,rfl,rfl,rfl,rfl,rfl,rfl,rfl,trivial⟩,⟨hI₆,ht₆,by simp only [hsub];exact hacc,by simp only [hsub];exact hnil,by simp only;omega⟩,by show _ - _ < _ - _;omega⟩
  ·have hge:i = len:=by simp at hc;omega
   subst hge
   rw [List.take_of_length_le (by omega)] at hacc hnil
   rw [List.take_of_length_le (by omega)]
   have hb₁₄6:Blk σ₆ b14 (KH.cs h kh tk).toArray:=hb₁₄4.imI fun x o h=>hI₆ x o (h₅.imm x o h)
   (conv=>whnf)
   refine ⟨KH.cs h kh tk,⟨rfl,Blk.rdI hb₁₄6 (fun _ _ h=>h)⟩,?_⟩
   (conv=>whnf)
   refine ⟨Tryz.k96.any,CallsV.sep0 fun hsep=>?_⟩
   obtain ⟨σ₇,k1,k2,na,nc,e3,hnn,hni⟩:=Acc.intsN (σ:={ σ₆ with M:=σ.M }) hsep hacc (fun e=>hacc.nilOf (by rw [hnil,e];rfl)) (fun _ _ h=>h) rfl
   cases e3
   have hf₇:σ.frz.lg σ₇.frz:=⟨fun x o h=>k2.imm x o (hf₆.imm x o h),⟨[],rfl⟩,k2.tok.trans ht₆⟩
   have hslen:(subA s 0 l).length ≤ 8:=by have:=subA_len s l 0;omega
   refine CallsV.shift k1 ((Tryz.left_ok h t (ht.lg hf₇) kh tk (hla.lg hf₇) (hlb.lg hf₇) hka hkb sa (subA s 0 l).length sc (subA s 0 l) hni (by omega) (h12 hf _)).mono ?_)
   rintro _ σ₈ ⟨⟨out,hout,ra,rc,rfl,hrn,hri⟩,h₈⟩ -
   obtain rfl:=Tbl.left_eq hasc' hout
   have hI₈:∀ x o,σ₅.I x = some o → σ₈.I x = some o:=fun x o h=>h₈.imm x o (k2.imm x o (hI₆ x o h))
   have hM₈:σ₈.M = σ.M:=h₈.own.trans k2.own
   have ht₈:σ₈.tok = σ.tok:=h₈.tok.trans (k2.tok.trans ht₆)
   have hle₈:σ₄.le σ₈:=⟨fun x o h=>hI₈ x o (h₅.imm x o h),hM₈.trans hle₄.own.symm,ht₈.trans hle₄.tok.symm⟩
   have hf₅₈:σ₅.frz.lg σ₈.frz:=⟨hI₈,⟨[],rfl⟩,ht₈.trans hle₅.tok.symm⟩
   have hfai8:=hfai.lg hf₅₈
   have hfbi8:=hfbi.lg hf₅₈
   have hni8:Ints σ₈.frz sa (subA s 0 l).length (subA s 0 l):=hni.lg (⟨h₈.imm,⟨[],rfl⟩,h₈.tok⟩:σ₇.frz.lg σ₈.frz)
   have hrlen:(t.leftF tk (subA s 0 l)).length ≤ 8:=by
    have h1:=List.length_filter_le (fun y=>(t.reach tk (subA s 0 l) []).any fun p=>p.2 == y) tk.b
    rw [e2] at h1
    unfold Tbl.leftF;rw [e2];omega
   have hst':(List.range (s + 1)).foldl (agStep (t.mostT tk) (t.leftF tk) tk.a) ([],[]) = agStep (t.mostT tk) (t.leftF tk) tk.a (la,lb) s:=by rw [List.range_succ,List.foldl_append,← hst];rfl
   (conv=>whnf)
   refine ⟨by unfold InR;omega,?_⟩
   (conv=>whnf);(repeat (refine ⟨rfl,?_⟩;conv=>whnf))
   refine gb_split (fun hc=>?_) (fun hc=>?_)
   ·have hsum:(subA s 0 l).length + (t.leftF tk (subA s 0 l)).length = t.mostT tk:=by
     have h:=eq_of_beq hc
     omega
    (conv=>whnf);(repeat (refine ⟨rfl,?_⟩;conv=>whnf))
    refine gb_split (fun hc=>?_) (fun hc=>?_)
    ·have hs0:s ≠ 0:=by simpa using hc
     (conv=>whnf)
     refine raw_eqNil Tryz.u27 rfl ?_
     (conv=>whnf)
     refine gb_split (fun hc=>?_) (fun hc=>?_)
     ·have hfa0:la = []:=hfan.1 (by cases faa with | none=>rfl | some x=>simp at hc)
      (conv=>whnf)
      refine raw_eqNil Tryz.u27 rfl ?_
      (conv=>whnf);(repeat (refine ⟨rfl,?_⟩;conv=>whnf))
      refine gb_split (fun hc=>?_) (fun hc=>?_)
      ·have hnb:¬ ((la,lb).1 = [] ∧ (la,lb).2 = []):=fun h=>by
        have h2:=hfbn.2 h.2
        rw [h2] at hc
        cases hc
       (conv=>whnf)
       refine ⟨Tryz.k97.any,(Tryz.compare_ok sa faa _ sc _ fac (subA s 0 l) la (hni8.lg frz_self) (hfai8.lg frz_self) (by omega) (by omega)).mono ?_⟩
       rintro _ σ' ⟨rfl,hσ'⟩ -
       obtain rfl:=hσ'.symm
       (conv=>whnf);(repeat (refine ⟨rfl,?_⟩;conv=>whnf))
       refine cb_split (fun hc=>?_) (fun hc=>?_)
       ·have hcmp:cmpL (subA s 0 l) la < 0:=by simpa using hc
        have hag:agStep (t.mostT tk) (t.leftF tk) tk.a (la,lb) s = (subA s 0 l,t.leftF tk (subA s 0 l)):=by unfold agStep;rw [e1,if_pos ⟨hsum,.inr (.inr hcmp)⟩]
        rw [hag] at hst'
        (conv=>whnf);(repeat (refine ⟨rfl,?_⟩;conv=>whnf))
        refine ⟨hsn,?_⟩
        (conv=>whnf)
        exact ⟨rfl,(s + 1,.slice sa (subA s 0 l).length sc,.slice ra (t.leftF tk (subA s 0 l)).length rc,subA s 0 l,t.leftF tk (subA s 0 l)),⟨rfl,rfl,rfl,rfl,rfl,rfl,rfl,rfl,trivial⟩,⟨hle₈,⟨sa,sc,rfl,hnn,hni8⟩,⟨ra,rc,rfl,hrn,hri⟩,by simp only;omega,by simp only;omega,hst'.symm⟩,by show _ - _ < _ - _;omega⟩
       ·have hcmp:¬ cmpL (subA s 0 l) la < 0:=by simpa using hc
        have hag:agStep (t.mostT tk) (t.leftF tk) tk.a (la,lb) s = (la,lb):=by unfold agStep;rw [e1,if_neg (by rintro ⟨_,h | h | h⟩;exact hs0 h;exact hnb h;exact hcmp h)]
        rw [hag] at hst'
        (conv=>whnf);(repeat (refine ⟨rfl,?_⟩;conv=>whnf))
        refine ⟨hsn,?_⟩
        (conv=>whnf)
        exact ⟨rfl,(s + 1,.slice faa la.length fac,.slice fba lb.length fbc,la,lb),⟨rfl,rfl,rfl,rfl,rfl,rfl,rfl,rfl,trivial⟩,⟨hle₈,⟨faa,fac,rfl,hfan,hfai8⟩,⟨fba,fbc,rfl,hfbn,hfbi8⟩,by simp only;omega,by simp only;omega,hst'.symm⟩,by show _ - _ < _ - _;omega⟩
      ·have hfb0:lb = []:=hfbn.1 (by cases fba with | none=>rfl | some x=>simp at hc)
       have hag:agStep (t.mostT tk) (t.leftF tk) tk.a (la,lb) s = (subA s 0 l,t.leftF tk (subA s 0 l)):=by unfold agStep;rw [e1,if_pos ⟨hsum,.inr (.inl ⟨hfa0,hfb0⟩)⟩]
       rw [hag] at hst'
       (conv=>whnf);(repeat (refine ⟨rfl,?_⟩;conv=>whnf))
       refine ⟨hsn,?_⟩
       (conv=>whnf)
       exact ⟨rfl,(s + 1,.slice sa (subA s 0 l).length sc,.slice ra (t.leftF tk (subA s 0 l)).length rc,subA s 0 l,t.leftF tk (subA s 0 l)),⟨rfl,rfl,rfl,rfl,rfl,rfl,rfl,rfl,trivial⟩,⟨hle₈,⟨sa,sc,rfl,hnn,hni8⟩,⟨ra,rc,rfl,hrn,hri⟩,by simp only;omega,by simp only;omega,hst'.symm⟩,by show _ - _ < _ - _;omega⟩
     ·have hnb:¬ ((la,lb).1 = [] ∧ (la,lb).2 = []):=fun h=>by
       have h2:=hfan.2 h.1
       rw [h2] at hc
       cases hc
      (conv=>whnf)
      refine ⟨Tryz.k97.any,(Tryz.compare_ok sa faa _ sc _ fac (subA s 0 l) la (hni8.lg frz_self) (hfai8.lg frz_self) (by omega) (by omega)).mono ?_⟩
      rintro _ σ' ⟨rfl,hσ'⟩ -
      obtain rfl:=hσ'.symm
      (conv=>whnf);(repeat (refine ⟨rfl,?_⟩;conv=>whnf))
      refine cb_split (fun hc=>?_) (fun hc=>?_)
      ·have hcmp:cmpL (subA s 0 l) la < 0:=by simpa using hc
       have hag:agStep (t.mostT tk) (t.leftF tk) tk.a (la,lb) s = (subA s 0 l,t.leftF tk (subA s 0 l)):=by unfold agStep;rw [e1,if_pos ⟨hsum,.inr (.inr hcmp)⟩]
       rw [hag] at hst'
       (conv=>whnf);(repeat (refine ⟨rfl,?_⟩;conv=>whnf))
       refine ⟨hsn,?_⟩
       (conv=>whnf)
       exact ⟨rfl,(s + 1,.slice sa (subA s 0 l).length sc,.slice ra (t.leftF tk (subA s 0 l)).length rc,subA s 0 l,t.leftF tk (subA s 0 l)),⟨rfl,rfl,rfl,rfl,rfl,rfl,rfl,rfl,trivial⟩,⟨hle₈,⟨sa,sc,rfl,hnn,hni8⟩,⟨ra,rc,rfl,hrn,hri⟩,by simp only;omega,by simp only;omega,hst'.symm⟩,by show _ - _ < _ - _;omega⟩
      ·have hcmp:¬ cmpL (subA s 0 l) la < 0:=by simpa using hc
       have hag:agStep (t.mostT tk) (t.leftF tk) tk.a (la,lb) s = (la,lb):=by unfold agStep;rw [e1,if_neg (by rintro ⟨_,h | h | h⟩;exact hs0 h;exact hnb h;exact hcmp h)]
       rw [hag] at hst'
       (conv=>whnf);(repeat (refine ⟨rfl,?_⟩;conv=>whnf))
       refine ⟨hsn,?_⟩
       (conv=>whnf)
       exact ⟨rfl,(s + 1,.slice faa la.length fac,.slice fba lb.length fbc,la,lb),⟨rfl,rfl,rfl,rfl,rfl,rfl,rfl,rfl,trivial⟩,⟨hle₈,⟨faa,fac,rfl,hfan,hfai8⟩,⟨fba,fbc,rfl,hfbn,hfbi8⟩,by simp only;omega,by simp only;omega,hst'.symm⟩,by show _ - _ < _ - _;omega⟩
    ·have hs0:s = 0:=by simpa using hc
     have hag:agStep (t.mostT tk) (t.leftF tk) tk.a (la,lb) s = (subA s 0 l,t.leftF tk (subA s 0 l)):=by unfold agStep;rw [e1,if_pos ⟨hsum,.inl hs0⟩]
     rw [hag] at hst'
     (conv=>whnf);(repeat (refine ⟨rfl,?_⟩;conv=>whnf))
     refine ⟨hsn,?_⟩
     (conv=>whnf)
     exact ⟨rfl,(s + 1,.slice sa (subA s 0 l).length sc,.slice ra (t.leftF tk (subA s 0 l)).length rc,subA s 0 l,t.leftF tk (subA s 0 l)),⟨rfl,rfl,rfl,rfl,rfl,rfl,rfl,rfl,trivial⟩,⟨hle₈,⟨sa,sc,rfl,hnn,hni8⟩,⟨ra,rc,rfl,hrn,hri⟩,by simp only;omega,by simp only;omega,hst'.symm⟩,by show _ - _ < _ - _;omega⟩
   ·have hsum:¬ (subA s 0 l).length + (t.leftF tk (subA s 0 l)).length = t.mostT tk:=fun h=>by
     have hc:=ne_of_beq_false hc
     exact hc (by omega)
    have hag:agStep (t.mostT tk) (t.leftF tk) tk.a (la,lb) s = (la,lb):=by unfold agStep;rw [e1,if_neg (fun h=>hsum h.1)]
    rw [hag] at hst'
    (conv=>whnf);(repeat (refine ⟨rfl,?_⟩;conv=>whnf))
    refine ⟨hsn,?_⟩
    (conv=>whnf)
    exact ⟨rfl,(s + 1,.slice faa la.length fac,.slice fba lb.length fbc,la,lb),⟨rfl,rfl,rfl,rfl,rfl,rfl,rfl,rfl,trivial⟩,⟨hle₈,⟨faa,fac,rfl,hfan,hfai8⟩,⟨fba,fbc,rfl,hfbn,hfbi8⟩,by simp only;omega,by simp only;omega,hst'.symm⟩,by show _ - _ < _ - _;omega⟩
 ·have hge:s = 2 ^ len:=by
   have h:=of_decide_eq_false hc
   have h':¬ s < 2 ^ len:=fun x=>h (Int.ofNat_lt.2 x)
   omega
  obtain ⟨L,hL'⟩:=Option.isSome_iff_exists.1 (hL hf)
  have hb₁₄5:Blk σ₅ b14 (KH.cs h kh tk).toArray:=hb₁₄4.imI h₅.imm
  have hf₄₅:σ₄.frz.lg σ₅.frz:=⟨h₅.imm,⟨[],rfl⟩,h₅.tok⟩
  (conv=>whnf)
  refine ⟨KH.cs h kh tk,⟨rfl,Blk.rdI hb₁₄5 (fun _ _ h=>h)⟩,?_⟩
  (conv=>whnf)
  refine ⟨Tryz.k98.any,(Tryz.proof_ok h kh tk (hla.lg hf₅.frz2) (by omega) (.slice pa (t.reach tk [] []).length pc) (t.reach tk [] []) ⟨pa,pc,rfl,hpcap,hprows.lg hf₄₅ fun _ _ h=>h⟩ (by omega) (t.mostT tk) (by omega) L (by rw [e1];exact hL')).mono ?_⟩
  rintro v σ₆ ⟨ha,hI,htk6⟩ -
  obtain ⟨qa,qc,rfl,-⟩:=src_pairs ha
  have hf₅₆:σ₅.frz.lg σ₆.frz:=⟨hI,⟨[],rfl⟩,htk6⟩
  (conv=>whnf);(repeat (refine ⟨rfl,?_⟩;conv=>whnf))
  refine ⟨_,_,_,la,lb,L,by rw [hf];rfl,⟨faa,fac,rfl,hfan,hfai.lg hf₅₆⟩,⟨fba,fbc,rfl,hfbn,hfbi.lg hf₅₆⟩,by rw [hle₅.own] at ha;exact ha,fun x o h=>hI x o (hf₅.imm x o h),htk6.trans hle₅.tok,?_⟩
  rw [if_pos hf]
  refine ⟨?_,hL'⟩
  rw [hst,hge]
  unfold Tbl.agr agAll
  rw [e1,hll]
end Go.Proofs
