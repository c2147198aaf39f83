/- A part of the proof: lemmas that the last text uses. No conditions of its own. -/
import Derived.Test.YtebpcmdnecenlaaGreatH42
import Derived.Test.YtebpcmdnecenlaaGreatH06
set_option linter.unusedSimpArgs false
set_option linter.unusedVariables false
namespace Go.TM
variable {T:Type} {P:Program} {S:Sys P T} {Z:View T}
def AccIn (e:TypeId) (n:Nat) (v:Value) (cs:List Value) (A:List Res):Prop:=∀M₁,Acc e n v cs (A++M₁) M₁
theorem Acc.split {e n:Nat} {v:Value} {cs:List Value} {M M₀:List Res} (h:Acc e n v cs M M₀):∃A,M=A++M₀/\AccIn e n v cs A:=by
 rcases h with⟨rfl,rfl,rfl⟩ | ⟨b,c,len,cap,rfl,h1,h2,h3,rfl,h4⟩
 ·exact⟨[],rfl,λ _=>.inl ⟨rfl,rfl,rfl⟩⟩
 ·exact⟨[_],rfl,λ _=>.inr ⟨b,c,len,cap,rfl,h1,h2,h3,rfl,h4⟩⟩
theorem AccIn.nil {e n:Nat}:AccIn e n (.slice none 0 0) [] []:=λ _=>.nil
theorem AccIn.src {e n:Nat} {v:Value} {cs:List Value} {A:List Res} (h:AccIn e n v cs A):∃a l c,v=.slice a l c/\cs.length=l*n:=by
 rcases h [] with⟨rfl,rfl,_⟩ | ⟨b,c,len,cap,rfl,h1,_⟩
 ·exact⟨none,0,0,rfl,by simp⟩
 ·exact⟨_,_,_,rfl,h1⟩
theorem CallsV.accs {f:FuncId} {args:Array Value} {e n:Nat} {cs:List Value}
  (h:CallsV S f args (λ v Z'=>(∃A Y,Z'.M.Perm (Y++(A++Z.M))/\AccIn e n v cs A)/\(∀x o,Z.I x=some o->Z'.I x=some o)/\Z'.tok=Z.tok) Z) :
  CallsV S f args (λ v Z'=>Acc e n v cs Z'.M Z.M/\(∀x o,Z.I x=some o->Z'.I x=some o)/\Z'.tok=Z.tok) Z:=
 h.post λ v Z' ⟨⟨A,Y,hM,ha⟩,hI,ht⟩=>⟨_,(shift_perm hM).trans (shift_drop (Z:={ Z' with M:=Y++(A++Z.M) }) (M':=A++Z.M) (List.sublist_append_right ..)),ha Z.M,hI,ht⟩
theorem put_new_perm {b:Nat} {c:Array Value} {t:TypeId} {M':List Res} {Q:View T->Prop} (hf:Z.free b) (hp:Z.M.Perm M') (h:∀Z1:View T,(∀x o,Z.I x=some o->Z1.I x=some o)->Z1.tok=Z.tok->Z1.M=M'->Blk Z1 b c->Q Z1):∃Z1,Shift (Z.put b (.cells c t)) Z1/\Q Z1:=
 ⟨_,(shift_freeze (b:=b) (M':=Z.M) (List.Perm.refl _)).trans (shift_perm (M':=M') hp),h _ (le_add (o:=.cells c t) hf).imm rfl rfl Blk.new⟩
theorem perm_in (B D:Res) (A R:List Res):(B::D::(A++R)).Perm (A++B::D::R):=
 (((List.perm_middle (a:=B) (l₁:=A) (l₂:=D::R)).trans (List.Perm.cons B (List.perm_middle (a:=D) (l₁:=A) (l₂:=R))))).symm
theorem rows_src {α:Type} {enc:α->List Value} {n:Nat} (hn:∀x,(enc x).length=n) {a:Option Addr} {l:List α} (h:Src Z a (l.flatMap enc)) (hsp:∀ad,a=some ad->ad.spot=none) (hpos:0<n):RowsV Z a l.length n l λ x vs=>vs=enc x:=by
 refine⟨rfl,λ i x hx=>?_⟩
 have hlen:∀k,k<=l.length->((l.take k).flatMap enc).length=k*n:=by
  intro k hk
  rw [List.length_flatMap]
  have:(l.take k).map (λ x=>(enc x).length)=(l.take k).map λ _=>n:=by congr 1;funext x;exact hn x
  rw [this,List.map_const',List.sum_replicate_nat,List.length_take]
  rw [Nat.min_eq_left hk]
 have hi:i<l.length:=(List.getElem?_eq_some_iff.1 hx).1
 rcases h with⟨_,hnil⟩ | ⟨ad,rfl,hr⟩
 ·have h0:=List.flatMap_eq_nil_iff.1 hnil x (List.mem_of_getElem? hx)
  have:=hn x;rw [h0] at this;simp at this;omega
 ·refine⟨ad,enc x,rfl,hsp ad rfl,rfl,hn x,λ j v hv=>?_⟩
  rw [add_add _ (hsp ad rfl)]
  refine hr (i*n+j) v ?_
  have:=flatMap_at (f:=enc) hx hv
  rwa [hlen i (by omega)] at this
theorem encII_len (l:List (Int×Int)):(l.flatMap encII).length=l.length*2:=by
 rw [List.length_flatMap]
 have e:l.map (λ p=>(encII p).length)=l.map λ _=>2:=rfl
 rw [e,List.map_const',List.sum_replicate_nat]
def PairsN (Z:View T) (v:Value) (l:List (Int×Int)):Prop:=∃a cap,v=.slice a l.length cap/\l.length<=cap/\RowsV Z a l.length 2 l λ p vs=>vs=encII p
theorem PairsN.lg {Z':View T} {v:Value} {l:List (Int×Int)} (h:PairsN Z v l) (hl:Z.lg Z'):PairsN Z' v l:=let ⟨a,c,e,k,h⟩:=h;⟨a,c,e,k,h.lg hl λ _ _ h=>h⟩
theorem Acc.cap {e n:Nat} {v:Value} {cs:List Value} {M M₀:List Res} (h:Acc e n v cs M M₀):∀a len cap,v=.slice a len cap->len<=cap:=by
 rcases h with⟨rfl,_⟩ | ⟨b,c,len,cap,rfl,_,h2,_⟩
 ·intro a len cap e;cases e;exact Nat.le_refl _
 ·intro a len cap e;cases e;exact h2
theorem Acc.pairsN {Z':View T} {v:Value} {l:List (Int×Int)} (hs:Sep Z') (h:Acc 80 2 v (l.flatMap encII) Z'.M Z.M) (hI:∀x ox,Z.I x=some ox->Z'.I x=some ox) (ht:Z'.tok=Z.tok):∃Z'',Shift Z' Z''/\Z.le Z''/\PairsN Z''.frz v l:=by
 have hcap:=h.cap
 obtain⟨Z'',k1,k2,a,len,cap,rfl,hl,hsrc,hsp,_⟩:=h.freeze hs hI ht
 have hcap:=hcap _ _ _ rfl
 have:len=l.length:=by
  have h2:=encII_len l
  have h3:l.length*2=len*2:=h2.symm.trans hl
  exact (Nat.eq_of_mul_eq_mul_right (by decide) h3).symm
 subst this
 exact⟨Z'',k1,k2,a,cap,rfl,hcap,rows_src (n:=2) (λ _=>rfl) hsrc hsp (by decide)⟩
end Go.TM
namespace Go.Proofs
open Go.TM
set_option maxRecDepth 100000
variable {T:Type} {S:TM.Sys Tryz.prog T} {Z:View T}
attribute [local irreducible] CallsV YieldV rngX
theorem Tryz.sl52:SlT Tryz.prog 52 80 2:=.of (by kernel_rfl)
theorem Tryz.pairs_ok (h:TH) (k:KH) (tk:Talk) (xa ya:Option Addr) (xl xc yl yc:Nat) :
  CallsV S 92 #[KH.v h k tk,.slice xa xl xc,.slice ya yl yc] (λ v Z'=>(∃b3 b4 b5,v=.func (.func 129) #[] #[.pointer (some ⟨b3,0,none⟩),.pointer (some ⟨b4,0,none⟩),.pointer (some ⟨b5,0,none⟩)]/\Blk Z' b3 (KH.cs h k tk).toArray/\Blk Z' b4 #[.slice xa xl xc]/\Blk Z' b5 #[.slice ya yl yc])/\Z.le Z') Z:=by
 refine CallsV.of (args:=[_,_,_]) Tryz.k92 Tryz.mixed (by simp) ?_
 repeat refine⟨rfl,?_⟩
 conv=>whnf
 intro b3 Z1 h_1 hb_3
 conv=>whnf
 intro b4 Z2 h_2 hb_4
 conv=>whnf
 intro b5 Z3 h_3 hb_5
 repeat refine⟨rfl,?_⟩
 conv=>whnf
 exact⟨⟨b3,b4,b5,rfl,hb_3.le (h_2.trans h_3),hb_4.le h_3,hb_5⟩,(h_1.trans h_2).trans h_3⟩
theorem Tryz.appendSeq_ok (g:FuncId) (capt:Array Value) (ps:List (Int×Int)) (hg:(Tryz.prog.funcs[g]?.any λ fd=>fd.body.isSome && fd.name != "runtime.NumGoroutine")=true)
  (hit:∀l Z1,Z.frz.lg Z1->IterV S g ([Value.func (.yield l) #[] #[]]++capt.toList).toArray l (ps.map encA) Z1) (hlen:ps.length<=400000) :
  CallsV S 128 #[.slice none 0 0,.func (.func g) #[] capt] (λ v Z'=>Acc 80 2 v (ps.flatMap encII) Z'.M Z.M/\(∀x o,Z.I x=some o->Z'.I x=some o)/\Z'.tok=Z.tok) Z:=by
 refine CallsV.accs (CallsV.of (args:=[_,_]) Tryz.k128 Tryz.mixed (by simp) ?_)
 repeat refine⟨rfl,?_⟩
 conv=>whnf
 intro b2 hf2
 repeat refine⟨rfl,?_⟩
 conv=>whnf
 let Inv:Nat->View T->Prop:=λ k Z'=>Z.frz.lg Z'/\∃v A,Z'.M=A++.obj b2 (.cells #[v] 52 (0,0))::Z.M/\AccIn 80 2 v ((ps.take k).flatMap encII) A
 refine rngX_iter Tryz.mixed (ps.map encA) Inv (λ _ _=>False) (λ _=>False) rfl rfl hg (λ l Z1 hl=>hit l Z1 ⟨hl.imm,⟨_,(List.append_nil _).symm⟩,hl.tok⟩) ?_ ⟨?_,?_⟩ ?_ ?_ ?_ ?_ ?_
 ·intro p hp
  obtain⟨q,_,rfl⟩:=List.mem_map.1 hp
  rfl
 ·rintro k Z' Z'' hle ⟨hl,v,A,hM,ha⟩
  exact⟨frz_le hl hle,v,A,hle.own.trans hM,ha⟩
 ·rintro k Z' ⟨hl,_⟩
  exact⟨hl.imm,⟨_,(List.append_nil _).symm⟩,hl.tok⟩
 ·exact⟨⟨λ _ _ h=>h,⟨_,(List.append_nil _).symm⟩,rfl⟩,.slice none 0 0,[],rfl,.nil⟩
 ·intro l A' B D k p Z₀ KN KX KR KA hp ⟨hl,v,A,hM,ha⟩ hKN hKX hKR hKA
  obtain⟨q,hq,rfl⟩:∃q,ps[k]?=some q/\p=encA q:=by
   rw [List.getElem?_map] at hp
   cases hq:ps[k]? with
   | none=>rw [hq] at hp;cases hp
   | some q=>rw [hq] at hp;cases hp;exact⟨q,rfl,rfl⟩
  have hk:k<ps.length:=(List.getElem?_eq_some_iff.1 hq).1
  obtain⟨sa,sl,sc,rfl,hsl⟩:=ha.src
  conv=>whnf
  intro b5 hf5
  refine⟨_,.refl _,?_⟩
  refine⟨rfl,st_new (vs:=encII q) hf5 rfl (by simp [encII,Value.single]) λ Z1 h_1 hb_5=>?_⟩
  conv=>whnf
  have e1:Z1=({ Z1 with M:=Z₀.M }:View T).on A' D:=by
   have:=h_1.own
   obtain⟨i1,m1,t1⟩:=Z1
   simp only [View.on] at this ⊢
   rw [this]
  rw [e1]
  refine hKA _ _ ?_
  have hM1:(({ Z1 with M:=Z₀.M }:View T).on B D).M=B::D::(A++.obj b2 (.cells #[.slice sa sl sc] 52 (0,0))::Z.M):=by show B::D::Z₀.M=_;rw [hM]
  have hI1:∀x o,Z₀.I x=some o->Z1.I x=some o:=λ x o h=>h_1.imm x o h
  have hb5':Blk (({ Z1 with M:=Z₀.M }:View T).on B D) b5 (encII q).toArray:=hb_5
  generalize hZ_2:(({ Z1 with M:=Z₀.M }:View T).on B D)=Z2 at hM1 hb5' ⊢
  have hI2:∀x o,Z.I x=some o->Z2.I x=some o:=λ x o h=>by rw [<- hZ_2];exact hI1 x o (hl.imm x o h)
  have ht2:Z2.tok=Z.tok:=by rw [<- hZ_2];exact h_1.tok.trans hl.tok
  clear hZ_2 e1 h_1 hb_5 hf5
  refine⟨_,reads_at (B::D::A) hM1 0 _ rfl,?_⟩
  refine⟨encII q,⟨rfl,Blk.rdI hb5' (λ _ _ h=>h)⟩,?_⟩
  conv=>whnf
  intro bn hfn
  refine put_new_perm (M':=A++B::D::.obj b2 (.cells #[.slice sa sl sc] 52 (0,0))::Z.M) hfn (by rw [hM1];exact perm_in B D A _) λ Z3 hI3 ht3 hM3 hbn=>?_
  have hbn:Blk Z3 bn (encII q).toArray:=hbn
  conv=>whnf
  refine raw_app (v:=.slice sa sl sc) (cs:=(ps.take k).flatMap encII) (new:=encII q) (M₀:=B::D::.obj b2 (.cells #[.slice sa sl sc] 52 (0,0))::Z.M) Tryz.sl52 rfl rfl (by rw [hM3];exact ha _) (.inr ⟨_,rfl,Blk.rdI hbn (λ _ _ h=>h)⟩) rfl (by simp [encII,Value.single]) (by rw [encII_len,List.length_take];show _+2<=_;omega) λ v' M' ha' _=>?_
  have ha':Acc 80 2 v' ((ps.take (k+1)).flatMap encII) M' (B::D::.obj b2 (.cells #[.slice sa sl sc] 52 (0,0))::Z.M):=by rw [take_at hq];simpa using ha'
  obtain⟨A2,hM',ha2⟩:=ha'.split
  obtain⟨ta,tl,tc,rfl,-⟩:=ha2.src
  refine⟨rfl,?_⟩
  refine stv_mid (M₀:=Z.M) (e:=52) (A2++[B,D]) [.slice ta tl tc] 0 #[.slice sa sl sc] _ (by show M'=_;rw [hM'];simp) (by simp [Value.single]) (by simp) ?_
  refine⟨({ Z3 with M:=A2++.obj b2 (.cells #[.slice ta tl tc] 52 (0,0))::Z.M }:View T).on B D,?_,?_⟩
  ·refine shift_perm ?_
   show List.Perm ((A2++[B,D])++.obj b2 _::Z.M) (B::D::(A2++_))
   simpa [layAt] using (perm_in B D A2 (.obj b2 (.cells #[.slice ta tl tc] 52 (0,0))::Z.M)).symm
  conv=>whnf
  exact hKN _ _ _ ⟨⟨λ x o h=>hI3 x o (hI2 x o h),⟨_,(List.append_nil _).symm⟩,ht3.trans ht2⟩,_,A2,rfl,ha2⟩
 ·rintro d l A Z3 ⟨hl,v,A1,hM,ha⟩
  rw [List.take_of_length_le (by simp)] at ha
  obtain⟨sa,sl,sc,rfl,hsl⟩:=ha.src
  refine⟨_,reads_at (.obj l A::.obj d (.deferred (some []))::A1) (by show _::_::Z3.M=_;rw [hM];rfl) 0 _ rfl,?_⟩
  refine⟨_,.there .here,?_⟩
  refine⟨⟨A1,[.obj l A,.obj d (.deferred none),.obj b2 (.cells #[.slice sa sl sc] 52 (0,0))],?_,ha⟩,hl.imm,hl.tok⟩
  show List.Perm (.obj l A::.obj d (.deferred none)::Z3.M) _
  rw [hM]
  exact List.Perm.cons _ (List.Perm.cons _ List.perm_middle)
 ·exact λ d l A i Z3 h=>h.elim
 ·exact λ d l A Z3 h=>h.elim
end Go.Proofs
namespace Go.TM
variable {T:Type} {P:Program} {S:Sys P T} {Z:View T}
theorem CallsV.pairsE {f:FuncId} {args:Array Value} {F:Int} {R:List (Int×Int)->Prop} (h:CallsV S f args (λ v Z'=>∃v1 l,v=.tuple #[v1,.int .i64 F]/\R l/\Acc 80 2 v1 (l.flatMap encII) Z'.M Z.M/\(∀x ox,Z.I x=some ox->Z'.I x=some ox)/\Z'.tok=Z.tok) Z) :
  CallsV S f args (λ v Z'=>(∃v1 l,v=.tuple #[v1,.int .i64 F]/\R l/\PairsN Z'.frz v1 l)/\Z.le Z') Z:=by
 refine h.sep λ v Z' hs ⟨v1,l,hv,hr,ha,hI,ht⟩=>?_
 obtain⟨Z'',k1,k2,k3⟩:=ha.pairsN hs hI ht
 exact⟨Z'',k1,⟨_,l,hv,hr,k3⟩,k2⟩
def Tbl.pairsL (t:Tbl) (e:Int) (a b:List Int) (lv:Int):List (Int×Int):=if t.talkF e a b lv=0 then t.reach ⟨e,lv,a,b⟩ [] [] else []
theorem Tbl.reach_len (t:Tbl) (k:Talk) (x y:List Int):(t.reach k x y).length<=k.a.length*k.b.length:=by
 unfold Tbl.reach
 rw [List.length_flatMap]
 have:∀l:List Int,(l.map λ a=>(t.reachRow k x y a).length).sum<=l.length*k.b.length:=by
  intro l
  induction l with
  | nil=>simp
  | cons a l ih=>
   have h1:(t.reachRow k x y a).length<=k.b.length:=by unfold Tbl.reachRow;rw [List.length_map];exact List.length_filter_le ..
   simp only [List.map_cons,List.sum_cons,List.length_cons,Nat.succ_mul]
   omega
 exact this _
theorem Tbl.open_two {t:Tbl} {e:Int} {a b:List Int} (h:t.openF e [a,b]=0):t.flaw=0/\t.isEd e=true/\t.chk e none a=0/\t.chk e none b=0:=by
 unfold Tbl.openF at h
 split at h
 ·split at h
  ·simp only [Tbl.chkAll] at h
   split at h
   ·split at h
    ·exact⟨‹_›,‹_›,‹_›,‹_›⟩
    ·exact absurd h ‹_›
   ·exact absurd h ‹_›
  ·cases h
 ·exact absurd h ‹_›
theorem Tbl.talk_two {t:Tbl} {e lv:Int} {a b:List Int} (h:t.talkF e a b lv=0):t.flaw=0/\t.isEd e=true/\t.chk e none a=0/\t.chk e none b=0/\btw lv 1 5=true:=by
 unfold Tbl.talkF at h
 split at h
 ·rename_i ho
  split at h
  ·obtain⟨h1,h2,h3,h4⟩:=Tbl.open_two ho
   exact⟨h1,h2,h3,h4,‹_›⟩
  ·cases h
 ·exact absurd h ‹_›
theorem chk_len8 {t:Tbl} (hf:t.flaw=0) {e:Int} {l:List Int} (h:t.chk e none l=0):l.length<=8:=by
 rcases chk_len hf h (by simp) with rfl | h
 ·simp
 ·exact h
end Go.TM
namespace Go.Proofs
open Go.TM
set_option maxRecDepth 100000
variable {T:Type} {S:TM.Sys Tryz.prog T} {Z:View T}
attribute [local irreducible] CallsV YieldV rngX
theorem Tryz.collect_ok (g:FuncId) (capt:Array Value) (ps:List (Int×Int)) (hg:(Tryz.prog.funcs[g]?.any λ fd=>fd.body.isSome && fd.name != "runtime.NumGoroutine")=true)
  (hit:∀l Z1,Z.frz.lg Z1->IterV S g ([Value.func (.yield l) #[] #[]]++capt.toList).toArray l (ps.map encA) Z1) (hlen:ps.length<=400000) :
  CallsV S 91 #[.func (.func g) #[] capt] (λ v Z'=>Acc 80 2 v (ps.flatMap encII) Z'.M Z.M/\(∀x o,Z.I x=some o->Z'.I x=some o)/\Z'.tok=Z.tok) Z:=by
 refine CallsV.of (args:=[_]) Tryz.k91 Tryz.mixed (by simp) ?_
 refine⟨Tryz.k128.any,(Tryz.appendSeq_ok g capt ps hg hit hlen).mono ?_⟩
 rintro v Z' ⟨ha,hI,ht⟩ -
 obtain⟨sa,sl,sc,rfl,-⟩:=Acc.src ha
 repeat refine⟨rfl,?_⟩
 conv=>whnf
 exact⟨ha,hI,ht⟩
theorem Tryz.talkPairs_ok (h:TH) (t:Tbl) (ht:TabV Z.frz h t) (k:KH) (tk:Talk) (ha:Ints Z.frz k.aa k.al tk.a) (hb:Ints Z.frz k.ba k.bl tk.b) (hal:k.al<=8) (hbl:k.bl<=8) (b3 b4 b5:Nat) (xa:Option Addr) (xl xc:Nat) (x:List Int) (hx:Ints Z.frz xa xl x) (hxl:xl<2 ^ 60)
  (hb3:Blk Z.frz b3 (KH.cs h k tk).toArray) (hb4:Blk Z.frz b4 #[.slice xa xl xc]) (hb5:Blk Z.frz b5 #[.slice none 0 0]) :
  CallsV S 91 #[.func (.func 129) #[] #[.pointer (some ⟨b3,0,none⟩),.pointer (some ⟨b4,0,none⟩),.pointer (some ⟨b5,0,none⟩)]] (λ v Z'=>Acc 80 2 v ((t.reach tk x []).flatMap encII) Z'.M Z.M/\(∀x o,Z.I x=some o->Z'.I x=some o)/\Z'.tok=Z.tok) Z:=by
 refine Tryz.collect_ok 129 _ (t.reach tk x []) Tryz.k129.any (λ l Z1 hl=>?_) ?_
 ·have hl:=hl.frz2
  exact Tryz.pairsIt_ok h t (ht.lg hl) k tk (ha.lg hl) (hb.lg hl) xa none xl xc 0 0 x [] (hx.lg hl) ⟨rfl,by simp⟩ (by omega) (by omega) hxl (by omega) b3 b4 b5 l (hb3.lg hl) (hb4.lg hl) (hb5.lg hl)
 ·have h1:=t.reach_len tk x []
  have h2:=ha.1
  have h3:=hb.1
  have:tk.a.length*tk.b.length<=8*8:=Nat.mul_le_mul (by omega) (by omega)
  omega
theorem Tryz.Pairs_ok (h:TH) (t:Tbl) (ht:TabV Z.frz h t) (e lv:Int) (a a':Option Addr) (len cap len' cap':Nat) (l l':List Int) (hl:Ints Z.frz a len l) (hl':Ints Z.frz a' len' l') (hlen:len<2 ^ 60) (hlen':len'<2 ^ 60) :
  CallsV S 43 #[h.v,.int .i64 e,.slice a len cap,.slice a' len' cap',.int .i64 lv] (λ v Z'=>(∃v1 ps,v=.tuple #[v1,.int .i64 (t.talkF e l l' lv)]/\ps=t.pairsL e l l' lv/\PairsN Z'.frz v1 ps)/\Z.le Z') Z:=by
 refine CallsV.pairsE (CallsV.of (args:=[_,_,_,_,_]) Tryz.k43 Tryz.mixed (by simp) ?_)
 repeat refine⟨rfl,?_⟩
 conv=>whnf
 intro b5 Z1 h_1 hb_5
 refine⟨_,⟨rfl,hb_5.rdT λ _ _ h=>h⟩,?_⟩
 have hf_1:Z.frz.lg Z1:=frz_self.trans h_1.lg
 refine⟨Tryz.k90.any,(Tryz.talk_ok h t (ht.lg hf_1) e lv a a' len cap len' cap' l l' (hl.lg hf_1) (hl'.lg hf_1) hlen hlen').go λ _=>?_⟩
 conv=>whnf
 intro b12 hf12
 refine⟨_,.refl _,?_⟩
 refine⟨rfl,st_new (vs:=KH.cs h ⟨a,len,cap,a',len',cap'⟩ ⟨e,lv,l,l'⟩) hf12 rfl (by simp [KH.cs,Value.single]) λ Z2 h_2 hb_12=>?_⟩
 have hle:=h_1.trans h_2
 have hf_2:Z.frz.lg Z2:=frz_self.trans hle.lg
 repeat refine⟨rfl,?_⟩
 conv=>whnf
 apply cb_split<;>intro hc
 ·have hf:t.talkF e l l' lv≠0:=by simpa using hc
  repeat refine⟨rfl,?_⟩
  conv=>whnf
  exact⟨_,[],rfl,by unfold Tbl.pairsL;rw [if_neg hf],by rw [hle.own];exact .nil,hle.imm,hle.tok⟩
 have hf:t.talkF e l l' lv=0:=by simpa using hc
 obtain⟨hfl,hed,hc1,hc2,hlv⟩:=Tbl.talk_two hf
 have l8:l.length<=8:=chk_len8 hfl hc1
 have l8':l'.length<=8:=chk_len8 hfl hc2
 have hll:=hl.1
 have hll':=hl'.1
 refine⟨KH.cs h ⟨a,len,cap,a',len',cap'⟩ ⟨e,lv,l,l'⟩,⟨rfl,Blk.rdI hb_12 (λ _ _ h=>h)⟩,?_⟩
 refine⟨Tryz.k92.any,(Tryz.pairs_ok h ⟨a,len,cap,a',len',cap'⟩ ⟨e,lv,l,l'⟩ none none 0 0 0 0).mono ?_⟩
 rintro _ Z3 ⟨⟨b3,b4,b5',rfl,hb3,hb4,hb5⟩,h_3⟩ -
 have hle:=hle.trans h_3
 have hf_3:Z.frz.lg Z3.frz:=(hf_2.trans h_3.lg).frz2
 refine⟨Tryz.k91.any,(Tryz.talkPairs_ok h t (ht.lg hf_3) ⟨a,len,cap,a',len',cap'⟩ ⟨e,lv,l,l'⟩ (hl.lg hf_3) (hl'.lg hf_3) (by show len<=8;omega) (by show len'<=8;omega) b3 b4 b5' none 0 0 [] ⟨rfl,by simp⟩ (by omega) hb3 hb4 hb5).mono ?_⟩
 rintro v Z4 ⟨ha,hI,htk⟩ -
 obtain⟨sa,sl,sc,rfl,-⟩:=Acc.src ha
 repeat refine⟨rfl,?_⟩
 conv=>whnf
 exact⟨_,_,by rw [hf];rfl,by unfold Tbl.pairsL;rw [if_pos hf],by rw [hle.own] at ha;exact ha,λ x o hx=>hI x o (hle.imm x o hx),htk.trans hle.tok⟩
end Go.Proofs
namespace Go.TM
variable {T:Type} {P:Program} {S:Sys P T} {Z:View T}
def encI (n:Int):Value:=.int .i64 n
def ownV (m:List (Int×Int)):List (Int×Value):=m.map λ p=>(p.1,.int .i64 p.2)
theorem lkI_own (y:Int):∀(m:List (Int×Int)) (i:Nat),(lkI y (ownV m) i).map (·.2)=(look y m).map (Value.int .i64)
 | [],i=>rfl
 | p::m,i=>by
  simp only [ownV,List.map_cons,lkI,look]
  by_cases e:y=p.1
  ·simp [e]
  ·rw [if_neg e,if_neg e]
   exact lkI_own y m (i+1)
theorem lk_own (y:Int) (m:List (Int×Int)):lk y (ownV m)=(look y m).map (Value.int .i64):=lkI_own y m 0
theorem ups_own (y x:Int):∀m:List (Int×Int),ups y (.int .i64 x) (ownV m)=ownV (upsI y x m)
 | []=>rfl
 | p::m=>by
  simp only [ownV,List.map_cons,ups,upsI]
  by_cases e:y=p.1
  ·rw [if_pos e,if_pos e];rfl
  ·rw [if_neg e,if_neg e]
   have:=ups_own y x m
   simp only [ownV] at this
   rw [this];rfl
end Go.TM
namespace Go.Proofs
open Go.TM
set_option maxRecDepth 100000
variable {T:Type} {S:TM.Sys Tryz.prog T} {Z:View T}
attribute [local irreducible] CallsV YieldV rngX
theorem Tryz.u3:Tryz.prog.underlying 3=some (.int .i64):=by kernel_rfl
theorem Tryz.kt3:KeyT T Tryz.prog 3 encI:=by
 refine .simple Tryz.u3 rfl (λ k k'=>?_) (λ k=>?_)
 ·show some (k == k')=some (decide (k=k'))
  congr 1
 ·simp [Instr.sameBits,encI]
theorem Tryz.u171:Tryz.prog.underlying 171=some (.map 3 3):=by kernel_rfl
theorem Tryz.u172:Tryz.prog.underlying 172=some (.map 3 4):=by kernel_rfl
theorem Tryz.z3:zeroAt Tryz.prog 3=some (.int .i64 0):=by kernel_rfl
def gvCap (b3 b9 b5 b10:Nat):Array Value:=#[.pointer (some ⟨b3,0,none⟩),.pointer (some ⟨b9,0,none⟩),.pointer (some ⟨b5,0,none⟩),.pointer (some ⟨b10,0,none⟩)]
theorem Tryz.give_ok (pa:Option Addr) (pl pc:Nat) (ps:List (Int×Int)) (b3 b9 b5 b10 sb ob:Nat) (Z:View T) (hps:RowsV Z.frz pa pl 2 ps λ p vs=>vs=encII p) (hpl:pl<2 ^ 60)
  (h3:Blk Z.frz b3 #[.slice pa pl pc]) (h9:Blk Z.frz b9 #[.map (some sb)]) (h5:Blk Z.frz b5 #[.map (some ob)]) (h10:Blk Z.frz b10 #[.func (.func 130) #[] (gvCap b3 b9 b5 b10)]) (M₀:List Res) :
  ∀(n:Nat) (one:Int) (s:GS) (Z₀:View T),Z.frz.lg Z₀->unseen ps s.seen<n->Z₀.M=.obj sb (mapObj encI (setL s.seen))::.obj ob (mapObj encI (ownV s.own))::M₀ ->
  CallsV S 130 #[.int .i64 one,.pointer (some ⟨b3,0,none⟩),.pointer (some ⟨b9,0,none⟩),.pointer (some ⟨b5,0,none⟩),.pointer (some ⟨b10,0,none⟩)] (λ v Z'=>v=.bool (give ps n one s).1/\Z'.M=.obj sb (mapObj encI (setL (give ps n one s).2.seen))::.obj ob (mapObj encI (ownV (give ps n one s).2.own))::M₀ /\
   (∀x o,Z₀.I x=some o->Z'.I x=some o)/\Z'.tok=Z₀.tok) Z₀:=by
 intro n
 induction n with
 | zero=>exact λ one s Z₀ _ h _=>absurd h (Nat.not_lt_zero _)
 | succ n ih=>
 intro one s Z₀ hl hn hM
 refine CallsV.of (args:=[_,_,_,_,_]) Tryz.k130 Tryz.mixed (by simp) ?_
 have hpl':=hps.1
 refine⟨_,(h3.lg hl).sees rfl,?_⟩
 refine⟨Nat×GS,λ y=>[(0,.int .i64 one),(1,.pointer (some ⟨b3,0,none⟩)),(2,.pointer (some ⟨b9,0,none⟩)),(3,.pointer (some ⟨b5,0,none⟩)),(4,.pointer (some ⟨b10,0,none⟩)),(11,.slice pa pl pc),(12,.int .i64 pl),(13,.int .i64 y.1)],
  λ y Z'=>Z.frz.lg Z'/\(∀x o,Z₀.I x=some o->Z'.I x=some o)/\Z'.M=.obj sb (mapObj encI (setL y.2.seen))::.obj ob (mapObj encI (ownV y.2.own))::M₀/\y.1<=pl/\unseen ps y.2.seen<n+1/\give ps (n+1) one s=giveLoop (give ps n) one (ps.drop y.1) y.2,
  λ y=>pl-y.1,(0,s),⟨rfl,rfl,rfl,rfl,rfl,rfl,rfl,rfl,trivial⟩,⟨hl,λ _ _ h=>h,hM,by omega,hn,rfl⟩,?_⟩
 rintro⟨i,s⟩ f Z1 ⟨hl_1,hI_1,hM_1,hi,hn,hinv⟩
 simp only at hM_1 hi hn hinv
 repeat refine⟨rfl,?_⟩
 conv=>whnf
 apply cb_split<;>intro hc
 ·have hlt:i<pl:=by simpa using hc
  obtain⟨ad,p,vs,hx,hpa,hsp,rfl,-,hrd⟩:=RowsV.at hps hlt
  have hpm:=List.mem_of_getElem? hx
  have hin:InR (i+1):=by unfold InR;omega
  rw [drop_at hx] at hinv
  rw [giveLoop] at hinv
  refine⟨ad,i,⟨hpa,rfl,hlt⟩,?_⟩
  refine⟨_,⟨rfl,hrd.lg hl_1⟩,?_⟩
  conv=>whnf
  intro b8 hf8
  refine⟨_,.refl _,?_⟩
  refine⟨rfl,st_new (vs:=encII p) hf8 rfl (by simp [encII,Value.single]) λ Z2 h_2 hb8=>?_⟩
  have hb8:Blk Z2 b8 #[.int .i64 p.1,.int .i64 p.2]:=hb8
  have hl_2:=frz_le hl_1 h_2
  have hI_2:∀x o,Z₀.I x=some o->Z2.I x=some o:=λ x o h=>h_2.imm x o (hI_1 x o h)
  have hM2:=h_2.own.trans hM_1
  refine⟨_,hb8.sees3 (o:=0) rfl,?_⟩
  repeat refine⟨rfl,?_⟩
  conv=>whnf
  apply gb_split<;>intro hc
  ·have h1:p.1=one:=by simpa using hc
   refine⟨_,(h9.lg hl_2).sees rfl,?_⟩
   refine⟨_,hb8.sees3 (o:=1) rfl,?_⟩
   conv=>whnf
   refine raw_lookup (k:=p.2) (l:=setL s.seen) Tryz.kt3 Tryz.u172 Tryz.z4 rfl rfl (.inr (by rw [hM2];exact List.mem_cons_self ..)) ?_
   rw [lk_set]
   repeat refine⟨rfl,?_⟩
   conv=>whnf
   apply cb_split<;>intro hc
   ·have hin2:p.2∈s.seen:=by simpa [inS] using hc
    rw [if_pos (.inr hin2)] at hinv
    repeat refine⟨rfl,?_⟩
    refine⟨hin,?_⟩
    refine⟨rfl,(i+1,s),⟨rfl,rfl,rfl,rfl,rfl,rfl,rfl,rfl,trivial⟩,⟨hl_2,hI_2,hM2,by omega,hn,hinv⟩,by show _-_<_-_;omega⟩
   have hno:p.2∉s.seen:=by simpa [inS] using hc
   rw [if_neg (by rintro (h | h);exact h h1;exact hno h)] at hinv
   have hlt2:unseen ps (s.seen++[p.2])<unseen ps s.seen:=unseen_lt (λ y hy=>List.mem_append_left _ hy) hpm hno (by simp)
   refine⟨_,(h9.lg hl_2).sees rfl,?_⟩
   refine⟨_,hb8.sees3 (o:=1) rfl,?_⟩
   conv=>whnf
   refine raw_mapUpdate (k:=p.2) (v:=.bool true) (l:=setL s.seen) (M':=.obj sb (mapObj encI (setL (s.seen++[p.2])))::.obj ob (mapObj encI (ownV s.own))::M₀) Tryz.kt3 Tryz.u172 rfl rfl rfl (by rw [hM2,ups_set' _ _ hno];exact .here) ?_
   have hl3:Z.frz.lg { Z2 with M:=.obj sb (mapObj encI (setL (s.seen++[p.2])))::.obj ob (mapObj encI (ownV s.own))::M₀ }:=⟨hl_2.imm,⟨_,(List.append_nil _).symm⟩,hl_2.tok⟩
   have hb8':Blk ({ Z2 with M:=.obj sb (mapObj encI (setL (s.seen++[p.2])))::.obj ob (mapObj encI (ownV s.own))::M₀ }:View T) b8 #[.int .i64 p.1,.int .i64 p.2]:=hb8
   have hM3:({ Z2 with M:=.obj sb (mapObj encI (setL (s.seen++[p.2])))::.obj ob (mapObj encI (ownV s.own))::M₀ }:View T).M=.obj sb (mapObj encI (setL (s.seen++[p.2])))::.obj ob (mapObj encI (ownV s.own))::M₀:=rfl
   have hI3:∀x o,Z₀.I x=some o->({ Z2 with M:=.obj sb (mapObj encI (setL (s.seen++[p.2])))::.obj ob (mapObj encI (ownV s.own))::M₀ }:View T).I x=some o:=hI_2
   have ht3:({ Z2 with M:=.obj sb (mapObj encI (setL (s.seen++[p.2])))::.obj ob (mapObj encI (ownV s.own))::M₀ }:View T).tok=Z2.tok:=rfl
   generalize hZ:({ Z2 with M:=.obj sb (mapObj encI (setL (s.seen++[p.2])))::.obj ob (mapObj encI (ownV s.own))::M₀ }:View T)=Z3 at hl3 hb8' hM3 hI3 ht3 ⊢
   clear hZ
   have htk:Z3.tok=Z₀.tok:=hl3.tok.trans hl.tok.symm
   refine⟨_,(h5.lg hl3).sees rfl,?_⟩
   refine⟨_,hb8'.sees3 (o:=1) rfl,?_⟩
   conv=>whnf
   refine raw_lookup2 (k:=p.2) (l:=ownV s.own) Tryz.kt3 Tryz.u171 Tryz.z3 rfl rfl (.inr (by rw [hM3];exact List.mem_cons_of_mem _ (List.mem_cons_self ..))) ?_
   rw [lk_own]
   cases hlook:TM.look p.2 s.own with
   | none=>
    rw [hlook] at hinv
    simp only at hinv
    repeat refine⟨rfl,?_⟩
    refine⟨_,(h5.lg hl3).sees rfl,?_⟩
    refine⟨_,hb8'.sees3 (o:=1) rfl,?_⟩
    conv=>whnf
    refine raw_mapUpdate (k:=p.2) (v:=.int .i64 one) (l:=ownV s.own) (M':=.obj sb (mapObj encI (setL (s.seen++[p.2])))::.obj ob (mapObj encI (ownV (upsI p.2 one s.own)))::M₀) Tryz.kt3 Tryz.u171 rfl rfl rfl (by rw [hM3,ups_own];exact .there .here) ?_
    repeat refine⟨rfl,?_⟩
    conv=>whnf
    rw [hinv]
    exact⟨rfl,rfl,hI3,htk⟩
   | some o=>
    rw [hlook] at hinv
    simp only at hinv
    repeat refine⟨rfl,?_⟩
    refine⟨_,(h10.lg hl3).sees rfl,?_⟩
    refine⟨Tryz.k130.any,(ih o ⟨s.seen++[p.2],s.own⟩ Z3 hl3 (by show unseen ps (s.seen++[p.2])<n;omega) hM3).mono ?_⟩
    rintro _ Z4 ⟨rfl,hM4,hI4,ht4⟩ -
    have hl4:Z.frz.lg Z4:=⟨λ b o h=>hI4 _ _ (hl3.imm b o h),⟨_,(List.append_nil _).symm⟩,ht4.trans hl3.tok⟩
    have hb₈4:=hb8'.imI hI4
    have hI4':∀x o,Z₀.I x=some o->Z4.I x=some o:=λ x o h=>hI4 x o (hI3 x o h)
    cases hg:give ps n o ⟨s.seen++[p.2],s.own⟩ with
    | mk b s'=>
    rw [hg] at hinv hM4
    simp only at hM4
    cases b with
    | true=>
     simp only at hinv
     repeat refine⟨rfl,?_⟩
     refine⟨_,(h5.lg hl4).sees rfl,?_⟩
     refine⟨_,hb₈4.sees3 (o:=1) rfl,?_⟩
     conv=>whnf
     refine raw_mapUpdate (k:=p.2) (v:=.int .i64 one) (l:=ownV s'.own) (M':=.obj sb (mapObj encI (setL s'.seen))::.obj ob (mapObj encI (ownV (upsI p.2 one s'.own)))::M₀) Tryz.kt3 Tryz.u171 rfl rfl rfl (by rw [hM4,ups_own];exact .there .here) ?_
     repeat refine⟨rfl,?_⟩
     conv=>whnf
     rw [hinv]
     exact⟨rfl,rfl,hI4',ht4.trans htk⟩
    | false=>
     simp only at hinv
     have hu:=unseen_mono (ps:=ps) (give_fails n o ⟨s.seen++[p.2],s.own⟩ s' (by show unseen ps (s.seen++[p.2])<n;omega) hg).sub
     simp only at hu
     repeat refine⟨rfl,?_⟩
     refine⟨hin,?_⟩
     refine⟨rfl,(i+1,s'),⟨rfl,rfl,rfl,rfl,rfl,rfl,rfl,rfl,trivial⟩,⟨hl4,hI4',hM4,by omega,by show unseen ps s'.seen<n+1;omega,hinv⟩,by show _-_<_-_;omega⟩
  ·have h1:p.1≠one:=by simpa using hc
   rw [if_pos (.inl h1)] at hinv
   repeat refine⟨rfl,?_⟩
   refine⟨hin,?_⟩
   refine⟨rfl,(i+1,s),⟨rfl,rfl,rfl,rfl,rfl,rfl,rfl,rfl,trivial⟩,⟨hl_2,hI_2,hM2,by omega,hn,hinv⟩,by show _-_<_-_;omega⟩
 ·have hge:pl<=i:=by simpa using hc
  rw [List.drop_eq_nil_of_le (by omega),giveLoop] at hinv
  repeat refine⟨rfl,?_⟩
  conv=>whnf
  rw [hinv]
  exact⟨rfl,hM_1,hI_1,hl_1.tok.trans hl.tok.symm⟩
end Go.Proofs
namespace Go.TM
theorem mostStep_eq (ps:List (Int×Int)) (st:Nat×List (Int×Int)) (a:Int):mostStep ps st a=(if (give ps (ps.length+1) a ⟨[],st.2⟩).1 then st.1+1 else st.1,(give ps (ps.length+1) a ⟨[],st.2⟩).2.own):=by
 unfold mostStep
 cases give ps (ps.length+1) a ⟨[],st.2⟩ with
 | mk b s=>cases b <;> rfl
end Go.TM
namespace Go.Proofs
open Go.TM
set_option maxRecDepth 100000
variable {T:Type} {S:TM.Sys Tryz.prog T} {Z:View T}
attribute [local irreducible] CallsV YieldV rngX
theorem Tryz.most_ok (h:TH) (k:KH) (tk:Talk) (ha:Ints Z.frz k.aa k.al tk.a) (hal:k.al<2 ^ 60) (pa:Option Addr) (pl pc:Nat) (ps:List (Int×Int)) (hps:RowsV Z.frz pa pl 2 ps λ p vs=>vs=encII p) (hpl:pl<2 ^ 60) :
  CallsV S 95 #[KH.v h k tk,.slice pa pl pc] (λ v Z'=>v=.int .i64 (most tk.a ps)/\Z'=Z) Z:=by
 refine CallsV.pure' (CallsV.of (args:=[_,_]) Tryz.k95 Tryz.mixed (by simp) ?_)
 have hal':=ha.1
 repeat refine⟨rfl,?_⟩
 conv=>whnf
 intro b2 Z1 h_1 hb_2
 have hb_2:Blk Z1 b2 (KH.cs h k tk).toArray:=hb_2
 conv=>whnf
 intro b3 Z2 h_2 hb_3
 have hb_2:=hb_2.le h_2
 have hle_2:=h_1.trans h_2
 conv=>whnf
 refine raw_makeMap encI λ ob hob=>?_
 conv=>whnf
 intro b5 hf5
 refine⟨_,.refl _,?_⟩
 refine⟨rfl,st_new (vs:=[.map (some ob)]) hf5 rfl (by simp [Value.single]) λ Z3 h_3 hb_5=>?_⟩
 have hM3:Z3.M=.obj ob (mapObj encI [])::Z.M:=by rw [h_3.own];show _::Z2.M=_;rw [hle_2.own]
 have hI3:∀x o,Z2.I x=some o->Z3.I x=some o:=λ x o h=>h_3.imm x o h
 have hf_3:Z.frz.lg Z3:=⟨λ x o h=>hI3 x o (hle_2.imm x o h),⟨_,(List.append_nil _).symm⟩,(h_3.tok.trans hle_2.tok)⟩
 have hb_2:=hb_2.imI hI3
 have hb_3:=hb_3.imI hI3
 refine⟨_,hb_2.sees3 (o:=5) rfl,?_⟩
 refine⟨Nat×Nat×List (Int×Int),λ y=>[(2,.pointer (some ⟨b2,0,none⟩)),(3,.pointer (some ⟨b3,0,none⟩)),(5,.pointer (some ⟨b5,0,none⟩)),(6,.int .i64 y.2.1),(13,.slice k.aa k.al k.ac),(14,.int .i64 k.al),(15,.int .i64 y.1)],
  λ y Z'=>(∀x o,Z3.I x=some o->Z'.I x=some o)/\Z'.tok=Z.tok/\Z'.M=.obj ob (mapObj encI (ownV y.2.2))::Z.M/\y.1<=k.al/\y.2.1<=y.1/\(tk.a.take y.1).foldl (mostStep ps) (0,[])=y.2,
  λ y=>k.al-y.1,(0,0,[]),⟨rfl,rfl,rfl,rfl,rfl,rfl,rfl,trivial⟩,⟨λ _ _ h=>h,hf_3.tok,hM3,by omega,by simp,rfl⟩,?_⟩
 rintro⟨i,many,own⟩ f Z4 ⟨hI4,ht4,hM4,hi,hmi,hst⟩
 simp only at hM4 hmi hi hst
 have hf_4:Z.frz.lg Z4:=⟨λ x o h=>hI4 x o (hf_3.imm x o h),⟨_,(List.append_nil _).symm⟩,ht4⟩
 repeat refine⟨rfl,?_⟩
 conv=>whnf
 apply cb_split<;>intro hc
 ·have hlt:i<k.al:=by simpa using hc
  obtain⟨ad,a,hx,hka,-,hs⟩:=(ha.lg hf_4).at hlt
  have hin:InR (i+1):=by unfold InR;omega
  have hst:(tk.a.take (i+1)).foldl (mostStep ps) (0,[])=mostStep ps (many,own) a:=by rw [take_at hx,List.foldl_append,hst];rfl
  have hin2:InR (many+1):=by unfold InR;omega
  refine⟨ad,i,⟨hka,rfl,hlt⟩,?_⟩
  refine⟨_,hs,?_⟩
  conv=>whnf
  refine raw_makeMap encI λ sb hsb=>?_
  conv=>whnf
  intro b9 hf9
  refine⟨_,.refl _,?_⟩
  refine⟨rfl,st_new (vs:=[.map (some sb)]) hf9 rfl (by simp [Value.single]) λ Z5 h_5 hb_9=>?_⟩
  conv=>whnf
  intro b10 hf10
  refine⟨_,.refl _,?_⟩
  refine⟨rfl,st_new (vs:=[.func (.func 130) #[] (gvCap b3 b9 b5 b10)]) hf10 rfl (by simp [Value.single]) λ Z6 h_6 hb_10=>?_⟩
  have hM_6:Z6.M=.obj sb (mapObj encI [])::.obj ob (mapObj encI (ownV own))::Z.M:=by rw [h_6.own,h_5.own];show _::Z4.M=_;rw [hM4]
  have hI_6:∀x o,Z3.I x=some o->Z6.I x=some o:=λ x o h=>h_6.imm x o (h_5.imm x o (hI4 x o h))
  have ht6:Z6.tok=Z.tok:=h_6.tok.trans (h_5.tok.trans ht4)
  have hf_6:Z.frz.lg Z6.frz:=⟨λ x o h=>hI_6 x o (hf_3.imm x o h),⟨[],rfl⟩,ht6⟩
  have hg:=(Tryz.give_ok (S:=S) pa pl pc ps b3 b9 b5 b10 sb ob Z6 (hps.lg hf_6 λ _ _ h=>h) hpl (hb_3.imI hI_6) (hb_9.imI h_6.imm) (hb_5.imI hI_6) hb_10 Z.M (ps.length+1) a ⟨[],own⟩ Z6 frz_self (by have:=unseen_le ps [];show unseen ps []<_;omega) hM_6).post
   (R':=λ v Z'=>v=.bool (give ps (ps.length+1) a ⟨[],own⟩).1/\Z'.M=.obj ob (mapObj encI (ownV (give ps (ps.length+1) a ⟨[],own⟩).2.own))::Z.M/\(∀x o,Z6.I x=some o->Z'.I x=some o)/\Z'.tok=Z6.tok)
   λ v Z' ⟨h1,h2,h3,h4⟩=>⟨_,shift_drop (M':=.obj ob (mapObj encI (ownV (give ps (ps.length+1) a ⟨[],own⟩).2.own))::Z.M) (by rw [h2];exact List.sublist_cons_self ..),h1,rfl,h3,h4⟩
  refine⟨_,hb_10.sees rfl,?_⟩
  refine⟨Tryz.k130.any,hg.mono ?_⟩
  rintro _ Z7 ⟨rfl,hM7,hI7,ht7⟩ -
  have hI7':∀x o,Z3.I x=some o->Z7.I x=some o:=λ x o h=>hI7 x o (hI_6 x o h)
  rw [mostStep_eq] at hst
  cases hgv:give ps (ps.length+1) a ⟨[],own⟩ with
  | mk b s'=>
  rw [hgv] at hM7 hst
  simp only at hM7 hst
  cases b with
  | true=>
   simp only [if_true] at hst
   repeat refine⟨rfl,?_⟩
   refine⟨hin2,?_⟩
   refine⟨hin,?_⟩
   refine⟨rfl,(i+1,many+1,s'.own),⟨rfl,rfl,rfl,rfl,rfl,rfl,rfl,trivial⟩,⟨hI7',ht7.trans ht6,hM7,by omega,by show many+1<=i+1;omega,hst⟩,by show _-_<_-_;omega⟩
  | false=>
   simp only [Bool.false_eq_true,if_false] at hst
   repeat refine⟨rfl,?_⟩
   refine⟨hin,?_⟩
   refine⟨rfl,(i+1,many,s'.own),⟨rfl,rfl,rfl,rfl,rfl,rfl,rfl,trivial⟩,⟨hI7',ht7.trans ht6,hM7,by omega,by show many<=i+1;omega,hst⟩,by show _-_<_-_;omega⟩
 ·have hge:k.al<=i:=by simpa using hc
  rw [List.take_of_length_le (by omega)] at hst
  repeat refine⟨rfl,?_⟩
  conv=>whnf
  exact⟨by unfold most;rw [hst],λ x o h=>hf_4.imm x o h,⟨[_],hM4⟩,ht4⟩
end Go.Proofs
namespace Go.TM
def cmpL:List Int->List Int->Int
 | [],[]=>0
 | [],_::_=>-1
 | _::_,[]=>1
 | a::l,b::r=>if a<b then -1 else if b<a then 1 else cmpL l r
end Go.TM
namespace Go.Proofs
open Go.TM
set_option maxRecDepth 100000
variable {T:Type} {S:TM.Sys Tryz.prog T} {Z:View T}
attribute [local irreducible] CallsV YieldV rngX
theorem Tryz.isNaN_ok (a:Int):CallsV S 172 #[.int .i64 a] (λ v Z'=>v=.bool false/\Z'=Z) Z:=by
 refine CallsV.of (args:=[_]) Tryz.k172 Tryz.mixed (by simp) ?_
 repeat refine⟨rfl,?_⟩
 conv=>whnf
 exact⟨by simp,rfl⟩
theorem Tryz.cmp_ok (a b:Int):CallsV S 131 #[.int .i64 a,.int .i64 b] (λ v Z'=>v=.int .i64 (if a<b then -1 else if b<a then 1 else 0)/\Z'=Z) Z:=by
 refine CallsV.of (args:=[_,_]) Tryz.k131 Tryz.mixed (by simp) ?_
 refine⟨Tryz.k172.any,(Tryz.isNaN_ok a).go λ _=>?_⟩
 refine⟨Tryz.k172.any,(Tryz.isNaN_ok b).go λ _=>?_⟩
 repeat refine⟨rfl,?_⟩
 conv=>whnf
 apply cb_split<;>intro hc
 ·have h:a<b:=by simpa using hc
  repeat refine⟨rfl,?_⟩
  conv=>whnf
  exact⟨by rw [if_pos h],rfl⟩
 have h:¬a<b:=by simpa using hc
 repeat refine⟨rfl,?_⟩
 conv=>whnf
 apply cb_split<;>intro hc
 ·have h2:b<a:=by simpa using hc
  repeat refine⟨rfl,?_⟩
  conv=>whnf
  exact⟨by rw [if_neg h,if_pos h2],rfl⟩
 have h2:¬b<a:=by simpa using hc
 repeat refine⟨rfl,?_⟩
 conv=>whnf
 exact⟨by rw [if_neg h,if_neg h2],rfl⟩
theorem Tryz.compare_ok (a a':Option Addr) (len cap len' cap':Nat) (l l':List Int) (hl:Ints Z a len l) (hl':Ints Z a' len' l') (hlen:len<2 ^ 60) (hlen':len'<2 ^ 60) :
  CallsV S 97 #[.slice a len cap,.slice a' len' cap'] (λ v Z'=>v=.int .i64 (cmpL l l')/\Z'=Z) Z:=by
 refine CallsV.of (args:=[_,_]) Tryz.k97 Tryz.mixed (by simp) ?_
 have hll:=hl.1
 have hll':=hl'.1
 repeat refine⟨rfl,?_⟩
 refine⟨Nat,λ i=>[(0,.slice a len cap),(1,.slice a' len' cap'),(9,.slice a len cap),(10,.int .i64 len),(11,.int .i64 i)],
  λ i Z'=>Z'=Z/\i<=len/\i<=len'/\cmpL l l'=cmpL (l.drop i) (l'.drop i),λ i=>len-i,0,⟨rfl,rfl,rfl,rfl,rfl,trivial⟩,⟨rfl,by omega,by omega,by simp⟩,?_⟩
 rintro i f _ ⟨rfl,hi,hi',hinv⟩
 repeat refine⟨rfl,?_⟩
 conv=>whnf
 apply cb_split<;>intro hc
 ·have hlt:i<len:=by simpa using hc
  obtain⟨ad,x,hx,rfl,hsp,hs⟩:=hl.at hlt
  refine⟨ad,i,⟨rfl,rfl,hlt⟩,?_⟩
  refine⟨_,hs,?_⟩
  repeat refine⟨rfl,?_⟩
  conv=>whnf
  apply cb_split<;>intro hc
  ·have hge:len'<=i:=by simp at hc;omega
   repeat refine⟨rfl,?_⟩
   conv=>whnf
   rw [hinv,drop_at hx,show l'.drop i=[] from List.drop_eq_nil_of_le (by omega)]
   exact⟨rfl,rfl⟩
  ·have hlt':i<len':=by simp at hc;omega
   obtain⟨ad',y,hy,rfl,hsp',hs'⟩:=hl'.at hlt'
   rw [drop_at hx,drop_at hy,cmpL] at hinv
   refine⟨ad',i,⟨rfl,rfl,hlt'⟩,?_⟩
   refine⟨_,hs',?_⟩
   refine⟨Tryz.k131.any,(Tryz.cmp_ok x y).go λ _=>?_⟩
   by_cases h1:x<y
   ·rw [if_pos h1] at hinv ⊢
    repeat refine⟨rfl,?_⟩
    conv=>whnf
    exact⟨by rw [hinv],rfl⟩
   ·rw [if_neg h1] at hinv ⊢
    by_cases h2:y<x
    ·rw [if_pos h2] at hinv ⊢
     repeat refine⟨rfl,?_⟩
     conv=>whnf
     exact⟨by rw [hinv],rfl⟩
    ·rw [if_neg h2] at hinv ⊢
     repeat refine⟨rfl,?_⟩
     refine⟨by unfold InR;omega,?_⟩
     conv=>whnf
     exact⟨rfl,i+1,⟨rfl,rfl,rfl,rfl,rfl,trivial⟩,⟨rfl,by omega,by omega,hinv⟩,by show _-_<_-_;omega⟩
 ·have hge:i=len:=by simp at hc;omega
  subst hge
  rw [show l.drop i=[] from List.drop_eq_nil_of_le (by omega)] at hinv
  repeat refine⟨rfl,?_⟩
  conv=>whnf
  apply cb_split<;>intro hc
  ·have hlt:i<len':=by simpa using hc
   obtain⟨ad',y,hy,rfl,hsp',hs'⟩:=hl'.at hlt
   rw [drop_at hy] at hinv
   repeat refine⟨rfl,?_⟩
   conv=>whnf
   exact⟨by rw [hinv];rfl,rfl⟩
  ·have hge:len'<=i:=by simpa using hc
   rw [show l'.drop i=[] from List.drop_eq_nil_of_le (by omega)] at hinv
   repeat refine⟨rfl,?_⟩
   conv=>whnf
   exact⟨by rw [hinv];rfl,rfl⟩
end Go.Proofs
namespace Go.TM
variable {T:Type} {P:Program} {S:Sys P T} {Z:View T}
theorem src_pairs {v:Value} {l:List (Int×Int)} {M₀:List Res} (h:Acc 80 2 v (l.flatMap encII) Z.M M₀):∃a cap,v=.slice a l.length cap/\RowsV Z a l.length 2 l λ p vs=>vs=encII p:=by
 obtain⟨a,len,cap,rfl,hl,hs⟩:=h.src
 have:len=l.length:=by
  have h2:=encII_len l
  have h3:l.length*2=len*2:=h2.symm.trans hl
  exact (Nat.eq_of_mul_eq_mul_right (by decide) h3).symm
 subst this
 refine⟨a,cap,rfl,rows_src (n:=2) (λ _=>rfl) hs ?_ (by decide)⟩
 rintro ad rfl
 rcases h with⟨h1,_⟩ | ⟨b,c,len,cap',h1,_⟩
 ·cases h1
 ·cases h1;rfl
def row2 (c:Array Value) (k:Nat) (x:Int×Int):Prop:=c[k*2]?=some (.int .i64 x.1)/\c[k*2+1]?=some (.int .i64 x.2)
theorem flat_at:∀{l:List (Int×Int)} {k:Nat} {x:Int×Int},l[k]?=some x->(l.flatMap encII)[k*2]?=some (.int .i64 x.1)/\(l.flatMap encII)[k*2+1]?=some (.int .i64 x.2)
 | y::l,0,x,h=>by simp at h;subst h;exact⟨rfl,rfl⟩
 | y::l,k+1,x,h=>by
  have:=flat_at (l:=l) (k:=k) (by simpa using h)
  rw [show (k+1)*2=k*2+1+1 by omega,show k*2+1+1+1=(k*2+1)+1+1 by omega]
  exact this
theorem flat_inv:∀{l:List (Int×Int)} {i:Nat} {v:Value},(l.flatMap encII)[i]?=some v->∃k x,l[k]?=some x/\((i=k*2/\v=.int .i64 x.1)\/(i=k*2+1/\v=.int .i64 x.2))
 | [],i,v,h=>by simp at h
 | y::l,0,v,h=>by
  have h:some (Value.int .i64 y.1)=some v:=h
  exact⟨0,y,rfl,.inl ⟨rfl,(Option.some.inj h).symm⟩⟩
 | y::l,1,v,h=>by
  have h:some (Value.int .i64 y.2)=some v:=h
  exact⟨0,y,rfl,.inr ⟨rfl,(Option.some.inj h).symm⟩⟩
 | y::l,i+2,v,h=>by
  obtain⟨k,x,h1,h2⟩:=flat_inv (l:=l) (i:=i) h
  exact⟨k+1,x,by simpa using h1,h2.imp (λ⟨a,b⟩=>⟨by omega,b⟩) λ⟨a,b⟩=>⟨by omega,b⟩⟩
theorem reads_row {b k:Nat} {e:TypeId} {c:Array Value} {M₀:List Res} {x:Int×Int} (hM:Z.M=.obj b (.cells c e (0,0))::M₀) (h:row2 c k x):Reads Z ((Addr.mk b 0 none).add (k*2)) (encII x):=by
 intro i v hv
 rw [add_none,add_none]
 have:i=0\/i=1:=by have:=(List.getElem?_eq_some_iff.1 hv).1;simp [encII] at this;omega
 refine⟨rfl,.inl ⟨c,e,(0,0),.inr (by rw [hM];exact List.mem_cons_self ..),?_⟩⟩
 rcases this with rfl | rfl
 ·simp [encII] at hv;subst hv;simpa using h.1
 ·simp [encII] at hv;subst hv;simpa using h.2
theorem lay_row {c:Array Value} {i:Nat} {x:Int×Int} (hi:i*2+1<c.size):row2 (layAt c (i*2) (encII x) 0) i x:=by
 constructor
 ·rw [layAt_get _ _ _ _ _ (by simp [encII];omega),if_pos (by simp [encII])];simp [encII]
 ·rw [layAt_get _ _ _ _ _ (by simp [encII];omega),if_pos (by simp [encII])];simp [encII]
theorem lay_other {c:Array Value} {i k:Nat} {x y:Int×Int} (hi:i*2+1<c.size) (hk:k≠i) (h:row2 c k y):row2 (layAt c (i*2) (encII x) 0) k y:=by
 constructor
 ·rw [layAt_get _ _ _ _ _ (by simp [encII];omega),if_neg (by simp [encII];omega)];exact h.1
 ·rw [layAt_get _ _ _ _ _ (by simp [encII];omega),if_neg (by simp [encII];omega)];exact h.2
end Go.TM
namespace Go.Proofs
open Go.TM
set_option maxRecDepth 100000
variable {T:Type} {S:TM.Sys Tryz.prog T} {Z:View T}
attribute [local irreducible] CallsV YieldV rngX
theorem Tryz.u52:Tryz.prog.underlying 52=some (.slice 80):=by kernel_rfl
theorem Tryz.i80:∃inf,Tryz.prog.info? 80=some inf/\inf.zero=some (.agg #[.int .i64 0,.int .i64 0]):=by
 have h1:(Tryz.prog.info? 80).map (·.zero)=some (some (.agg #[.int .i64 0,.int .i64 0])):=by kernel_rfl
 cases h:Tryz.prog.info? 80 with
 | none=>rw [h] at h1;cases h1
 | some inf=>rw [h] at h1;exact⟨inf,rfl,Option.some.inj h1⟩
theorem Tryz.clone2_ok (a:Option Addr) (len cap:Nat) (l:List (Int×Int)) (hl:RowsV Z a len 2 l λ p vs=>vs=encII p) (hlen:len<=400000) :
  CallsV S 133 #[.slice a len cap] (λ v Z'=>Acc 80 2 v (l.flatMap encII) Z'.M Z.M/\(∀x o,Z.I x=some o->Z'.I x=some o)/\Z'.tok=Z.tok) Z:=by
 refine CallsV.of (args:=[_]) Tryz.k133 Tryz.mixed (by simp) ?_
 have hll:=hl.1
 conv=>whnf
 refine raw_eqNil Tryz.u52 rfl ?_
 conv=>whnf
 apply cb_split<;>intro hc
 ·have ha:a=none:=by simpa using hc
  subst ha
  have:l=[]:=by
   cases l with
   | nil=>rfl
   | cons x r=>obtain⟨ad,vs,h,_⟩:=hl.2 0 x rfl;cases h
  subst this
  repeat refine⟨rfl,?_⟩
  conv=>whnf
  exact⟨.nil,λ _ _ h=>h,rfl⟩
 ·obtain⟨ad,rfl⟩:∃ad,a=some ad:=by cases a with | none=>cases hc | some ad=>exact⟨ad,rfl⟩
  conv=>whnf
  intro b5 hf5
  refine⟨_,.refl _,?_⟩
  conv=>whnf
  refine raw_app (v:=.slice (some ⟨b5,0,none⟩) 0 0) (cs:=[]) (new:=l.flatMap encII) (M₀:=Z.M) Tryz.sl52 rfl rfl .empty (.inr ⟨_,rfl,λ i v hv=>?_⟩) (by rw [encII_len,hll]) (by intro w hw;obtain⟨q,_,hq⟩:=List.mem_flatMap.1 hw;simp [encII] at hq;rcases hq with rfl | rfl <;> rfl) (by rw [encII_len];simp;omega) λ v' M' ha' _=>?_
  ·obtain⟨k,x,hx,h⟩:=flat_inv hv
   obtain⟨ad',vs,e,hsp,rfl,_,hr⟩:=hl.2 k x hx
   cases e
   rcases h with⟨rfl,rfl⟩ | ⟨rfl,rfl⟩
   ·have:=hr 0 _ rfl
    rw [add_add _ hsp] at this
    exact this.lg (lg_put b5 _)
   ·have:=hr 1 _ rfl
    rw [add_add _ hsp] at this
    exact this.lg (lg_put b5 _)
  obtain⟨ta,tl,tc,rfl,-,-⟩:=Acc.src (Z:={ Z with M:=M' }) ha'
  repeat refine⟨rfl,?_⟩
  conv=>whnf
  exact⟨by simpa using ha',λ _ _ h=>h,rfl⟩
theorem zeroC2 (n:Nat):∀w∈(Builtin.zeroCells (Value.agg #[.int .i64 0,.int .i64 0]).cells n).toList,w.single=true:=by
 intro w hw
 simp only [Builtin.zeroCells,Value.cells,Array.toList_map,List.mem_map] at hw
 obtain⟨i,_,rfl⟩:=hw
 have:i % 2=0\/i % 2=1:=by omega
 show (#[Value.int .i64 0,.int .i64 0][i % 2]!).single=true
 rcases this with h | h <;> rw [h] <;> rfl
theorem Tryz.delete2_ok (v:Value) (l:List (Int×Int)) (M₀:List Res) (ha:Acc 80 2 v (l.flatMap encII) Z.M M₀) (hlen:l.length<=400000) (g:FuncId) (first capt:Array Value) (p:Int×Int->Bool)
  (hg:(Tryz.prog.funcs[g]?.any λ fd=>fd.body.isSome && fd.name != "runtime.NumGoroutine")=true)
  (hask:∀Z1,Z.frz.lg Z1->∀x∈l,CallsV S g (first.toList++[Value.agg (encII x).toArray]++capt.toList).toArray (λ v Z'=>v=.bool (p x)/\Z'=Z1) Z1) :
  CallsV S 132 #[v,.func (.func g) first capt] (λ v' Z'=>Acc 80 2 v' ((l.filter λ x=>!p x).flatMap encII) Z'.M M₀/\(∀x o,Z.I x=some o->Z'.I x=some o)/\Z'.tok=Z.tok) Z:=by
 obtain⟨sa,sc,rfl,hli⟩:=src_pairs ha
 refine CallsV.of (args:=[_,_]) Tryz.k132 Tryz.mixed (by simp) ?_
 refine⟨Tryz.k135.any,(Tryz.idxP_ok encII sa l.length sc l hli (by omega) g first capt p ⟨hg,λ n hn=>hask Z frz_self n hn⟩).go λ _=>?_⟩
 rcases idxV_cases p l with⟨hi,hno⟩ | ⟨i0,x0,hi,hx_0,hpx,hno⟩
 ·rw [hi]
  repeat refine⟨rfl,?_⟩
  refine⟨?_,λ _ _ h=>h,rfl⟩
  rw [List.filter_eq_self.2 λ n hn=>by simp [hno n hn]]
  exact ha
 ·have hi_0:i0<l.length:=(List.getElem?_eq_some_iff.1 hx_0).1
  rcases ha with⟨h1,h2,_⟩ | ⟨b,c,len,cap,h1,h2,h3,h4,hM,h5⟩
  ·have:=encII_len l;rw [h2] at this;simp at this;omega
  rw [encII_len] at h2
  obtain rfl:len=l.length:=(Nat.eq_of_mul_eq_mul_right (by decide) h2).symm
  cases h1
  rw [hi]
  have h5:∀k x,l[k]?=some x->row2 c k x:=λ k x hx=>⟨h5 _ _ (flat_at hx).1,h5 _ _ (flat_at hx).2⟩
  repeat refine⟨rfl,?_⟩
  refine⟨by unfold InR;omega,?_⟩
  refine⟨Nat×Nat×Array Value,λ y=>[(0,.slice (some ⟨b,0,none⟩) l.length sc),(1,.func (.func g) first capt),(5,.int .i64 y.2.1),(6,.int .i64 y.1)],
   λ y Z'=>(∀x o,Z.I x=some o->Z'.I x=some o)/\Z'.tok=Z.tok/\Z'.M=.obj b (.cells y.2.2 80 (0,0))::M₀/\y.2.2.size=sc*2/\y.1<=l.length/\y.2.1<y.1/\((l.take y.1).filter λ n=>!p n).length=y.2.1 /\
    (∀(k:Nat) x,((l.take y.1).filter λ n=>!p n)[k]?=some x->row2 y.2.2 k x)/\(∀(k:Nat) x,y.1<=k->l[k]?=some x->row2 y.2.2 k x),
   λ y=>l.length-y.1,(i0+1,i0,c),⟨rfl,rfl,rfl,rfl,trivial⟩,?_,?_⟩
  ·have hk:(l.take (i0+1)).filter (λ n=>!p n)=l.take i0:=by
    rw [take_at hx_0,List.filter_append,List.filter_eq_self.2 λ n hn=>by simp [hno n hn]]
    simp [hpx]
   refine⟨λ _ _ h=>h,rfl,hM,by show c.size=sc*2;omega,by simp only;omega,by simp only;omega,by simp only [hk];simp;omega,λ k x hx=>?_,λ k x _ hx=>h5 k _ hx⟩
   simp only [hk] at hx
   rw [List.getElem?_take] at hx
   split at hx
   ·exact h5 k _ hx
   ·cases hx
  rintro⟨j,i,c'⟩ f Z1 ⟨hI,ht,hM_1,hsz,hj,hij,hkl,hk1,hk2⟩
  simp only at hM_1 hsz hj hij hkl hk1 hk2
  have hfl:Z.frz.lg Z1:=⟨hI,⟨_,(List.append_nil _).symm⟩,ht⟩
  repeat refine⟨rfl,?_⟩
  conv=>whnf
  apply cb_split<;>intro hc
  ·have hlt:j<l.length:=by simpa using hc
   have hx:l[j]?=some (l[j]'hlt):=by simp
   generalize l[j]'hlt=x at hx
   have hjn:InR (j+1):=by unfold InR;omega
   have hin:InR (i+1):=by unfold InR;omega
   refine⟨_,j,⟨rfl,rfl,hlt⟩,?_⟩
   refine⟨encII x,⟨rfl,reads_row hM_1 (hk2 j x (Nat.le_refl _) hx)⟩,?_⟩
   conv=>whnf
   intro b7 hf7
   refine⟨_,.refl _,?_⟩
   refine⟨rfl,st_new (vs:=encII x) hf7 rfl (by simp [encII,Value.single]) λ Z2 h_2 hb_7=>?_⟩
   have hM2:=h_2.own.trans hM_1
   have hfl:=frz_le hfl h_2
   have hI_2:∀x o,Z.I x=some o->Z2.I x=some o:=hfl.imm
   have ht_2:Z2.tok=Z.tok:=hfl.tok
   refine⟨encII x,⟨rfl,Blk.rdI hb_7 (λ _ _ h=>h)⟩,?_⟩
   refine⟨hg,(hask Z2 hfl x (List.mem_of_getElem? hx)).go λ _=>?_⟩
   repeat refine⟨rfl,?_⟩
   conv=>whnf
   apply cb_split<;>intro hc
   ·have hp:p x=false:=by simpa using hc
    have hkx:(l.take (j+1)).filter (λ n=>!p n)=(l.take j).filter (λ n=>!p n)++[x]:=by
     rw [take_at hx,List.filter_append];simp [hp]
    refine⟨encII x,⟨rfl,Blk.rdI hb_7 (λ _ _ h=>h)⟩,?_⟩
    refine⟨_,i,⟨rfl,rfl,by omega⟩,?_⟩
    refine⟨rfl,?_⟩
    show StV ((Addr.mk b 0 none).add (i*2)) (encII x) 0 _ _
    rw [add_none,Nat.zero_add]
    refine stv_mid (M₀:=M₀) (e:=80) [] (encII x) 0 c' _ hM2 (by simp [encII,Value.single]) (by simp [encII];omega) ⟨_,.refl _,?_⟩
    have hrow:i*2+1<c'.size:=by omega
    refine⟨hin,?_⟩
    refine⟨hjn,?_⟩
    refine⟨rfl,(j+1,i+1,layAt c' (i*2) (encII x) 0),⟨rfl,rfl,rfl,rfl,trivial⟩,⟨hI_2,ht_2,rfl,by show (layAt _ _ _ _).size=_;rw [layAt_size];exact hsz,by simp only;omega,by simp only;omega,by simp only [hkx];simp [hkl],λ k y hy=>?_,λ k y hk hy=>?_⟩,by show _-_<_-_;omega⟩
    ·simp only [hkx] at hy
     by_cases e:k<i
     ·rw [List.getElem?_append_left (by omega)] at hy
      exact lay_other hrow (by omega) (hk1 k y hy)
     ·rw [List.getElem?_append_right (by omega),hkl] at hy
      have:k=i:=by
       have:=(List.getElem?_eq_some_iff.1 hy).1
       simp at this;omega
      subst this
      simp at hy
      subst hy
      exact lay_row hrow
    ·simp only at hk
     exact lay_other hrow (by omega) (hk2 k y (by omega) hy)
   ·have hp:p x=true:=by simpa using hc
    have hkx:(l.take (j+1)).filter (λ n=>!p n)=(l.take j).filter (λ n=>!p n):=by
     rw [take_at hx,List.filter_append];simp [hp]
    refine⟨hjn,?_⟩
    refine⟨rfl,(j+1,i,c'),⟨rfl,rfl,rfl,rfl,trivial⟩,⟨hI_2,ht_2,hM2,hsz,by simp only;omega,by simp only;omega,by simp only [hkx];exact hkl,λ k y hy=>hk1 k y (by simpa only [hkx] using hy),λ k y hk hy=>hk2 k y (by simp only at hk;omega) hy⟩,by show _-_<_-_;omega⟩
  ·have hge:l.length<=j:=by simpa using hc
   rw [List.take_of_length_le hge] at hkl hk1
   refine⟨i,l.length,⟨rfl,rfl,by omega,by omega⟩,?_⟩
   have hadr:(if sc=i then some (Addr.mk b 0 none) else (some (Addr.mk b 0 none)).map (·.add (i*2)))=some ⟨b,i*2,none⟩:=by
    rw [if_neg (by omega)];simp [add_none]
   rw [hadr]
   conv=>whnf
   obtain⟨inf,hi1,hi2⟩:=Tryz.i80
   refine raw_clear (len:=l.length-i) (cap:=sc-i) (off:=i*2) (b:=b) Tryz.u52 hi1 hi2 (n:=2) rfl (zeroC2 _) rfl hM_1 (by omega) ?_
   refine⟨0,i,⟨rfl,rfl,by omega,by omega⟩,?_⟩
   have hadr2:(if sc=0 then some (Addr.mk b 0 none) else (some (Addr.mk b 0 none)).map (·.add (0*2)))=some ⟨b,0,none⟩:=by
    rw [if_neg (by omega)];simp [add_none]
   rw [hadr2]
   repeat refine⟨rfl,?_⟩
   refine⟨?_,hI,ht⟩
   refine .inr ⟨b,_,i,sc,rfl,by rw [encII_len,hkl],by omega,by rw [layAt_size];omega,rfl,λ k v hv=>?_⟩
   obtain⟨q,x,hx,h⟩:=flat_inv hv
   have hq:q<i:=by have:=(List.getElem?_eq_some_iff.1 hx).1;omega
   rw [layAt_get _ _ _ _ _ (by rw [clear_zero (n:=2) rfl];omega),if_neg (by omega)]
   rcases h with⟨rfl,rfl⟩ | ⟨rfl,rfl⟩
   ·exact (hk1 q x hx).1
   ·exact (hk1 q x hx).2
theorem Tryz.shareP_ok (b:Nat) (p q:Int×Int) (hb:Blk Z b (encII p).toArray):CallsV S 134 #[.agg (encII q).toArray,.pointer (some ⟨b,0,none⟩)] (λ v Z'=>v=.bool (q.1 == p.1 || q.2 == p.2)/\Z'=Z) Z:=by
 refine CallsV.pure' (CallsV.of (args:=[_,_]) Tryz.k134 Tryz.mixed (by simp) ?_)
 have hb:Blk Z b #[.int .i64 p.1,.int .i64 p.2]:=hb
 repeat refine⟨rfl,?_⟩
 conv=>whnf
 intro b2 Z1 h_1 hb_2
 have hb_2:Blk Z1 b2 #[.int .i64 q.1,.int .i64 q.2]:=hb_2
 have hb:=hb.le h_1
 refine⟨_,hb_2.sees3 (o:=0) rfl,?_⟩
 refine⟨_,hb.sees3 (o:=0) rfl,?_⟩
 repeat refine⟨rfl,?_⟩
 conv=>whnf
 apply gb_split<;>intro hc
 ·have h1:(q.1 == p.1)=false:=by simpa using hc
  refine⟨_,hb_2.sees3 (o:=1) rfl,?_⟩
  refine⟨_,hb.sees3 (o:=1) rfl,?_⟩
  repeat refine⟨rfl,?_⟩
  conv=>whnf
  exact⟨by rw [h1];rfl,h_1.lg⟩
 ·have h1:(q.1 == p.1)=true:=by simpa using hc
  repeat refine⟨rfl,?_⟩
  conv=>whnf
  exact⟨by rw [h1];rfl,h_1.lg⟩
end Go.Proofs
namespace Go.TM
variable {T:Type} {P:Program} {S:Sys P T} {Z:View T}
def restP (p:Int×Int) (r:List (Int×Int)):List (Int×Int):=r.filter λ q=>!(q.1 == p.1 || q.2 == p.2)
def pickP (la:List Int) (need:Nat):List (Int×Int)->Option ((Int×Int)×List (Int×Int))
 | []=>none
 | p::r=>if need<=most la (restP p r) then some (p,restP p r) else pickP la need r
def proofL (la:List Int):Nat->List (Int×Int)->Option (List (Int×Int))
 | 0,_=>some []
 | n+1,ps=>match pickP la n ps with
  | none=>none
  | some x=>(proofL la n x.2).map (x.1::·)
theorem rows_drop {α:Type} {a:Option Addr} {len n cap i:Nat} {l:List α} {R:α->List Value->Prop} (h:RowsV Z a len n l R) (hi:i<=len) (hc:len<=cap):RowsV Z (if cap=i then a else a.map (·.add (i*n))) (len-i) n (l.drop i) R:=by
 refine⟨by rw [List.length_drop,h.1],λ k x hx=>?_⟩
 rw [List.getElem?_drop] at hx
 obtain⟨ad,vs,rfl,hsp,hr,hn,hv⟩:=h.2 _ x hx
 have hlt:i+k<len:=by have:=(List.getElem?_eq_some_iff.1 hx).1;rw [h.1] at this;exact this
 rw [if_neg (by omega)]
 refine⟨ad.add (i*n),vs,rfl,?_,hr,hn,?_⟩
 ·obtain⟨b,o,s⟩:=ad
  cases hsp
  rw [add_none]
 ·rw [add_add _ hsp,<- Nat.add_mul];exact hv
end Go.TM
namespace Go.Proofs
open Go.TM
set_option maxRecDepth 100000
variable {T:Type} {S:TM.Sys Tryz.prog T} {Z:View T}
attribute [local irreducible] CallsV YieldV rngX
theorem Tryz.proof_ok (h:TH) (k:KH) (tk:Talk) (ha:Ints Z.frz k.aa k.al tk.a) (hal:k.al<2 ^ 60) (v_0:Value) (ps0:List (Int×Int)) (hps:PairsN Z.frz v_0 ps0) (hpl:ps0.length<=1000) (many:Nat) (hmany:many<=1000) (L:List (Int×Int)) (hL:proofL tk.a many ps0=some L) :
  CallsV S 98 #[KH.v h k tk,v_0,.int .i64 many] (λ v Z'=>Acc 80 2 v (L.flatMap encII) Z'.M Z.M/\(∀x o,Z.I x=some o->Z'.I x=some o)/\Z'.tok=Z.tok) Z:=by
 obtain⟨pa0,pc0,rfl,hcap0,hrows₀⟩:=hps
 refine CallsV.of (args:=[_,_,_]) Tryz.k98 Tryz.mixed (by simp) ?_
 repeat refine⟨rfl,?_⟩
 conv=>whnf
 intro b3 Z1 h_1 hb_3
 have hb_3:Blk Z1 b3 (KH.cs h k tk).toArray:=hb_3
 refine⟨Value×Value×List (Int×Int)×Nat×List (Int×Int),λ y=>[(1,y.2.1),(2,.int .i64 many),(3,.pointer (some ⟨b3,0,none⟩)),(7,y.1)],
  λ y Z'=>(∀x o,Z1.I x=some o->Z'.I x=some o)/\Z'.tok=Z.tok/\Acc 80 2 y.1 (y.2.2.2.2.flatMap encII) Z'.M Z.M/\PairsN Z'.frz y.2.1 y.2.2.1/\y.2.2.1.length<=1000/\y.2.2.2.2.length+y.2.2.2.1=many/\∃L',proofL tk.a y.2.2.2.1 y.2.2.1=some L'/\L=y.2.2.2.2++L',
  λ y=>y.2.2.2.1,(.slice none 0 0,.slice pa0 ps0.length pc0,ps0,many,[]),⟨rfl,rfl,rfl,rfl,trivial⟩,⟨λ _ _ h=>h,h_1.tok,by rw [h_1.own];exact .nil,⟨pa0,pc0,rfl,hcap0,hrows₀.lg (frz_self.trans h_1.lg).frz2 λ _ _ h=>h⟩,hpl,by simp,L,hL,rfl⟩,?_⟩
 rintro⟨vo,vp,ps,n,out⟩ f Z2 ⟨hI_2,ht_2,hacc,hpn,hpl,hn,L',hL',hLo⟩
 simp only at hacc hpn hpl hn hL' hLo
 obtain⟨oa,oc,rfl,-⟩:=src_pairs hacc
 obtain⟨pa,pc,rfl,hcap,hrows⟩:=hpn
 have hf_2:Z.frz.lg Z2:=⟨λ x o h=>hI_2 x o (h_1.imm x o h),⟨_,(List.append_nil _).symm⟩,ht_2⟩
 repeat refine⟨rfl,?_⟩
 conv=>whnf
 apply cb_split<;>intro hc
 ·have hlt:out.length<many:=by simpa using hc
  obtain⟨n',rfl⟩:∃n',n=n'+1:=⟨n-1,by omega⟩
  rw [proofL] at hL'
  cases hpick:pickP tk.a n' ps with
  | none=>rw [hpick] at hL';cases hL'
  | some pr=>
  obtain⟨p_1,rest1⟩:=pr
  rw [hpick] at hL'
  simp only at hL'
  obtain⟨L1,hL1,rfl⟩:=Option.map_eq_some_iff.1 hL'
  repeat refine⟨rfl,?_⟩
  refine⟨Nat,λ j=>[(1,.slice pa ps.length pc),(2,.int .i64 many),(3,.pointer (some ⟨b3,0,none⟩)),(7,.slice oa out.length oc),(15,.slice pa ps.length pc),(16,.int .i64 ps.length),(17,.int .i64 j)],
   λ j Z'=>(∀x o,Z2.I x=some o->Z'.I x=some o)/\Z'.tok=Z.tok/\Z'.M=Z2.M/\j<=ps.length/\pickP tk.a n' (ps.drop j)=some (p_1,rest1),
   λ j=>ps.length-j,0,⟨rfl,rfl,rfl,rfl,rfl,rfl,rfl,trivial⟩,⟨λ _ _ h=>h,ht_2,rfl,by omega,by simpa using hpick⟩,?_⟩
  rintro j f Z3 ⟨hI3,ht3,hM3,hj,hpk⟩
  have hle_3:Z2.le Z3:=⟨hI3,hM3,ht3.trans ht_2.symm⟩
  have hf_3:Z.frz.lg Z3:=frz_le hf_2 hle_3
  repeat refine⟨rfl,?_⟩
  conv=>whnf
  apply cb_split<;>intro hc
  ·have hltj:j<ps.length:=by simpa using hc
   obtain⟨ad,p,vs,hx,hpa,hsp,rfl,-,hrd⟩:=RowsV.at hrows hltj
   rw [drop_at hx,pickP] at hpk
   have hjn:InR (j+1):=by unfold InR;omega
   have hf_23:Z2.frz.lg Z3:=frz_self.trans hle_3.lg
   refine⟨ad,j,⟨hpa,rfl,hltj⟩,?_⟩
   refine⟨encII p,⟨rfl,hrd.lg hf_23⟩,?_⟩
   conv=>whnf
   intro b9 hf9
   refine⟨_,.refl _,?_⟩
   refine⟨rfl,st_new (vs:=encII p) hf9 rfl (by simp [encII,Value.single]) λ Z4 h_4 hb_9=>?_⟩
   have hle_4:=hle_3.trans h_4
   refine⟨hjn,?_⟩
   refine⟨j+1,ps.length,⟨rfl,rfl,by omega,by omega⟩,?_⟩
   have hdr:=rows_drop (i:=j+1) (hrows.lg (frz_self.trans hle_4.lg) λ _ _ h=>h) (by omega) hcap
   generalize (if pc=j+1 then pa else pa.map (·.add ((j+1)*2)))=da at hdr ⊢
   refine⟨Tryz.k133.any,(Tryz.clone2_ok da (ps.length-(j+1)) (pc-(j+1)) (ps.drop (j+1)) hdr (by omega)).mono ?_⟩
   rintro cv Z5 ⟨ha5,hI5,ht5⟩ -
   obtain⟨ca,cc,rfl,-⟩:=src_pairs ha5
   have hdel:=(Tryz.delete2_ok (S:=S) (Z:=Z5) _ (ps.drop (j+1)) Z4.M ha5 (by rw [List.length_drop];omega) 134 #[] #[.pointer (some ⟨b9,0,none⟩)] (λ q=>q.1 == p.1 || q.2 == p.2) Tryz.k134.any λ Z6 hl6 x _=>Tryz.shareP_ok b9 p x ((hb_9.imI hI5).imI hl6.imm)).sep
    (R':=λ v Z''=>Z4.le Z''/\PairsN Z''.frz v (restP p (ps.drop (j+1)))) λ v Z' hs ⟨h1,h2,h3⟩=>by
     obtain⟨Z'',k1,k2,k3⟩:=h1.pairsN (Z:=Z4) hs (λ x o h=>h2 x o (hI5 x o h)) (h3.trans ht5)
     exact⟨Z'',k1,k2,k3⟩
   refine⟨Tryz.k132.any,hdel.mono ?_⟩
   rintro _ Z6 ⟨hle_6,ra,rc,rfl,hrcap,hrr⟩ -
   have hle6':=hle_4.trans hle_6
   have hf_6:Z.frz.lg Z6.frz:=(frz_le hf_2 hle6').frz2
   have hb₃6:Blk Z6 b3 (KH.cs h k tk).toArray:=hb_3.imI λ x o h=>hle6'.imm x o (hI_2 x o h)
   have hrl:(restP p (ps.drop (j+1))).length<=1000:=by
    have h1:=List.length_filter_le (λ q:Int×Int=>!(q.1 == p.1 || q.2 == p.2)) (ps.drop (j+1))
    rw [List.length_drop] at h1
    unfold restP;omega
   refine⟨KH.cs h k tk,⟨rfl,Blk.rdI hb₃6 (λ _ _ h=>h)⟩,?_⟩
   refine⟨Tryz.k95.any,(Tryz.most_ok h k tk (ha.lg hf_6) hal ra _ rc (restP p (ps.drop (j+1))) hrr (by omega)).go λ _=>?_⟩
   repeat refine⟨rfl,?_⟩
   refine⟨by unfold InR;omega,?_⟩
   refine⟨by unfold InR;omega,?_⟩
   repeat refine⟨rfl,?_⟩
   conv=>whnf
   apply cb_split<;>intro hc
   ·have hge:n'<=most tk.a (restP p (ps.drop (j+1))):=by simp at hc;omega
    rw [if_pos hge] at hpk
    simp only [Option.some.injEq,Prod.mk.injEq] at hpk
    obtain⟨rfl,rfl⟩:=hpk
    refine⟨encII p,⟨rfl,Blk.rdI (hb_9.imI hle_6.imm) (λ _ _ h=>h)⟩,?_⟩
    conv=>whnf
    intro bn hfn
    refine put_new hfn λ Z7 h_7 hbn=>?_
    have hbn:Blk Z7 bn (encII p).toArray:=hbn
    have hle_7:=hle6'.trans h_7
    conv=>whnf
    refine raw_app (v:=.slice oa out.length oc) (cs:=out.flatMap encII) (new:=encII p) (M₀:=Z.M) Tryz.sl52 rfl rfl (by rw [hle_7.own];exact hacc) (.inr ⟨_,rfl,Blk.rdI hbn (λ _ _ h=>h)⟩) rfl (by simp [encII,Value.single]) (by rw [encII_len];show _+2<=_;omega) λ v' M' ha' _=>?_
    have ha':Acc 80 2 v' ((out++[p]).flatMap encII) M' Z.M:=by simpa using ha'
    obtain⟨ta,tc,rfl,-⟩:=src_pairs (Z:={ Z7 with M:=M' }) ha'
    refine⟨rfl,(_,_,restP p (ps.drop (j+1)),n',out++[p]),⟨rfl,rfl,rfl,rfl,trivial⟩,⟨λ x o h=>hle_7.imm x o (hI_2 x o h),hle_7.tok.trans ht_2,ha',⟨ra,rc,rfl,hrcap,hrr.lg (⟨h_7.imm,⟨[],rfl⟩,h_7.tok⟩:Z6.frz.lg ({ Z7 with M:=M' }:View T).frz) λ _ _ h=>h⟩,hrl,by simp;omega,L1,hL1,by rw [hLo];simp⟩,by show n'<n'+1;omega⟩
   ·have hlt2:¬n'<=most tk.a (restP p (ps.drop (j+1))):=by simp at hc;omega
    rw [if_neg hlt2] at hpk
    repeat refine⟨rfl,?_⟩
    refine⟨hjn,?_⟩
    refine⟨rfl,j+1,⟨rfl,rfl,rfl,rfl,rfl,rfl,rfl,trivial⟩,⟨hle6'.imm,hle6'.tok.trans ht_2,hle6'.own,by omega,hpk⟩,by show _-_<_-_;omega⟩
  ·have hge:ps.length<=j:=by simpa using hc
   rw [show ps.drop j=[] from List.drop_eq_nil_of_le hge] at hpk
   cases hpk
 ·have hge:¬out.length<many:=by simpa using hc
  obtain rfl:n=0:=by omega
  rw [proofL] at hL'
  cases hL'
  repeat refine⟨rfl,?_⟩
  conv=>whnf
  rw [hLo,List.append_nil]
  exact⟨hacc,hf_2.imm,ht_2⟩
end Go.Proofs
namespace Go.TM
def ga (l:List Int) (i:Nat):Int:=l.getD i 0
theorem ga_of {l:List Int} {i:Nat} {x:Int} (h:l[i]?=some x):ga l i=x:=by unfold ga;rw [List.getD_eq_getElem?_getD,h];rfl
theorem at_ga {l:List Int} {i:Nat} (h:i<l.length):l[i]?=some (ga l i):=by
 unfold ga;rw [List.getD_eq_getElem?_getD,List.getElem?_eq_getElem h];rfl
def sw (l:List Int) (i j:Nat):List Int:=(l.set i (ga l j)).set j (ga l i)
theorem sw_len (l:List Int) (i j:Nat):(sw l i j).length=l.length:=by unfold sw;simp
theorem ga_set {l:List Int} {i:Nat} (h:i<l.length) (x:Int) (k:Nat):ga (l.set i x) k=if k=i then x else ga l k:=by
 unfold ga
 rw [List.getD_eq_getElem?_getD,List.getD_eq_getElem?_getD,List.getElem?_set]
 by_cases e:i=k
 ·subst e;rw [if_pos rfl,if_pos h,if_pos rfl];rfl
 ·rw [if_neg e,if_neg λ h=>e h.symm]
theorem ga_sw {l:List Int} {i j:Nat} (hi:i<l.length) (hj:j<l.length) (k:Nat):ga (sw l i j) k=if k=j then ga l i else if k=i then ga l j else ga l k:=by
 unfold sw
 rw [ga_set (by simpa using hj),ga_set hi]
theorem sw_perm {l:List Int} {i j:Nat} (hi:i<l.length) (hj:j<l.length):(sw l i j).Perm l:=by
 unfold sw
 have e1:ga l i=l[i]:=ga_of (List.getElem?_eq_getElem hi)
 have e2:ga l j=l[j]:=ga_of (List.getElem?_eq_getElem hj)
 rw [e1,e2]
 exact List.set_set_perm hi hj
structure Mix (a b:Nat) (l l':List Int):Prop where
 perm:l'.Perm l
 out:∀k,k<a\/b<=k->ga l' k=ga l k
 ins:∀k,a<=k->k<b->∃m,a<=m/\m<b/\ga l' k=ga l m
theorem Mix.refl (a b:Nat) (l:List Int):Mix a b l l:=⟨.refl _,λ _ _=>rfl,λ k h1 h2=>⟨k,h1,h2,rfl⟩⟩
theorem Mix.len {a b:Nat} {l l':List Int} (h:Mix a b l l'):l'.length=l.length:=h.perm.length_eq
theorem Mix.trans {a b:Nat} {l l' l'':List Int} (h:Mix a b l l') (k:Mix a b l' l''):Mix a b l l'':=
 ⟨k.perm.trans h.perm,λ i hi=>(k.out i hi).trans (h.out i hi),λ i h1 h2=>by
  obtain⟨m,h3,h4,e⟩:=k.ins i h1 h2
  obtain⟨m',h5,h6,e'⟩:=h.ins m h3 h4
  exact⟨m',h5,h6,e.trans e'⟩⟩
theorem Mix.widen {a b a' b':Nat} {l l':List Int} (h:Mix a b l l') (h1:a'<=a) (h2:b<=b'):Mix a' b' l l':=
 ⟨h.perm,λ k hk=>h.out k (by omega),λ k h3 h4=>by
  by_cases e:a<=k/\k<b
  ·obtain⟨m,h5,h6,e⟩:=h.ins k e.1 e.2
   exact⟨m,by omega,by omega,e⟩
  ·exact⟨k,h3,h4,h.out k (by omega)⟩⟩
theorem Mix.sw {a b i j:Nat} {l:List Int} (hi:a<=i) (hi':i<b) (hj:a<=j) (hj':j<b) (hb:b<=l.length):Mix a b l (sw l i j):=by
 refine⟨sw_perm (by omega) (by omega),λ k hk=>?_,λ k h1 h2=>?_⟩
 ·rw [ga_sw (by omega) (by omega),if_neg (by omega),if_neg (by omega)]
 ·rw [ga_sw (by omega) (by omega)]
  by_cases e:k=j
  ·rw [if_pos e];exact⟨i,hi,hi',rfl⟩
  ·rw [if_neg e]
   by_cases e':k=i
   ·rw [if_pos e'];exact⟨j,hj,hj',rfl⟩
   ·rw [if_neg e'];exact⟨k,h1,h2,rfl⟩
def Srt (l:List Int) (a b:Nat):Prop:=∀i j,a<=i->i<j->j<b->ga l i<=ga l j
def Low (l:List Int) (a b c d:Nat):Prop:=∀i j,a<=i->i<b->c<=j->j<d->ga l i<=ga l j
theorem Low.mix_r {a b c d:Nat} {l l':List Int} (h:Low l a b c d) (hm:Mix c d l l') (ho:b<=c):Low l' a b c d:=λ i j h1 h2 h3 h4=>by
 obtain⟨m,h5,h6,e⟩:=hm.ins j h3 h4
 rw [e,hm.out i (by omega)]
 exact h i m h1 h2 h5 h6
theorem Low.mix_l {a b c d:Nat} {l l':List Int} (h:Low l a b c d) (hm:Mix a b l l') (ho:b<=c):Low l' a b c d:=λ i j h1 h2 h3 h4=>by
 obtain⟨m,h5,h6,e⟩:=hm.ins i h1 h2
 rw [e,hm.out j (by omega)]
 exact h m j h5 h6 h3 h4
theorem Low.sub {a b c d a' b' c' d':Nat} {l:List Int} (h:Low l a b c d) (h1:a<=a') (h2:b'<=b) (h3:c<=c') (h4:d'<=d):Low l a' b' c' d':=λ i j k1 k2 k3 k4=>h i j (by omega) (by omega) (by omega) (by omega)
theorem Srt.sub {a b a' b':Nat} {l:List Int} (h:Srt l a b) (h1:a<=a') (h2:b'<=b):Srt l a' b':=λ i j k1 k2 k3=>h i j (by omega) k2 (by omega)
theorem Srt.keep {a b c d:Nat} {l l':List Int} (h:Srt l a b) (hm:Mix c d l l') (ho:b<=c\/d<=a):Srt l' a b:=λ i j h1 h2 h3=>by
 rw [hm.out i (by omega),hm.out j (by omega)];exact h i j h1 h2 h3
theorem Low.keep {a b c d x y:Nat} {l l':List Int} (h:Low l a b c d) (hm:Mix x y l l') (h1:b<=x\/y<=a) (h2:d<=x\/y<=c):Low l' a b c d:=λ i j k1 k2 k3 k4=>by
 rw [hm.out i (by omega),hm.out j (by omega)];exact h i j k1 k2 k3 k4
theorem Srt.one (l:List Int) (a b:Nat) (h:b<=a+1):Srt l a b:=λ i j h1 h2 h3=>by omega
def Kid (p c:Nat):Prop:=c=2*p+1\/c=2*p+2
def Hp (l:List Int) (f lo hi:Nat):Prop:=∀p c,lo<=p->Kid p c->c<hi->ga l (f+c)<=ga l (f+p)
structure HpBut (l:List Int) (f lo hi r:Nat):Prop where
 hp:∀p c,lo<=p->p≠r->Kid p c->c<hi->ga l (f+c)<=ga l (f+p)
 up:∀p c,lo<=p->Kid p r->Kid r c->c<hi->ga l (f+c)<=ga l (f+p)
theorem HpBut.start {l:List Int} {f lo hi:Nat} (h:Hp l f (lo+1) hi):HpBut l f lo hi lo:=
 ⟨λ p c h1 h2 h3 h4=>h p c (by omega) h3 h4,λ p c h1 h2 _ _=>by unfold Kid at h2;omega⟩
theorem HpBut.step {l:List Int} {f lo hi r c:Nat} (h:HpBut l f lo hi r) (hr:lo<=r) (hk:Kid r c) (hc:c<hi) (hl:f+hi<=l.length) (hm:∀c',Kid r c'->c'<hi->ga l (f+c')<=ga l (f+c)) (hlt:ga l (f+r)<ga l (f+c)):HpBut (sw l (f+r) (f+c)) f lo hi c:=by
 have hrc:r<c:=by unfold Kid at hk;omega
 have get:∀k,ga (sw l (f+r) (f+c)) (f+k)=if k=c then ga l (f+r) else if k=r then ga l (f+c) else ga l (f+k):=λ k=>by
  rw [ga_sw (by omega) (by omega)]
  by_cases e:k=c
  ·subst e;simp
  ·by_cases e':k=r
   ·subst e';simp [e]
   ·rw [if_neg (by omega),if_neg (by omega),if_neg e,if_neg e']
 refine⟨λ p d h1 h2 h3 h4=>?_,λ p d h1 h2 h3 h4=>?_⟩
 ·rw [get,get,if_neg h2]
  by_cases e:p=r
  ·subst e
   rw [if_pos rfl]
   by_cases e':d=c
   ·rw [if_pos e'];omega
   ·rw [if_neg e',if_neg (by unfold Kid at h3;omega)];exact hm d h3 h4
  ·rw [if_neg e,if_neg (λ e'=>by subst e';unfold Kid at h3 hk;omega)]
   by_cases e':d=r
   ·subst e';rw [if_pos rfl];exact h.up p c h1 h3 hk hc
   ·rw [if_neg e'];exact h.hp p d h1 e h3 h4
 ·have hp:p=r:=by unfold Kid at h2 hk;omega
  subst hp
  have hcd:c<d:=by unfold Kid at h3;omega
  rw [get,get,if_neg (by omega),if_neg (by omega),if_neg (by omega),if_pos rfl]
  exact h.hp c d (by omega) (by omega) h3 h4
theorem HpBut.done {l:List Int} {f lo hi r:Nat} (h:HpBut l f lo hi r) (hm:∀c,Kid r c->c<hi->ga l (f+c)<=ga l (f+r)):Hp l f lo hi:=λ p c h1 h2 h3=>by
 by_cases e:p=r
 ·subst e;exact hm c h2 h3
 ·exact h.hp p c h1 e h2 h3
theorem Hp.top {l:List Int} {f hi:Nat} (h:Hp l f 0 hi):∀(c:Nat),c<hi->ga l (f+c)<=ga l f:=by
 intro c
 induction c using Nat.strongRecOn with
 | _ c ih=>
  intro hc
  by_cases e:c=0
  ·subst e;exact Int.le_refl _
  ·have hk:Kid ((c-1) / 2) c:=by unfold Kid;omega
   have h1:=h _ c (Nat.zero_le _) hk hc
   have h2:=ih ((c-1) / 2) (by omega) (by omega)
   omega
structure SB (l:List Int) (a i j:Nat):Prop where
 one:∀p q,a<=p->p<q->q<=i->p≠j->q≠j->ga l p<=ga l q
 two:∀q,j<q->q<=i->ga l j<=ga l q
theorem SB.start {l:List Int} {a i:Nat} (h:Srt l a i):SB l a i i:=⟨λ p q h1 h2 h3 _ h5=>h p q h1 h2 (by omega),λ q h1 h2=>by omega⟩
theorem SB.done {l:List Int} {a i j:Nat} (h:SB l a i j) (hj:a<=j) (hj':j<=i) (h0:j=a\/ga l (j-1)<=ga l j):Srt l a (i+1):=λ p q h1 h2 h3=>by
 by_cases e:q=j
 ·subst e
  rcases h0 with h0 | h0
  ·omega
  ·by_cases e':p=q-1
   ·rw [e'];exact h0
   ·have:=h.one p (q-1) h1 (by omega) (by omega) (by omega) (by omega);omega
 ·by_cases e':p=j
  ·subst e';exact h.two q h2 (by omega)
  ·exact h.one p q h1 h2 (by omega) e' e
theorem SB.step {l:List Int} {a i j:Nat} (h:SB l a i j) (hj:a<j) (hj':j<=i) (hl:j<l.length) (hlt:ga l j<ga l (j-1)):SB (sw l j (j-1)) a i (j-1):=by
 have get:∀k,ga (sw l j (j-1)) k=if k=j-1 then ga l j else if k=j then ga l (j-1) else ga l k:=ga_sw hl (by omega)
 refine⟨λ p q h1 h2 h3 h4 h5=>?_,λ q h1 h2=>?_⟩
 ·rw [get,get,if_neg h4,if_neg h5]
  by_cases e:p=j
  ·rw [if_pos e,if_neg (by omega)];exact h.one (j-1) q (by omega) (by omega) h3 (by omega) (by omega)
  ·rw [if_neg e]
   by_cases e':q=j
   ·rw [if_pos e'];exact h.one p (j-1) h1 (by omega) (by omega) e (by omega)
   ·rw [if_neg e'];exact h.one p q h1 h2 h3 e e'
 ·rw [get,get,if_pos rfl,if_neg (by omega)]
  by_cases e:q=j
  ·rw [if_pos e];omega
  ·rw [if_neg e];exact h.two q (by omega) h2
end Go.TM
namespace Go.TM
variable {T:Type} {Z:View T}
structure CntOn (Z₀:View T) (h:Nat) (n:Int) (M₁:List Res) (Z:View T):Prop where
 imm:∀x o,Z₀.I x=some o->Z.I x=some o
 tok:Z.tok=Z₀.tok
 mem:Z.M=.obj h (.cells #[.int .i64 n] 3 (0,0))::M₁
 non:0<=n
theorem CntOn.ints {Z₀ Z:View T} {h:Nat} {n:Int} {M₁:List Res} (k:CntOn Z₀ h n M₁ Z) {a:Option Addr} {len:Nat} {l:List Int} (hl:Ints ({ Z₀ with M:=M₁ }:View T) a len l):Ints Z a len l:=
 hl.lg ⟨k.imm,⟨[_],k.mem⟩,k.tok⟩
theorem CntOn.le {Z₀ Z Z':View T} {h:Nat} {n:Int} {M₁:List Res} (k:CntOn Z₀ h n M₁ Z) (hl:Z.le Z'):CntOn Z₀ h n M₁ Z':=
 ⟨λ x o g=>hl.imm x o (k.imm x o g),hl.tok.trans k.tok,hl.own.trans k.mem,k.non⟩
end Go.TM
namespace Go.Proofs
open Go.TM
set_option maxRecDepth 100000
variable {T:Type} {S:TM.Sys Tryz.prog T} {Z Z₀:View T}
attribute [local irreducible] CallsV YieldV rngX
theorem Tryz.order2_ok (a:Option Addr) (len cap:Nat) (l:List Int) (M₁:List Res) (hl:Ints ({ Z₀ with M:=M₁ }:View T) a len l) (hlen:len<2 ^ 40) (h:Nat) (n:Int) (hn:n<2 ^ 40) (hZ:CntOn Z₀ h n M₁ Z) (i j:Nat) (hi:i<len) (hj:j<len) :
  CallsV S 184 #[.slice a len cap,.int .i64 i,.int .i64 j,.pointer (some ⟨h,0,none⟩)] (λ v Z'=>∃(i' j':Nat) (n':Int),v=.tuple #[.int .i64 i',.int .i64 j']/\((i'=i/\j'=j)\/(i'=j/\j'=i))/\n'<=n+1/\CntOn Z₀ h n' M₁ Z') Z:=by
 refine CallsV.of (args:=[_,_,_,_]) Tryz.k184 Tryz.mixed (by simp) ?_
 have hs:=hZ.ints hl
 obtain⟨ad,x,hx,rfl,hsp,sx⟩:=hs.at hj
 obtain⟨ad',y,hy,e,hsp',sy⟩:=hs.at hi
 cases e
 refine⟨_,j,⟨rfl,rfl,hj⟩,?_⟩
 refine⟨_,sx,?_⟩
 refine⟨_,i,⟨rfl,rfl,hi⟩,?_⟩
 refine⟨_,sy,?_⟩
 conv=>whnf
 intro Z1 h_1 _
 have hZ:=hZ.le h_1
 refine⟨Tryz.k143.any,(Tryz.less_ok x y).go λ _=>?_⟩
 repeat refine⟨rfl,?_⟩
 conv=>whnf
 apply cb_split<;>intro hc
 ·refine⟨_,reads_at [] hZ.mem 0 _ rfl,?_⟩
  refine⟨by have:=hZ.non;unfold InR;omega,?_⟩
  refine⟨rfl,?_⟩
  show StV ⟨h,0,none⟩ [.int .i64 (n+1)] 0 _ _
  refine st_all [] hZ.mem rfl (by simp [Value.single]) ?_
  repeat refine⟨rfl,?_⟩
  conv=>whnf
  exact⟨j,i,n+1,rfl,.inr ⟨rfl,rfl⟩,Int.le_refl _,hZ.imm,hZ.tok,rfl,by have:=hZ.non;omega⟩
 ·repeat refine⟨rfl,?_⟩
  conv=>whnf
  exact⟨i,j,n,rfl,.inl ⟨rfl,rfl⟩,by omega,hZ⟩
theorem Tryz.median_ok (a:Option Addr) (len cap:Nat) (l:List Int) (M₁:List Res) (hl:Ints ({ Z₀ with M:=M₁ }:View T) a len l) (hlen:len<2 ^ 40) (h:Nat) (n:Int) (hn:n<2 ^ 30) (hZ:CntOn Z₀ h n M₁ Z) (i j k:Nat) (hi:i<len) (hj:j<len) (hk:k<len) :
  CallsV S 177 #[.slice a len cap,.int .i64 i,.int .i64 j,.int .i64 k,.pointer (some ⟨h,0,none⟩)] (λ v Z'=>∃(r:Nat) (n':Int),v=.int .i64 r/\(r=i\/r=j\/r=k)/\n'<=n+3/\CntOn Z₀ h n' M₁ Z') Z:=by
 refine CallsV.of (args:=[_,_,_,_,_]) Tryz.k177 Tryz.mixed (by simp) ?_
 refine⟨Tryz.k184.any,(Tryz.order2_ok a len cap l M₁ hl hlen h n (by omega) hZ i j hi hj).mono ?_⟩
 rintro _ Z1 ⟨i1,j1,n1,rfl,e1,k1,hZ_1⟩ -
 have hi1:i1<len:=by omega
 have hj1:j1<len:=by omega
 refine⟨Tryz.k184.any,(Tryz.order2_ok a len cap l M₁ hl hlen h n1 (by omega) hZ_1 j1 k hj1 hk).mono ?_⟩
 rintro _ Z2 ⟨j2,k2,n2,rfl,e2,k2',hZ_2⟩ -
 have hj2:j2<len:=by omega
 refine⟨Tryz.k184.any,(Tryz.order2_ok a len cap l M₁ hl hlen h n2 (by omega) hZ_2 i1 j2 hi1 hj2).mono ?_⟩
 rintro _ Z3 ⟨i3,j3,n3,rfl,e3,k3',hZ3⟩ -
 repeat refine⟨rfl,?_⟩
 conv=>whnf
 exact⟨j3,n3,rfl,by omega,by omega,hZ3⟩
theorem Tryz.medAdj_ok (a:Option Addr) (len cap:Nat) (l:List Int) (M₁:List Res) (hl:Ints ({ Z₀ with M:=M₁ }:View T) a len l) (hlen:len<2 ^ 40) (h:Nat) (n:Int) (hn:n<2 ^ 30) (hZ:CntOn Z₀ h n M₁ Z) (i:Nat) (hi0:1<=i) (hi:i+1<len) :
  CallsV S 176 #[.slice a len cap,.int .i64 i,.pointer (some ⟨h,0,none⟩)] (λ v Z'=>∃(r:Nat) (n':Int),v=.int .i64 r/\(i<=r+1/\r<=i+1)/\n'<=n+3/\CntOn Z₀ h n' M₁ Z') Z:=by
 refine CallsV.of (args:=[_,_,_]) Tryz.k176 Tryz.mixed (by simp) ?_
 refine⟨by unfold InR;omega,?_⟩
 refine⟨by unfold InR;omega,?_⟩
 have e1:(i:Int)-1=((i-1:Nat):Int):=by omega
 have e2:(i:Int)+1=((i+1:Nat):Int):=by omega
 rw [e1,e2]
 refine⟨Tryz.k177.any,(Tryz.median_ok a len cap l M₁ hl hlen h n hn hZ (i-1) i (i+1) (by omega) (by omega) hi).mono ?_⟩
 rintro _ Z1 ⟨r,n1,rfl,e,k1,hZ_1⟩ -
 repeat refine⟨rfl,?_⟩
 conv=>whnf
 exact⟨r,n1,rfl,by omega,k1,hZ_1⟩
theorem quo4 (n:Nat) (h:n<2 ^ 50):IntKind.wrap .i64 ((n:Int).tdiv 4)=((n / 4:Nat):Int):=by
 have e:(n:Int).tdiv 4=((n / 4:Nat):Int):=by rw [Int.tdiv_eq_ediv_of_nonneg (by omega)];omega
 rw [e,wrap_inR (by unfold InR;omega)]
theorem Tryz.pivot_ok (ad:Option Addr) (len cap:Nat) (l:List Int) (hl:Ints Z ad len l) (hlen:len<2 ^ 40) (a b:Nat) (hab:a+8<b) (hb:b<=len) :
  CallsV S 140 #[.slice ad len cap,.int .i64 a,.int .i64 b] (λ v Z'=>(∃(p:Nat) (k:Int),v=.tuple #[.int .i64 p,.int .i64 k]/\a<=p/\p<b)/\Z'=Z) Z:=by
 refine CallsV.pure' (Q:=λ v=>∃(p:Nat) (k:Int),v=.tuple #[.int .i64 p,.int .i64 k]/\a<=p/\p<b) (CallsV.of (args:=[_,_,_]) Tryz.k140 Tryz.mixed (by simp) ?_)
 refine⟨by unfold InR;omega,?_⟩
 have e1:(b:Int)-a=((b-a:Nat):Int):=by omega
 rw [e1]
 generalize hn:b-a=n
 conv=>whnf
 intro h9 hf9
 refine⟨_,.refl _,?_⟩
 have hZ:CntOn Z h9 0 Z.M (Z.put h9 (.cells #[.int .i64 0] 3)):=⟨(lg_put _ _).imm,rfl,rfl,Int.le_refl _⟩
 have hl_0:Ints ({ Z with M:=Z.M }:View T) ad len l:=hl
 generalize (Z.put h9 (.cells #[.int .i64 0] 3))=Z1 at hZ ⊢
 repeat refine⟨rfl,?_⟩
 refine⟨by decide,?_⟩
 rw [quo4 n (by omega)]
 refine⟨by unfold InR;omega,?_⟩
 refine⟨by unfold InR;omega,?_⟩
 rw [show (a:Int)+((n / 4:Nat):Int)*1=((a+n / 4*1:Nat):Int) by omega]
 repeat refine⟨rfl,?_⟩
 refine⟨by decide,?_⟩
 rw [quo4 n (by omega)]
 refine⟨by unfold InR;omega,?_⟩
 refine⟨by unfold InR;omega,?_⟩
 rw [show (a:Int)+((n / 4:Nat):Int)*2=((a+n / 4*2:Nat):Int) by omega]
 repeat refine⟨rfl,?_⟩
 refine⟨by decide,?_⟩
 rw [quo4 n (by omega)]
 refine⟨by unfold InR;omega,?_⟩
 refine⟨by unfold InR;omega,?_⟩
 rw [show (a:Int)+((n / 4:Nat):Int)*3=((a+n / 4*3:Nat):Int) by omega]
 generalize hi:a+n / 4*1=i
 generalize hj:a+n / 4*2=j
 generalize hk:a+n / 4*3=k
 have q1:a<i:=by omega
 have q2:i<j:=by omega
 have q3:j<k:=by omega
 have q4:k+1<b:=by omega
 repeat refine⟨rfl,?_⟩
 conv=>whnf
 rw [show decide ((n:Int) ≥ 8)=true from decide_eq_true (by omega)]
 repeat refine⟨rfl,?_⟩
 conv=>whnf
 apply cb_split<;>intro hc
 ·refine⟨Tryz.k176.any,(Tryz.medAdj_ok ad len cap l Z.M hl_0 hlen h9 0 (by omega) hZ i (by omega) (by omega)).mono ?_⟩
  rintro _ Z2 ⟨i2,m0,rfl,e0,u0,hZ0⟩ -
  refine⟨Tryz.k176.any,(Tryz.medAdj_ok ad len cap l Z.M hl_0 hlen h9 m0 (by omega) hZ0 j (by omega) (by omega)).mono ?_⟩
  rintro _ Z3 ⟨j2,m1,rfl,e1,u1,hZ1⟩ -
  refine⟨Tryz.k176.any,(Tryz.medAdj_ok ad len cap l Z.M hl_0 hlen h9 m1 (by omega) hZ1 k (by omega) (by omega)).mono ?_⟩
  rintro _ Z4 ⟨k2,m2,rfl,e2,u2,hZ2⟩ -
  refine⟨Tryz.k177.any,(Tryz.median_ok ad len cap l Z.M hl_0 hlen h9 m2 (by omega) hZ2 i2 j2 k2 (by omega) (by omega) (by omega)).mono ?_⟩
  rintro _ Z9 ⟨r,m9,rfl,e_9,u_9,hZ9⟩ -
  have hlg:Z.lg Z9:=⟨hZ9.imm,⟨[_],hZ9.mem⟩,hZ9.tok⟩
  refine⟨_,reads_at [] hZ9.mem 0 _ rfl,?_⟩
  repeat refine⟨rfl,?_⟩
  conv=>whnf
  apply cb_split<;>intro hc
  ·repeat refine⟨rfl,?_⟩
   conv=>whnf
   exact⟨⟨r,1,rfl,by omega,by omega⟩,hlg⟩
  repeat refine⟨rfl,?_⟩
  conv=>whnf
  apply cb_split<;>intro hc
  ·repeat refine⟨rfl,?_⟩
   conv=>whnf
   exact⟨⟨r,2,rfl,by omega,by omega⟩,hlg⟩
  repeat refine⟨rfl,?_⟩
  conv=>whnf
  exact⟨⟨r,0,rfl,by omega,by omega⟩,hlg⟩
 refine⟨Tryz.k177.any,(Tryz.median_ok ad len cap l Z.M hl_0 hlen h9 0 (by omega) hZ i j k (by omega) (by omega) (by omega)).mono ?_⟩
 rintro _ Z9 ⟨r,m9,rfl,e_9,u_9,hZ9⟩ -
 have hlg:Z.lg Z9:=⟨hZ9.imm,⟨[_],hZ9.mem⟩,hZ9.tok⟩
 refine⟨_,reads_at [] hZ9.mem 0 _ rfl,?_⟩
 repeat refine⟨rfl,?_⟩
 conv=>whnf
 apply cb_split<;>intro hc
 ·repeat refine⟨rfl,?_⟩
  conv=>whnf
  exact⟨⟨r,1,rfl,by omega,by omega⟩,hlg⟩
 repeat refine⟨rfl,?_⟩
 conv=>whnf
 apply cb_split<;>intro hc
 ·repeat refine⟨rfl,?_⟩
  conv=>whnf
  exact⟨⟨r,2,rfl,by omega,by omega⟩,hlg⟩
 repeat refine⟨rfl,?_⟩
 conv=>whnf
 exact⟨⟨r,0,rfl,by omega,by omega⟩,hlg⟩
end Go.Proofs
namespace Go.TM
variable {T:Type} {Z Z₀:View T}
structure ArrOn (Z₀:View T) (b cap:Nat) (M₀:List Res) (l:List Int) (Z:View T):Prop where
 imm:∀x o,Z₀.I x=some o->Z.I x=some o
 tok:Z.tok=Z₀.tok
 mem:∃c:Array Value,Z.M=.obj b (.cells c 3 (0,0))::M₀/\c.size=cap/\CellsI c l
theorem ArrOn.le {b cap:Nat} {M₀:List Res} {l:List Int} {Z Z':View T} (h:ArrOn Z₀ b cap M₀ l Z) (hl:Z.le Z'):ArrOn Z₀ b cap M₀ l Z':=
 ⟨λ x o g=>hl.imm x o (h.imm x o g),hl.tok.trans h.tok,let ⟨c,h1,h2⟩:=h.mem;⟨c,hl.own.trans h1,h2⟩⟩
theorem ArrOn.at {b cap:Nat} {M₀:List Res} {l:List Int} {Z:View T} (h:ArrOn Z₀ b cap M₀ l Z) {k:Nat} (hk:k<l.length):Z.sees ((Addr.mk b 0 none).add (k*1)) (.int .i64 (ga l k)):=
 let ⟨_,h1,_,h3⟩:=h.mem;sees_at h1 (h3 k _ (at_ga hk))
theorem ArrOn.st {b cap:Nat} {M₀:List Res} {l:List Int} {Z:View T} {Q:View T->Prop} (h:ArrOn Z₀ b cap M₀ l Z) (hc:l.length<=cap) (k:Nat) (x:Int) (hk:k<l.length) (hq:∀Z1,ArrOn Z₀ b cap M₀ (l.set k x) Z1->Q Z1) :
  StV ((Addr.mk b 0 none).add (k*1)) [.int .i64 x] 0 (λ Z'=>∃Z1,Shift Z' Z1/\Q Z1) Z:=by
 obtain⟨c,h1,h2,h3⟩:=h.mem
 rw [Nat.mul_one]
 exact st_at [] h1 (by omega) rfl (hq _ ⟨h.imm,h.tok,_,rfl,by simpa using h2,h3.set (by omega) k x⟩)
theorem ArrOn.ints {b cap:Nat} {M₀:List Res} {l:List Int} {Z:View T} (h:ArrOn Z₀ b cap M₀ l Z):Ints Z (some ⟨b,0,none⟩) l.length l:=
 ⟨rfl,λ i x hx=>⟨_,rfl,rfl,by have:=h.at (List.getElem?_eq_some_iff.1 hx).1;rwa [ga_of hx] at this⟩⟩
end Go.TM
namespace Go.Proofs
open Go.TM
set_option maxRecDepth 100000
variable {T:Type} {S:TM.Sys Tryz.prog T} {Z Z₀:View T}
attribute [local irreducible] CallsV YieldV rngX
theorem Tryz.reverse_ok (b cap:Nat) (l:List Int) (M₀:List Res) (h:ArrOn Z₀ b cap M₀ l Z) (hc:l.length<=cap) (hn:l.length<2 ^ 40) (x y:Nat) (hxy:x<y) (hy:y<=l.length) :
  CallsV S 141 #[.slice (some ⟨b,0,none⟩) l.length cap,.int .i64 x,.int .i64 y] (λ _ Z'=>∃l',Mix x y l l'/\ArrOn Z₀ b cap M₀ l' Z') Z:=by
 refine CallsV.of (args:=[_,_,_]) Tryz.k141 Tryz.mixed (by simp) ?_
 repeat refine⟨rfl,?_⟩
 refine⟨by unfold InR;omega,?_⟩
 rw [show (y:Int)-1=((y-1:Nat):Int) by omega]
 refine⟨Nat×Nat×List Int,λ z=>[(0,.slice (some ⟨b,0,none⟩) l.length cap),(6,.int .i64 z.1),(7,.int .i64 z.2.1)],
  λ z Z'=>ArrOn Z₀ b cap M₀ z.2.2 Z'/\Mix x y l z.2.2/\x<=z.1/\z.2.1<y/\x<=z.2.1+1/\z.1<=y,λ z=>z.2.1+1-z.1,(x,y-1,l),⟨rfl,rfl,rfl,trivial⟩,⟨h,.refl ..,by simp only;omega,by simp only;omega,by simp only;omega,by simp only;omega⟩,?_⟩
 rintro⟨i,j,m⟩ f Z1 ⟨hA,hm,h1,h2,h3,h4⟩
 simp only at hA hm h1 h2 h3 h4
 have hml:=hm.len
 repeat refine⟨rfl,?_⟩
 conv=>whnf
 apply cb_split<;>intro hc
 ·have hlt:i<j:=by simpa using hc
  have hi:i<m.length:=by omega
  have hj:j<m.length:=by omega
  refine⟨λ Z'=>ArrOn Z₀ b cap M₀ (m.set i (ga m j)) Z',λ _ _ h hle=>h.le hle,?_⟩
  refine⟨_,j,⟨rfl,rfl,by omega⟩,?_⟩
  refine⟨_,hA.at hj,?_⟩
  refine⟨_,i,⟨rfl,rfl,by omega⟩,?_⟩
  refine⟨_,hA.at hi,?_⟩
  refine⟨_,i,⟨rfl,rfl,by omega⟩,?_⟩
  conv=>whnf
  intro Z4 h_4 _
  refine⟨⟨rfl,(hA.le h_4).st (by omega) i _ hi λ _ h=>⟨rfl,_,.refl _,h⟩⟩,λ Z5 hG=>?_⟩
  refine⟨_,j,⟨rfl,rfl,by omega⟩,?_⟩
  refine⟨rfl,hG.st (by simpa using (by omega:m.length<=cap)) j _ (by simpa using hj) λ Z6 hA6=>?_⟩
  refine⟨by unfold InR;omega,?_⟩
  refine⟨by show InR ((j:Int)-1);unfold InR;omega,?_⟩
  conv=>whnf
  exact⟨rfl,(i+1,j-1,sw m i j),⟨rfl,rfl,by show Value.int .i64 ((j:Int)-1)=.int .i64 ((j-1:Nat):Int);rw [show (j:Int)-1=((j-1:Nat):Int) by omega],trivial⟩,
   ⟨hA6,hm.trans (Mix.sw (by omega) (by omega) (by omega) (by omega) (by omega)),by simp only;omega,by simp only;omega,by simp only;omega,by simp only;omega⟩,by show (j-1)+1-(i+1)<j+1-i;omega⟩
 ·repeat refine⟨rfl,?_⟩
  conv=>whnf
  exact⟨m,hm,hA⟩
theorem Tryz.insort_ok (b cap:Nat) (l:List Int) (M₀:List Res) (h:ArrOn Z₀ b cap M₀ l Z) (hcap:l.length<=cap) (hn:l.length<2 ^ 40) (x y:Nat) (hxy:x<=y) (hy:y<=l.length) :
  CallsV S 137 #[.slice (some ⟨b,0,none⟩) l.length cap,.int .i64 x,.int .i64 y] (λ _ Z'=>∃l',Mix x y l l'/\Srt l' x y/\ArrOn Z₀ b cap M₀ l' Z') Z:=by
 refine CallsV.of (args:=[_,_,_]) Tryz.k137 Tryz.mixed (by simp) ?_
 repeat refine⟨rfl,?_⟩
 refine⟨by unfold InR;omega,?_⟩
 refine⟨Nat×List Int,λ z=>[(0,.slice (some ⟨b,0,none⟩) l.length cap),(1,.int .i64 x),(2,.int .i64 y),(6,.int .i64 z.1)],
  λ z Z'=>ArrOn Z₀ b cap M₀ z.2 Z'/\Mix x y l z.2/\Srt z.2 x z.1/\x<z.1/\z.1<2 ^ 41,
  λ z=>y-z.1,(x+1,l),⟨rfl,rfl,rfl,rfl,trivial⟩,⟨h,.refl ..,.one _ _ _ (Nat.le_refl _),by simp only;omega,by simp only;omega⟩,?_⟩
 rintro⟨i,m⟩ f Z1 ⟨hA,hm,hst,hi1,hi2⟩
 simp only at hA hm hst hi1 hi2
 repeat refine⟨rfl,?_⟩
 conv=>whnf
 apply cb_split<;>intro hc
 ·have hlt:i<y:=by simpa using hc
  have hin:InR ((i:Int)+1):=by unfold InR;omega
  refine⟨Nat×List Int,λ z=>[(0,.slice (some ⟨b,0,none⟩) l.length cap),(1,.int .i64 x),(2,.int .i64 y),(6,.int .i64 i),(7,.int .i64 z.1)],
   λ z Z'=>ArrOn Z₀ b cap M₀ z.2 Z'/\Mix x y l z.2/\SB z.2 x i z.1/\x<=z.1/\z.1<=i,
   λ z=>z.1,(i,m),⟨rfl,rfl,rfl,rfl,rfl,trivial⟩,⟨hA,hm,.start hst,by simp only;omega,by simp only;omega⟩,?_⟩
  clear hA hm hst
  rintro⟨j,m⟩ f Z2 ⟨hA,hm,hsb,hj0,hj⟩
  simp only at hA hm hsb hj0 hj
  have hml:=hm.len
  have hjm:j<m.length:=by omega
  repeat refine⟨rfl,?_⟩
  conv=>whnf
  apply gb_split<;>intro hc
  ·have h0:x<j:=by simp at hc;omega
   have hi1:InR ((j:Int)-1):=by unfold InR;omega
   have hj1:(j:Int)-1=((j-1:Nat):Int):=by omega
   have hjm1:j-1<m.length:=by omega
   repeat refine⟨rfl,?_⟩
   refine⟨_,j,⟨rfl,rfl,by omega⟩,?_⟩
   refine⟨_,hA.at hjm,?_⟩
   repeat refine⟨rfl,?_⟩
   refine⟨hi1,?_⟩
   refine⟨_,j-1,⟨rfl,hj1,by omega⟩,?_⟩
   refine⟨_,hA.at hjm1,?_⟩
   conv=>whnf
   intro Z3 h_3 _
   have hA:=hA.le h_3
   refine⟨Tryz.k143.any,(Tryz.less_ok (ga m j) (ga m (j-1))).go λ _=>?_⟩
   repeat refine⟨rfl,?_⟩
   conv=>whnf
   apply cb_split<;>intro hc
   ·have hxy:ga m j<ga m (j-1):=of_decide_eq_true hc
    refine⟨λ Z'=>ArrOn Z₀ b cap M₀ (m.set j (ga m (j-1))) Z',λ _ _ h hle=>h.le hle,?_⟩
    refine⟨hi1,?_⟩
    refine⟨hi1,?_⟩
    refine⟨_,j-1,⟨rfl,hj1,by omega⟩,?_⟩
    refine⟨_,hA.at hjm1,?_⟩
    refine⟨_,j,⟨rfl,rfl,by omega⟩,?_⟩
    refine⟨_,hA.at hjm,?_⟩
    refine⟨_,j,⟨rfl,rfl,by omega⟩,?_⟩
    conv=>whnf
    intro Z4 h_4 _
    refine⟨⟨rfl,(hA.le h_4).st (by omega) j _ hjm λ _ h=>⟨rfl,_,.refl _,h⟩⟩,λ Z5 hG=>?_⟩
    refine⟨_,j-1,⟨rfl,hj1,by omega⟩,?_⟩
    refine⟨rfl,hG.st (by simpa using (by omega:m.length<=cap)) (j-1) _ (by simpa using hjm1) λ Z6 hA6=>?_⟩
    refine⟨hi1,?_⟩
    conv=>whnf
    exact⟨rfl,(j-1,sw m j (j-1)),⟨rfl,rfl,rfl,rfl,by rw [<- hj1];rfl,trivial⟩,⟨hA6,hm.trans (Mix.sw (by omega) (by omega) (by omega) (by omega) (by omega)),hsb.step h0 hj hjm hxy,by simp only;omega,by simp only;omega⟩,by show j-1<j;omega⟩
   ·have hxy:¬ga m j<ga m (j-1):=of_decide_eq_false hc
    refine⟨hin,?_⟩
    conv=>whnf
    exact⟨rfl,(i+1,m),⟨rfl,rfl,rfl,rfl,trivial⟩,⟨hA,hm,hsb.done hj0 hj (.inr (by omega)),by simp only;omega,by simp only;omega⟩,by show _-_<_-_;omega⟩
  ·have h0:j=x:=by simp at hc;omega
   conv=>whnf
   intro Z3 h_3 _
   repeat refine⟨rfl,?_⟩
   refine⟨hin,?_⟩
   conv=>whnf
   exact⟨rfl,(i+1,m),⟨rfl,rfl,rfl,rfl,trivial⟩,⟨hA.le h_3,hm,hsb.done hj0 hj (.inl h0),by simp only;omega,by simp only;omega⟩,by show _-_<_-_;omega⟩
 ·have hge:y<=i:=by simpa using hc
  repeat refine⟨rfl,?_⟩
  conv=>whnf
  exact⟨m,hm,hst.sub (Nat.le_refl _) hge,hA⟩
theorem Tryz.sift_ok (b cap:Nat) (l:List Int) (M₀:List Res) (h:ArrOn Z₀ b cap M₀ l Z) (hcap:l.length<=cap) (hn:l.length<2 ^ 40) (lo hi f:Nat) (hf:f+hi<=l.length) (hlo:lo<2 ^ 40) (hh:Hp l f (lo+1) hi) :
  CallsV S 173 #[.slice (some ⟨b,0,none⟩) l.length cap,.int .i64 lo,.int .i64 hi,.int .i64 f] (λ _ Z'=>∃l',Mix f (f+hi) l l'/\Hp l' f lo hi/\ArrOn Z₀ b cap M₀ l' Z') Z:=by
 refine CallsV.of (args:=[_,_,_,_]) Tryz.k173 Tryz.mixed (by simp) ?_
 repeat refine⟨rfl,?_⟩
 refine⟨Nat×List Int,λ z=>[(0,.slice (some ⟨b,0,none⟩) l.length cap),(2,.int .i64 hi),(3,.int .i64 f),(8,.int .i64 z.1)],
  λ z Z'=>ArrOn Z₀ b cap M₀ z.2 Z'/\Mix f (f+hi) l z.2/\HpBut z.2 f lo hi z.1/\lo<=z.1/\z.1<2 ^ 40,
  λ z=>hi-z.1,(lo,l),⟨rfl,rfl,rfl,rfl,trivial⟩,⟨h,.refl ..,.start hh,by simp only;omega,by simp only;omega⟩,?_⟩
 rintro⟨r,m⟩ fm Z1 ⟨hA,hm,hb,hr,hr2⟩
 simp only at hA hm hb hr hr2
 have hml:=hm.len
 refine⟨by show InR (2*(r:Int));unfold InR;omega,?_⟩
 refine⟨by show InR (2*(r:Int)+1);unfold InR;omega,?_⟩
 rw [show (2*(r:Int)+1)=((2*r+1:Nat):Int) by omega]
 repeat refine⟨rfl,?_⟩
 conv=>whnf
 apply cb_split<;>intro hc
 ·have hge:hi<=2*r+1:=by have:=of_decide_eq_true hc;omega
  repeat refine⟨rfl,?_⟩
  conv=>whnf
  exact⟨m,hm,hb.done λ c k h=>by unfold Kid at k;omega,hA⟩
 have hch1:2*r+1<hi:=by have:=of_decide_eq_false hc;omega
 have hl1:f+(2*r+1)<m.length:=by omega
 repeat refine⟨rfl,?_⟩
 refine⟨by show InR (((2*r+1:Nat):Int)+1);unfold InR;omega,?_⟩
 repeat refine⟨rfl,?_⟩
 conv=>whnf
 by_cases h2:2*r+2<hi
 ·rw [show decide (((2*r+1:Nat):Int)+1<(hi:Int))=true from decide_eq_true (by omega)]
  have hl2:f+(2*r+1)+1<m.length:=by omega
  refine⟨by show InR ((f:Int)+((2*r+1:Nat):Int));unfold InR;omega,?_⟩
  refine⟨_,f+(2*r+1),⟨rfl,rfl,by omega⟩,?_⟩
  refine⟨_,hA.at hl1,?_⟩
  refine⟨by show InR ((f:Int)+((2*r+1:Nat):Int));unfold InR;omega,?_⟩
  refine⟨by show InR ((f:Int)+((2*r+1:Nat):Int)+1);unfold InR;omega,?_⟩
  refine⟨_,f+(2*r+1)+1,⟨rfl,rfl,by omega⟩,?_⟩
  refine⟨_,hA.at hl2,?_⟩
  conv=>whnf
  intro Z2 h_2 _
  have hA:=hA.le h_2
  refine⟨Tryz.k143.any,(Tryz.less_ok (ga m (f+(2*r+1))) (ga m (f+(2*r+1)+1))).go λ _=>?_⟩
  repeat refine⟨rfl,?_⟩
  conv=>whnf
  apply cb_split<;>intro hc
  ·have hlt:ga m (f+(2*r+1))<ga m (f+(2*r+1)+1):=of_decide_eq_true hc
   have hch:2*r+2<hi:=h2
   have hmx:∀c',Kid r c'->c'<hi->ga m (f+c')<=ga m (f+(2*r+2)):=λ c' k' _=>by
    rcases k' with rfl | rfl
    ·exact Int.le_of_lt hlt
    ·exact Int.le_refl _
   refine⟨by show InR (((2*r+1:Nat):Int)+1);unfold InR;omega,?_⟩
   rw [show ((2*r+1:Nat):Int)+1=((2*r+2:Nat):Int) by omega]
   have hk:Kid r (2*r+2):=.inr rfl
   have hcl:f+(2*r+2)<m.length:=by omega
   have hrl:f+r<m.length:=by omega
   refine⟨by show InR ((f:Int)+(r:Int));unfold InR;omega,?_⟩
   refine⟨_,f+r,⟨rfl,rfl,by omega⟩,?_⟩
   refine⟨_,hA.at hrl,?_⟩
   refine⟨by show InR ((f:Int)+((2*r+2:Nat):Int));unfold InR;omega,?_⟩
   refine⟨_,f+(2*r+2),⟨rfl,rfl,by omega⟩,?_⟩
   refine⟨_,hA.at hcl,?_⟩
   conv=>whnf
   intro Z3 h_3 _
   have hA:=hA.le h_3
   refine⟨Tryz.k143.any,(Tryz.less_ok (ga m (f+r)) (ga m (f+(2*r+2)))).go λ _=>?_⟩
   repeat refine⟨rfl,?_⟩
   conv=>whnf
   apply cb_split<;>intro hc
   ·have hge:¬ga m (f+r)<ga m (f+(2*r+2)):=by simpa using hc
    repeat refine⟨rfl,?_⟩
    conv=>whnf
    exact⟨m,hm,hb.done λ c' k' h'=>by have:=hmx c' k' h';omega,hA⟩
   ·have hlt:ga m (f+r)<ga m (f+(2*r+2)):=by simpa using hc
    refine⟨λ Z'=>ArrOn Z₀ b cap M₀ (m.set (f+r) (ga m (f+(2*r+2)))) Z',λ _ _ h hle=>h.le hle,?_⟩
    refine⟨by show InR ((f:Int)+(r:Int));unfold InR;omega,?_⟩
    refine⟨by show InR ((f:Int)+((2*r+2:Nat):Int));unfold InR;omega,?_⟩
    refine⟨by show InR ((f:Int)+((2*r+2:Nat):Int));unfold InR;omega,?_⟩
    refine⟨_,f+(2*r+2),⟨rfl,rfl,by omega⟩,?_⟩
    refine⟨_,hA.at hcl,?_⟩
    refine⟨by show InR ((f:Int)+(r:Int));unfold InR;omega,?_⟩
    refine⟨_,f+r,⟨rfl,rfl,by omega⟩,?_⟩
    refine⟨_,hA.at hrl,?_⟩
    refine⟨_,f+r,⟨rfl,rfl,by omega⟩,?_⟩
    conv=>whnf
    intro Z4 h_4 _
    refine⟨⟨rfl,(hA.le h_4).st (by omega) (f+r) _ hrl λ _ h=>⟨rfl,_,.refl _,h⟩⟩,λ Z5 hG=>?_⟩
    refine⟨_,f+(2*r+2),⟨rfl,rfl,by omega⟩,?_⟩
    refine⟨rfl,hG.st (by simpa using (by omega:m.length<=cap)) (f+(2*r+2)) _ (by simpa using hcl) λ Z6 hA6=>?_⟩
    conv=>whnf
    exact⟨rfl,(2*r+2,sw m (f+r) (f+(2*r+2))),⟨rfl,rfl,rfl,rfl,trivial⟩,⟨hA6,hm.trans (Mix.sw (by omega) (by omega) (by omega) (by omega) (by omega)),hb.step hr hk hch (by omega) hmx hlt,by simp only;unfold Kid at hk;omega,by simp only;omega⟩,by show hi-(2*r+2)<hi-r;unfold Kid at hk;omega⟩
  ·have hge:¬ga m (f+(2*r+1))<ga m (f+(2*r+1)+1):=of_decide_eq_false hc
   have hch:2*r+1<hi:=hch1
   have hmx:∀c',Kid r c'->c'<hi->ga m (f+c')<=ga m (f+(2*r+1)):=λ c' k' _=>by
    rcases k' with rfl | rfl
    ·exact Int.le_refl _
    ·exact Int.not_lt.1 hge
   have hk:Kid r (2*r+1):=.inl rfl
   have hcl:f+(2*r+1)<m.length:=by omega
   have hrl:f+r<m.length:=by omega
   refine⟨by show InR ((f:Int)+(r:Int));unfold InR;omega,?_⟩
   refine⟨_,f+r,⟨rfl,rfl,by omega⟩,?_⟩
   refine⟨_,hA.at hrl,?_⟩
   refine⟨by show InR ((f:Int)+((2*r+1:Nat):Int));unfold InR;omega,?_⟩
   refine⟨_,f+(2*r+1),⟨rfl,rfl,by omega⟩,?_⟩
   refine⟨_,hA.at hcl,?_⟩
   conv=>whnf
   intro Z3 h_3 _
   have hA:=hA.le h_3
   refine⟨Tryz.k143.any,(Tryz.less_ok (ga m (f+r)) (ga m (f+(2*r+1)))).go λ _=>?_⟩
   repeat refine⟨rfl,?_⟩
   conv=>whnf
   apply cb_split<;>intro hc
   ·have hge:¬ga m (f+r)<ga m (f+(2*r+1)):=by simpa using hc
    repeat refine⟨rfl,?_⟩
    conv=>whnf
    exact⟨m,hm,hb.done λ c' k' h'=>by have:=hmx c' k' h';omega,hA⟩
   ·have hlt:ga m (f+r)<ga m (f+(2*r+1)):=by simpa using hc
    refine⟨λ Z'=>ArrOn Z₀ b cap M₀ (m.set (f+r) (ga m (f+(2*r+1)))) Z',λ _ _ h hle=>h.le hle,?_⟩
    refine⟨by show InR ((f:Int)+(r:Int));unfold InR;omega,?_⟩
    refine⟨by show InR ((f:Int)+((2*r+1:Nat):Int));unfold InR;omega,?_⟩
    refine⟨by show InR ((f:Int)+((2*r+1:Nat):Int));unfold InR;omega,?_⟩
    refine⟨_,f+(2*r+1),⟨rfl,rfl,by omega⟩,?_⟩
    refine⟨_,hA.at hcl,?_⟩
    refine⟨by show InR ((f:Int)+(r:Int));unfold InR;omega,?_⟩
    refine⟨_,f+r,⟨rfl,rfl,by omega⟩,?_⟩
    refine⟨_,hA.at hrl,?_⟩
    refine⟨_,f+r,⟨rfl,rfl,by omega⟩,?_⟩
    conv=>whnf
    intro Z4 h_4 _
    refine⟨⟨rfl,(hA.le h_4).st (by omega) (f+r) _ hrl λ _ h=>⟨rfl,_,.refl _,h⟩⟩,λ Z5 hG=>?_⟩
    refine⟨_,f+(2*r+1),⟨rfl,rfl,by omega⟩,?_⟩
    refine⟨rfl,hG.st (by simpa using (by omega:m.length<=cap)) (f+(2*r+1)) _ (by simpa using hcl) λ Z6 hA6=>?_⟩
    conv=>whnf
    exact⟨rfl,(2*r+1,sw m (f+r) (f+(2*r+1))),⟨rfl,rfl,rfl,rfl,trivial⟩,⟨hA6,hm.trans (Mix.sw (by omega) (by omega) (by omega) (by omega) (by omega)),hb.step hr hk hch (by omega) hmx hlt,by simp only;unfold Kid at hk;omega,by simp only;omega⟩,by show hi-(2*r+1)<hi-r;unfold Kid at hk;omega⟩
 ·rw [show decide (((2*r+1:Nat):Int)+1<(hi:Int))=false from decide_eq_false (by omega)]
  have hch:2*r+1<hi:=hch1
  have hmx:∀c',Kid r c'->c'<hi->ga m (f+c')<=ga m (f+(2*r+1)):=λ c' k' h'=>by
   rcases k' with rfl | rfl
   ·exact Int.le_refl _
   ·omega
  conv=>whnf
  intro Z2 h_2 _
  have hA:=hA.le h_2
  have hk:Kid r (2*r+1):=.inl rfl
  have hcl:f+(2*r+1)<m.length:=by omega
  have hrl:f+r<m.length:=by omega
  refine⟨by show InR ((f:Int)+(r:Int));unfold InR;omega,?_⟩
  refine⟨_,f+r,⟨rfl,rfl,by omega⟩,?_⟩
  refine⟨_,hA.at hrl,?_⟩
  refine⟨by show InR ((f:Int)+((2*r+1:Nat):Int));unfold InR;omega,?_⟩
  refine⟨_,f+(2*r+1),⟨rfl,rfl,by omega⟩,?_⟩
  refine⟨_,hA.at hcl,?_⟩
  conv=>whnf
  intro Z3 h_3 _
  have hA:=hA.le h_3
  refine⟨Tryz.k143.any,(Tryz.less_ok (ga m (f+r)) (ga m (f+(2*r+1)))).go λ _=>?_⟩
  repeat refine⟨rfl,?_⟩
  conv=>whnf
  apply cb_split<;>intro hc
  ·have hge:¬ga m (f+r)<ga m (f+(2*r+1)):=by simpa using hc
   repeat refine⟨rfl,?_⟩
   conv=>whnf
   exact⟨m,hm,hb.done λ c' k' h'=>by have:=hmx c' k' h';omega,hA⟩
  ·have hlt:ga m (f+r)<ga m (f+(2*r+1)):=by simpa using hc
   refine⟨λ Z'=>ArrOn Z₀ b cap M₀ (m.set (f+r) (ga m (f+(2*r+1)))) Z',λ _ _ h hle=>h.le hle,?_⟩
   refine⟨by show InR ((f:Int)+(r:Int));unfold InR;omega,?_⟩
   refine⟨by show InR ((f:Int)+((2*r+1:Nat):Int));unfold InR;omega,?_⟩
   refine⟨by show InR ((f:Int)+((2*r+1:Nat):Int));unfold InR;omega,?_⟩
   refine⟨_,f+(2*r+1),⟨rfl,rfl,by omega⟩,?_⟩
   refine⟨_,hA.at hcl,?_⟩
   refine⟨by show InR ((f:Int)+(r:Int));unfold InR;omega,?_⟩
   refine⟨_,f+r,⟨rfl,rfl,by omega⟩,?_⟩
   refine⟨_,hA.at hrl,?_⟩
   refine⟨_,f+r,⟨rfl,rfl,by omega⟩,?_⟩
   conv=>whnf
   intro Z4 h_4 _
   refine⟨⟨rfl,(hA.le h_4).st (by omega) (f+r) _ hrl λ _ h=>⟨rfl,_,.refl _,h⟩⟩,λ Z5 hG=>?_⟩
   refine⟨_,f+(2*r+1),⟨rfl,rfl,by omega⟩,?_⟩
   refine⟨rfl,hG.st (by simpa using (by omega:m.length<=cap)) (f+(2*r+1)) _ (by simpa using hcl) λ Z6 hA6=>?_⟩
   conv=>whnf
   exact⟨rfl,(2*r+1,sw m (f+r) (f+(2*r+1))),⟨rfl,rfl,rfl,rfl,trivial⟩,⟨hA6,hm.trans (Mix.sw (by omega) (by omega) (by omega) (by omega) (by omega)),hb.step hr hk hch (by omega) hmx hlt,by simp only;unfold Kid at hk;omega,by simp only;omega⟩,by show hi-(2*r+1)<hi-r;unfold Kid at hk;omega⟩
end Go.Proofs
