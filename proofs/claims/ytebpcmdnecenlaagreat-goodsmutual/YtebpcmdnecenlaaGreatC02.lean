/- A part of the proof: lemmas that the last text uses. No conditions of its own. -/
import Derived.Test.YtebpcmdnecenlaaGreatC01
import Derived.Test.YtebpcmdnecenlaaGreatD47
import Derived.Test.YtebpcmdnecenlaaGreatD08
import Derived.Test.YtebpcmdnecenlaaGreatD09
import Derived.Test.YtebpcmdnecenlaaGreatD10
import Derived.Test.YtebpcmdnecenlaaGreatC00
set_option linter.unusedSimpArgs false
set_option linter.unusedVariables false
namespace Go.Proofs
open Go.TM
set_option maxRecDepth 100000
attribute [local irreducible] CallsV YieldV rngX
set_option maxHeartbeats 4000000 in
theorem Tryz.goodsMutual_top {σ:View Tk} (htok:σ.tok = ⟨0,.out⟩) (h:TH) (t:Tbl) (ht:TabV σ.frz h t) (fr:Nat) (hfr:fr < 256) (to:Nat) (hto:to < 256) (bits:Nat) (hbits:bits < 256) (ot:Nat) (hot:ot < 256) :
  J (SysG Tryz.prog 164 8) (Fin Tryz.prog fun v σ'=>v = .bool true ∧ σ.lg σ') true (Rf (Frame.enter Tryz.prog 16 #[h.v,.int .u8 fr,.int .u8 to,.int .u8 bits,.int .u8 ot] .normal) []) σ:=by
 refine top_of (args:=[_,_,_,_,_]) (Q:=fun v σ'=>v = .bool true ∧ σ.lg σ') Tryz.k16 Tryz.mixed (by kernel_rfl) (by simp) (fun v σ' q=>q.2.tok.trans htok) ?_
 (conv=>whnf);(repeat (refine ⟨rfl,?_⟩;conv=>whnf))
 intro b σ₁ hle1 hb
 have hb:Blk σ₁ b #[.slice h.ea h.el h.ec,.slice h.ma h.ml h.mc,.slice h.ka h.kl h.kc]:=hb
 have ht:=ht.lg hle1.frz2
 have stocks:∀ σ₂:View Tk,σ.le σ₂ → CallsV (SysG Tryz.prog 164 8) 26 #[] (fun v σ'=>v = .bool true ∧ σ' = σ₂) σ₂:=fun σ₂ h=>Tryz.stocks_ok (h.tok.trans htok)
 (conv=>whnf)
 refine ⟨_,⟨rfl,hb.rdT fun _ _ h=>h⟩,?_⟩
 (conv=>whnf)
 refine ⟨Tryz.k48.any,(Tryz.fit_ok h t (ht.lg frz_self)).mono ?_⟩
 rintro _ σ' ⟨⟨B,rfl,hB⟩,hσ'⟩ -
 obtain rfl:=hσ'.symm
 (conv=>whnf);(repeat (refine ⟨rfl,?_⟩;conv=>whnf))
 refine cb_split (fun hc=>?_) (fun hc=>?_)
 ·(conv=>whnf)
  refine ⟨Tryz.k26.any,(stocks _ hle1).mono ?_⟩
  rintro _ σ' ⟨rfl,hσ'⟩ -
  obtain rfl:=hσ'.symm
  (conv=>whnf);(repeat (refine ⟨rfl,?_⟩;conv=>whnf))
  exact hle1.lg
 have hf:t.flaw = 0:=hB (by simpa using hc)
 have hx:=Tbl.isEd_of hf fr
 have hy:=Tbl.isEd_of hf to
 have hA:=t.lst_chosen (t.edOf fr) bits
 have nA:=hA.len hf
 have hB:=t.lst_chosen (t.edOf to) ot
 have nB:=hB.len hf
 (conv=>whnf)
 refine ⟨_,⟨rfl,hb.rdT fun _ _ h=>h⟩,?_⟩
 (conv=>whnf)
 refine ⟨.int .i64 (t.edOf fr),fun σ' hle _=>?_,?_⟩
 ·(conv=>whnf)
  refine ⟨Tryz.k49.any,(Tryz.edOf_ok h t (ht.lg hle.frz1) hf fr hfr).mono ?_⟩
  rintro _ σ'' ⟨rfl,hσ⟩ -
  exact ⟨rfl,_,.refl _,hσ ▸ .refl _⟩
 (conv=>whnf)
 refine ⟨_,⟨rfl,hb.rdT fun _ _ h=>h⟩,?_⟩
 (conv=>whnf)
 intro σ₂ h2 hC
 have hle2:=hle1.trans h2
 have hb:=hb.le h2
 have ht:=ht.lg h2.frz2
 (conv=>whnf)
 refine ⟨Tryz.k49.any,(Tryz.edOf_ok h t (ht.lg frz_self) hf to hto).mono ?_⟩
 rintro _ σ' ⟨rfl,hσ'⟩ -
 obtain rfl:=hσ'.symm
 (conv=>whnf)
 refine ⟨_,⟨rfl,hb.rdT fun _ _ h=>h⟩,?_⟩
 (conv=>whnf)
 refine ⟨_,⟨rfl,hb.rdT fun _ _ h=>h⟩,?_⟩
 (conv=>whnf)
 refine ⟨fun v σ'=>LstV σ' v ((t.chosen (t.edOf fr) bits)),fun v σ₁ σ₂ hv hle=>hv.le hle,fun σ' hle _=>?_,fun v _=>?_⟩
 ·(conv=>whnf)
  refine ⟨Tryz.k50.any,(Tryz.chosenL_ok h t (ht.lg hle.frz2) hf (t.edOf fr) hx bits hbits).mono ?_⟩
  rintro v σ'' ⟨hv,hle'⟩ -
  exact ⟨σ'',.refl _,hv,hle'⟩
 (conv=>whnf)
 intro σ₃ h3 hC
 have hle3:=hle2.trans h3
 have hb:=hb.le h3
 have ht:=ht.lg h3.frz2
 obtain ⟨-,a1,c1,rfl,i1⟩:=hC
 (conv=>whnf)
 refine ⟨Tryz.k50.any,(Tryz.chosenL_ok h t ht hf (t.edOf to) hy ot hot).mono ?_⟩
 rintro _ σ₄ ⟨⟨a2,c2,rfl,i2⟩,h4⟩ -
 have hle4:=hle3.trans h4
 have hb:=hb.le h4
 have ht:=ht.lg h4.frz2
 have i1:=i1.lg h4.frz2
 obtain ⟨q1,q2,q3⟩:=Tbl.kin_inside hf hx hy hA hB
 have hsym:=Tbl.kin_sym hf hx hy hA hB
 have hself:=Tbl.kin_same hf hx hA hA
 have hnone:=Tbl.kin_none hf hx hy hA
 (conv=>whnf)
 refine ⟨_,⟨rfl,hb.rdT fun _ _ h=>h⟩,?_⟩
 (conv=>whnf)
 refine ⟨Tryz.k41.any,(Tryz.kinL_ok (hle4.tok.trans htok) h t ht hf (t.edOf fr) (t.edOf to) hx hy i1 hA i2 hB).mono ?_⟩
 rintro _ σ' ⟨rfl,hσ'⟩ -
 obtain rfl:=hσ'.symm
 (conv=>whnf)
 intro b15 hf15
 refine ⟨_,.refl _,?_⟩
 (conv=>whnf)
 refine ⟨rfl,st_new (vs:=[.int .i64 (t.kinS (t.edOf fr) (t.edOf to) (t.chosen (t.edOf fr) bits) (t.chosen (t.edOf to) ot)).1,.int .i64 (t.kinS (t.edOf fr) (t.edOf to) (t.chosen (t.edOf fr) bits) (t.chosen (t.edOf to) ot)).2]) hf15 rfl (by simp [Value.single]) fun σ₅ h5 hs15=>?_⟩
 have hs15:Blk σ₅ b15 #[.int .i64 (t.kinS (t.edOf fr) (t.edOf to) (t.chosen (t.edOf fr) bits) (t.chosen (t.edOf to) ot)).1,.int .i64 (t.kinS (t.edOf fr) (t.edOf to) (t.chosen (t.edOf fr) bits) (t.chosen (t.edOf to) ot)).2]:=hs15
 have hle5:=hle4.trans h5
 have hb:=hb.le h5
 have ht:=ht.lg h5.frz2
 have i1:=i1.lg h5.frz2
 have i2:=i2.lg h5.frz2
 (conv=>whnf)
 refine ⟨_,⟨rfl,hb.rdT fun _ _ h=>h⟩,?_⟩
 have kq:=Tryz.kinL_ok (cap:=c2) (cap':=c1) (hle5.tok.trans htok) h t ht hf (t.edOf to) (t.edOf fr) hy hx i2 hB i1 hA
 rw [← hsym] at kq
 (conv=>whnf)
 refine ⟨Tryz.k41.any,(kq).mono ?_⟩
 rintro _ σ' ⟨rfl,hσ'⟩ -
 obtain rfl:=hσ'.symm
 (conv=>whnf)
 intro b17 hf17
 refine ⟨_,.refl _,?_⟩
 (conv=>whnf)
 refine ⟨rfl,st_new (vs:=[.int .i64 (t.kinS (t.edOf fr) (t.edOf to) (t.chosen (t.edOf fr) bits) (t.chosen (t.edOf to) ot)).1,.int .i64 (t.kinS (t.edOf fr) (t.edOf to) (t.chosen (t.edOf fr) bits) (t.chosen (t.edOf to) ot)).2]) hf17 rfl (by simp [Value.single]) fun σ₆ h6 hs17=>?_⟩
 have hs17:Blk σ₆ b17 #[.int .i64 (t.kinS (t.edOf fr) (t.edOf to) (t.chosen (t.edOf fr) bits) (t.chosen (t.edOf to) ot)).1,.int .i64 (t.kinS (t.edOf fr) (t.edOf to) (t.chosen (t.edOf fr) bits) (t.chosen (t.edOf to) ot)).2]:=hs17
 have hle6:=hle5.trans h6
 have hb:=hb.le h6
 have ht:=ht.lg h6.frz2
 have i1:=i1.lg h6.frz2
 have i2:=i2.lg h6.frz2
 have hs15:=hs15.le h6
 (conv=>whnf)
 refine ⟨_,⟨rfl,hb.rdT fun _ _ h=>h⟩,?_⟩
 have kr:=Tryz.kinL_ok (cap:=c1) (cap':=c1) (hle6.tok.trans htok) h t ht hf (t.edOf fr) (t.edOf fr) hx hx i1 hA i1 hA
 rw [hself] at kr
 (conv=>whnf)
 refine ⟨Tryz.k41.any,(kr).mono ?_⟩
 rintro _ σ' ⟨rfl,hσ'⟩ -
 obtain rfl:=hσ'.symm
 (conv=>whnf)
 intro b19 hf19
 refine ⟨_,.refl _,?_⟩
 (conv=>whnf)
 refine ⟨rfl,st_new (vs:=[.int .i64 (t.near (t.edOf fr) (t.chosen (t.edOf fr) bits) (t.chosen (t.edOf fr) bits)),.int .i64 (t.near (t.edOf fr) (t.chosen (t.edOf fr) bits) (t.chosen (t.edOf fr) bits))]) hf19 rfl (by simp [Value.single]) fun σ₇ h7 hs19=>?_⟩
 have hs19:Blk σ₇ b19 #[.int .i64 (t.near (t.edOf fr) (t.chosen (t.edOf fr) bits) (t.chosen (t.edOf fr) bits)),.int .i64 (t.near (t.edOf fr) (t.chosen (t.edOf fr) bits) (t.chosen (t.edOf fr) bits))]:=hs19
 have hle7:=hle6.trans h7
 have hb:=hb.le h7
 have ht:=ht.lg h7.frz2
 have i1:=i1.lg h7.frz2
 have i2:=i2.lg h7.frz2
 have hs15:=hs15.le h7
 have hs17:=hs17.le h7
 (conv=>whnf)
 refine ⟨_,⟨rfl,hb.rdT fun _ _ h=>h⟩,?_⟩
 have ks:=Tryz.kinL_ok (cap:=c1) (cap':=0) (a':=none) (l':=[]) (hle7.tok.trans htok) h t ht hf (t.edOf fr) (t.edOf to) hx hy i1 hA ⟨rfl,fun i x hx=>by simp at hx⟩ (t.lst_nil (t.edOf to))
 rw [hnone] at ks
 (conv=>whnf)
 refine ⟨Tryz.k41.any,(ks).mono ?_⟩
 rintro _ σ' ⟨rfl,hσ'⟩ -
 obtain rfl:=hσ'.symm
 (conv=>whnf)
 intro b21 hf21
 refine ⟨_,.refl _,?_⟩
 (conv=>whnf)
 refine ⟨rfl,st_new (vs:=[.int .i64 0,.int .i64 0]) hf21 rfl (by simp [Value.single]) fun σ₈ h8 hs21=>?_⟩
 have hs21:Blk σ₈ b21 #[.int .i64 0,.int .i64 0]:=hs21
 have hle8:=hle7.trans h8
 have hb:=hb.le h8
 have ht:=ht.lg h8.frz2
 have i1:=i1.lg h8.frz2
 have i2:=i2.lg h8.frz2
 have hs15:=hs15.le h8
 have hs17:=hs17.le h8
 have hs19:=hs19.le h8
 (conv=>whnf)
 refine ⟨rfl,?_⟩
 (conv=>whnf)
 refine ⟨rfl,?_⟩
 (conv=>whnf)
 refine ⟨rfl,?_⟩
 (conv=>whnf)
 refine ⟨rfl,?_⟩
 (conv=>whnf)
 refine ⟨_,⟨rfl,hs15.reads (vs:=[.int .i64 (t.kinS (t.edOf fr) (t.edOf to) (t.chosen (t.edOf fr) bits) (t.chosen (t.edOf to) ot)).1,.int .i64 (t.kinS (t.edOf fr) (t.edOf to) (t.chosen (t.edOf fr) bits) (t.chosen (t.edOf to) ot)).2]) (fun k v hv=>by simpa using hv)⟩,?_⟩
 (conv=>whnf)
 refine ⟨_,⟨rfl,hs17.reads (vs:=[.int .i64 (t.kinS (t.edOf fr) (t.edOf to) (t.chosen (t.edOf fr) bits) (t.chosen (t.edOf to) ot)).1,.int .i64 (t.kinS (t.edOf fr) (t.edOf to) (t.chosen (t.edOf fr) bits) (t.chosen (t.edOf to) ot)).2]) (fun k v hv=>by simpa using hv)⟩,?_⟩
 (conv=>whnf)
 refine raw_neS Tryz.s49 (vs:=[.int .i64 (t.kinS (t.edOf fr) (t.edOf to) (t.chosen (t.edOf fr) bits) (t.chosen (t.edOf to) ot)).1,.int .i64 (t.kinS (t.edOf fr) (t.edOf to) (t.chosen (t.edOf fr) bits) (t.chosen (t.edOf to) ot)).2]) (ws:=[.int .i64 (t.kinS (t.edOf fr) (t.edOf to) (t.chosen (t.edOf fr) bits) (t.chosen (t.edOf to) ot)).1,.int .i64 (t.kinS (t.edOf fr) (t.edOf to) (t.chosen (t.edOf fr) bits) (t.chosen (t.edOf to) ot)).2]) rfl rfl (by kernel_rfl) (by kernel_rfl) ?_
 rw [eqv_span]
 (conv=>whnf)
 refine ⟨_,⟨rfl,hs21.reads (vs:=[.int .i64 0,.int .i64 0]) (fun k v hv=>by simpa using hv)⟩,?_⟩
 (conv=>whnf)
 refine raw_neS Tryz.s49 (vs:=[.int .i64 0,.int .i64 0]) (ws:=[.int .i64 0,.int .i64 0]) rfl rfl (by kernel_rfl) (by kernel_rfl) ?_
 rw [eqv_span]
 (conv=>whnf)
 refine ⟨_,⟨rfl,hs15.reads (vs:=[.int .i64 (t.kinS (t.edOf fr) (t.edOf to) (t.chosen (t.edOf fr) bits) (t.chosen (t.edOf to) ot)).1,.int .i64 (t.kinS (t.edOf fr) (t.edOf to) (t.chosen (t.edOf fr) bits) (t.chosen (t.edOf to) ot)).2]) (fun k v hv=>by simpa using hv)⟩,?_⟩
 (conv=>whnf)
 refine ⟨Tryz.k57.any,(Tryz.inside_ok (t.kinS (t.edOf fr) (t.edOf to) (t.chosen (t.edOf fr) bits) (t.chosen (t.edOf to) ot)).1 (t.kinS (t.edOf fr) (t.edOf to) (t.chosen (t.edOf fr) bits) (t.chosen (t.edOf to) ot)).2 0 5 q1 q2 q3).mono ?_⟩
 rintro _ σ' ⟨rfl,hσ'⟩ -
 obtain rfl:=hσ'.symm
 (conv=>whnf);(repeat (refine ⟨rfl,?_⟩;conv=>whnf))
 refine cb_split (fun hc=>?_) (fun hc=>?_)
 ·have h0:(t.chosen (t.edOf fr) bits) = []:=by simpa using hc
  have hN:(t.near (t.edOf fr) (t.chosen (t.edOf fr) bits) (t.chosen (t.edOf fr) bits)) = 0:=by rw [h0];exact Tbl.near_nil_l
  rw [hN] at hs19
  (conv=>whnf)
  refine ⟨_,⟨rfl,hs19.reads (vs:=[.int .i64 0,.int .i64 0]) (fun k v hv=>by simpa using hv)⟩,?_⟩
  (conv=>whnf)
  refine raw_eqS Tryz.s49 (vs:=[.int .i64 0,.int .i64 0]) (ws:=[.int .i64 0,.int .i64 0]) rfl rfl (by kernel_rfl) (by kernel_rfl) ?_
  rw [eqv_span]
  (conv=>whnf)
  refine ⟨Tryz.k26.any,(stocks _ hle8).mono ?_⟩
  rintro _ σ' ⟨rfl,hσ'⟩ -
  obtain rfl:=hσ'.symm
  (conv=>whnf);(repeat (refine ⟨rfl,?_⟩;conv=>whnf))
  exact hle8.lg
 ·have h0:(t.chosen (t.edOf fr) bits) ≠ []:=fun e=>by rw [e] at hc;simp at hc
  have hN:(t.near (t.edOf fr) (t.chosen (t.edOf fr) bits) (t.chosen (t.edOf fr) bits)) = 5:=Tbl.near_self hf h0
  rw [hN] at hs19
  (conv=>whnf)
  refine ⟨_,⟨rfl,hs19.reads (vs:=[.int .i64 5,.int .i64 5]) (fun k v hv=>by simpa using hv)⟩,?_⟩
  (conv=>whnf)
  refine raw_eqS Tryz.s49 (vs:=[.int .i64 5,.int .i64 5]) (ws:=[.int .i64 5,.int .i64 5]) rfl rfl (by kernel_rfl) (by kernel_rfl) ?_
  rw [eqv_span]
  (conv=>whnf)
  refine ⟨Tryz.k26.any,(stocks _ hle8).mono ?_⟩
  rintro _ σ' ⟨rfl,hσ'⟩ -
  obtain rfl:=hσ'.symm
  (conv=>whnf);(repeat (refine ⟨rfl,?_⟩;conv=>whnf))
  exact hle8.lg
end Go.Proofs
