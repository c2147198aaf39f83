/- A part of the proof: lemmas that the last text uses. No conditions of its own. -/
import Derived.Test.YtebpcmdnecenlaaGreatE26
set_option linter.unusedSimpArgs false
set_option linter.unusedVariables false
namespace Go.TM
variable {T:Type} {σ:View T}
theorem Tbl.isEd_at {σ:View T} {h:TH} {t:Tbl} (ht:TabV σ h t) {e:Int} (he:t.isEd e = true) :
  ∃ (k:Nat) (ad:Addr) (a:Option Addr) (len cap:Nat),e = k ∧ k < h.el ∧ h.ea = some ad ∧ σ.sees ((ad.add (k * 1)).add 0) (.slice a len cap) ∧ RowsV σ a len 2 (t.items e) (fun it vs=>vs = [.string it.name,.int .i64 it.cls]):=by
 have hb:=Tbl.isEd_lt he
 have hel:=ht.eds.1
 obtain ⟨k,rfl⟩:=Int.eq_ofNat_of_zero_le hb.1
 obtain ⟨ad,x,vs,hx,hea,hsp,⟨v,rfl,a,len,cap,rfl,hr⟩,-,hrd⟩:=ht.eds.at (show k < h.el by omega)
 refine ⟨k,ad,a,len,cap,rfl,by omega,hea,hrd 0 _ rfl,?_⟩
 have:t.items (k:Int) = x:=by unfold Tbl.items;rw [if_pos he,List.getD_eq_getElem?_getD,Int.toNat_natCast,hx];rfl
 rw [this];exact hr
theorem Tbl.isItem_btw (t:Tbl) (e n:Int):btw n 0 ((t.items e).length - 1) = t.isItem e n:=rfl
theorem Tbl.ed2 (t:Tbl) (e:Int):btw e 0 (t.eds.length - 2) = (t.isEd e && t.isEd (e + 1)):=by
 unfold Tbl.isEd btw
 rw [Bool.eq_iff_iff]
 simp only [Bool.and_eq_true,decide_eq_true_eq]
 omega
theorem eqv3 (a b c a' b' c':Int):eqvL [.int .i64 a',.int .i64 b',.int .i64 c'] [.int .i64 a,.int .i64 b,.int .i64 c] = decide ((a,b,c) = (a',b',c')):=by
 simp only [eqvL,eqv]
 rw [Bool.eq_iff_iff]
 simp only [Bool.and_eq_true,beq_iff_eq,decide_eq_true_iff,Prod.mk.injEq,and_true]
 constructor
 ·rintro ⟨h1,h2,h3⟩;exact ⟨h1.symm,h2.symm,h3.symm⟩
 ·rintro ⟨h1,h2,h3⟩;exact ⟨h1.symm,h2.symm,h3.symm⟩
def mv3 (m:GMv):Int × Int × Int:=(m.ed,m.fr,m.to)
def kn3 (k:GKn):Int × Int × Int:=(k.ed,k.one,k.two)
end Go.TM
namespace Go.Proofs
open Go.TM
set_option maxRecDepth 100000
variable {T:Type} {S:TM.Sys Tryz.prog T} {σ:View T}
attribute [local irreducible] CallsV YieldV rngX
theorem Tryz.refEdition_ok (h:TH) (t:Tbl) (ht:TabV σ h t) (n:Int):CallsV S 75 #[h.v,.int .i64 n] (fun v σ'=>v = .bool (t.isEd n) ∧ σ' = σ) σ:=by
 refine CallsV.pure' (CallsV.of (args:=[_,_]) Tryz.k75 Tryz.mixed (by simp) ?_)
 have hel:=ht.eds.1
 have:=ht.el
 (conv=>whnf);(repeat (refine ⟨rfl,?_⟩;conv=>whnf))
 intro b σ₁ hle hb
 (conv=>whnf)
 refine ⟨_,hb.sees3 (o:=0) rfl,?_⟩
 (conv=>whnf)
 refine ⟨by unfold InR;omega,?_⟩
 (conv=>whnf)
 refine ⟨Tryz.k71.any,(Tryz.in_ok _ _ _ _).mono ?_⟩
 rintro v σ' ⟨rfl,rfl⟩ -
 (conv=>whnf);(repeat (refine ⟨rfl,?_⟩;conv=>whnf))
 exact ⟨by rw [← hel];rfl,hle.lg⟩
theorem Tryz.listFlaw_ok (h:TH) (t:Tbl) (ht:TabV σ h t) (e:Int) (he:t.isEd e = true) (a:Option Addr) (len cap:Nat) (l:List Int) (hl:Ints σ a len l) (hlen:len < 2 ^ 60) :
  CallsV S 76 #[h.v,.int .i64 e,.slice a len cap] (fun v σ'=>v = .int .i64 (t.chk e none l) ∧ σ' = σ) σ:=by
 refine CallsV.pure' (CallsV.of (args:=[_,_,_]) Tryz.k76 Tryz.mixed (by simp) ?_)
 obtain ⟨ke,ade,ia,il,ic,rfl,hke,hea,hse,hit⟩:=Tbl.isEd_at ht he
 have hil:=hit.1
 have hil2:=ht.items_lt ke
 (conv=>whnf);(repeat (refine ⟨rfl,?_⟩;conv=>whnf))
 intro b σ₁ hle hb
 have hb:Blk σ₁ b #[.slice h.ea h.el h.ec,.slice h.ma h.ml h.mc,.slice h.ka h.kl h.kc]:=hb
 (conv=>whnf)
 refine ⟨Nat,fun i=>[(1,.int .i64 ke),(2,.slice a len cap),(3,.pointer (some ⟨b,0,none⟩)),(7,.int .i64 i)],
  fun i σ'=>σ₁.le σ' ∧ i ≤ len ∧ t.chk ke none l = t.chk ke (if i = 0 then none else l[i - 1]?) (l.drop i),fun i=>len - i,0,⟨rfl,rfl,rfl,rfl,trivial⟩,⟨.refl _,by omega,by simp⟩,?_⟩
 rintro i f σ₂ ⟨h₂,hi,hinv⟩
 have hlg:=(hle.trans h₂).lg
 (conv=>whnf);(repeat (refine ⟨rfl,?_⟩;conv=>whnf))
 refine cb_split (fun hc=>?_) (fun hc=>?_)
 ·have hlt:i < len:=by simpa using hc
  obtain ⟨ad,x,hx,rfl,hsp,hs⟩:=hl.at hlt
  (conv=>whnf)
  refine ⟨ad,i,⟨rfl,rfl,hlt⟩,?_⟩
  (conv=>whnf)
  refine ⟨_,hs.lg hlg,?_⟩
  (conv=>whnf)
  refine ⟨_,(hb.le h₂).sees3 (o:=0) rfl,?_⟩
  (conv=>whnf)
  refine ⟨ade,ke,⟨hea,rfl,hke⟩,?_⟩
  (conv=>whnf)
  refine ⟨.slice ia il ic,hse.lg hlg,?_⟩
  (conv=>whnf)
  refine ⟨by unfold InR;omega,?_⟩
  (conv=>whnf)
  intro σ₃ h₃ _
  have hlg₃:=hlg.trans h₃.lg
  refine ⟨Tryz.k71.any,(Tryz.in_ok _ _ _ _).mono ?_⟩
  rintro _ σ' ⟨rfl,hσ'⟩ -
  obtain rfl:=hσ'.symm
  rw [show btw x 0 ((il:Int) - 1) = t.isItem ke x by rw [← hil];rfl]
  rw [drop_at hx,Tbl.chk_cons] at hinv
  (conv=>whnf);(repeat (refine ⟨rfl,?_⟩;conv=>whnf))
  refine cb_split (fun hc=>?_) (fun hc=>?_)
  ·have h':t.isItem ke x = false:=by simpa using hc
   (conv=>whnf);(repeat (refine ⟨rfl,?_⟩;conv=>whnf))
   exact ⟨by rw [hinv,h'];rfl,hlg₃⟩
  have h':t.isItem ke x = true:=by simpa using hc
  rw [if_pos h'] at hinv
  (conv=>whnf);(repeat (refine ⟨rfl,?_⟩;conv=>whnf))
  refine gb_split (fun hc=>?_) (fun hc=>?_)
  ·have hpos:0 < i:=by simpa using hc
   obtain ⟨ad',x',hx',he',hsp',hs'⟩:=hl.at (show i - 1 < len by omega)
   cases he'
   rw [if_neg (by omega),hx'] at hinv
   (conv=>whnf)
   refine ⟨ad,i,⟨rfl,rfl,hlt⟩,?_⟩
   (conv=>whnf)
   refine ⟨_,hs.lg hlg₃,?_⟩
   (conv=>whnf)
   refine ⟨by unfold InR;omega,?_⟩
   (conv=>whnf)
   refine ⟨ad,i - 1,⟨rfl,by omega,by omega⟩,?_⟩
   (conv=>whnf)
   refine ⟨_,hs'.lg hlg₃,?_⟩
   (conv=>whnf)
   intro σ₄ h₄ _
   have hlg₄:=hlg₃.trans h₄.lg
   (conv=>whnf);(repeat (refine ⟨rfl,?_⟩;conv=>whnf))
   refine cb_split (fun hc=>?_) (fun hc=>?_)
   ·have hc':x ≤ x':=by simpa using hc
    (conv=>whnf);(repeat (refine ⟨rfl,?_⟩;conv=>whnf))
    exact ⟨by rw [hinv];simp [hc'],hlg₄⟩
   ·have hc':¬ x ≤ x':=by simpa using hc
    (conv=>whnf)
    refine ⟨by unfold InR;omega,?_⟩
    (conv=>whnf)
    refine ⟨rfl,i + 1,⟨rfl,rfl,rfl,rfl,trivial⟩,⟨h₂.trans (h₃.trans h₄),by omega,?_⟩,by show _ - _ < _ - _;omega⟩
    rw [hinv];simp [hc',hx]
  ·have hpos:i = 0:=by simpa using hc
   subst hpos
   (conv=>whnf)
   intro σ₄ h₄ _
   (conv=>whnf);(repeat (refine ⟨rfl,?_⟩;conv=>whnf))
   refine ⟨by unfold InR;omega,?_⟩
   (conv=>whnf)
   refine ⟨rfl,1,⟨rfl,rfl,rfl,rfl,trivial⟩,⟨h₂.trans (h₃.trans h₄),by omega,?_⟩,by show _ - _ < _ - _;omega⟩
   rw [hinv];simp [hx]
 ·have hge:len ≤ i:=by simpa using hc
  (conv=>whnf);(repeat (refine ⟨rfl,?_⟩;conv=>whnf))
  refine ⟨?_,hlg⟩
  rw [hinv,List.drop_eq_nil_of_le (by rw [hl.1];exact hge)];rfl
set_option maxHeartbeats 1000000 in
theorem Tryz.checkMove_ok (h:TH) (t:Tbl) (ht:TabV σ h t) (i:Nat) (m:GMv) (hx:t.mvs[i]? = some m) :
  CallsV S 73 #[h.v,.int .i64 i] (fun v σ'=>v = .int .i64 (t.chkMv m ((t.mvs.take i).map mv3)) ∧ σ' = σ) σ:=by
 refine CallsV.pure' (CallsV.of (args:=[_,_]) Tryz.k73 Tryz.mixed (by simp) ?_)
 have hel:=ht.eds.1
 have hel2:=ht.el
 have hml:=ht.mvs.1
 have hml2:=ht.ml
 have hlt:i < h.ml:=by have:=(List.getElem?_eq_some_iff.1 hx).1;omega
 obtain ⟨ad,m',vs,hx',hma,hsp,rfl,-,hrd⟩:=ht.mvs.at hlt
 obtain rfl:m = m':=by rw [hx] at hx';exact Option.some.inj hx'
 (conv=>whnf);(repeat (refine ⟨rfl,?_⟩;conv=>whnf))
 intro b σ₁ h₁ hb
 have hb:Blk σ₁ b #[.slice h.ea h.el h.ec,.slice h.ma h.ml h.mc,.slice h.ka h.kl h.kc]:=hb
 (conv=>whnf)
 refine ⟨_,hb.sees3 (o:=1) rfl,?_⟩
 (conv=>whnf)
 refine ⟨ad,i,⟨hma,rfl,hlt⟩,?_⟩
 (conv=>whnf)
 refine ⟨[.int .i64 m.ed,.int .i64 m.fr,.int .i64 m.to],⟨rfl,hrd.lg h₁.lg⟩,?_⟩
 (conv=>whnf)
 intro b5 hf5
 refine ⟨_,.refl _,?_⟩
 (conv=>whnf)
 refine ⟨rfl,st_new (vs:=[.int .i64 m.ed,.int .i64 m.fr,.int .i64 m.to]) hf5 rfl (by simp [Value.single]) fun σ₂ h₂ hb₅=>?_⟩
 have hb₅:Blk σ₂ b5 #[.int .i64 m.ed,.int .i64 m.fr,.int .i64 m.to]:=hb₅
 have hb₂:=hb.le h₂
 have hlg:=(h₁.trans h₂).lg
 (conv=>whnf)
 refine ⟨_,hb₅.sees3 (o:=0) rfl,?_⟩
 (conv=>whnf)
 refine ⟨_,hb₂.sees3 (o:=0) rfl,?_⟩
 (conv=>whnf)
 refine ⟨by unfold InR;omega,?_⟩
 (conv=>whnf)
 refine ⟨.bool (t.isEd m.ed && t.isEd (m.ed + 1)),fun σ' hle _=>?_,?_⟩
 ·(conv=>whnf)
  refine ⟨Tryz.k71.any,(Tryz.in_ok _ _ _ _).mono ?_⟩
  rintro _ σ'' ⟨rfl,hσ⟩ -
  exact ⟨by rw [← Tbl.ed2,hel],_,.refl _,hσ ▸ .refl _⟩
 (conv=>whnf);(repeat (refine ⟨rfl,?_⟩;conv=>whnf))
 refine gb_split (fun hc=>?_) (fun hc=>?_)
 ·have hee:t.isEd m.ed = true ∧ t.isEd (m.ed + 1) = true:=by simpa using hc
  obtain ⟨ke,ade,ia,il,ic,hke',hke,hea,hse,hit⟩:=Tbl.isEd_at ht hee.1
  obtain ⟨kf,adf,ja,jl,jc,hkf',hkf,hea',hsf,hjt⟩:=Tbl.isEd_at ht hee.2
  have hil:=hit.1
  have hil2:=ht.items_lt m.ed
  have hjl:=hjt.1
  have hjl2:=ht.items_lt (m.ed + 1)
  (conv=>whnf)
  refine ⟨_,hb₅.sees3 (o:=1) rfl,?_⟩
  (conv=>whnf)
  refine ⟨_,hb₂.sees3 (o:=0) rfl,?_⟩
  (conv=>whnf)
  refine ⟨_,hb₅.sees3 (o:=0) rfl,?_⟩
  (conv=>whnf)
  refine ⟨ade,ke,⟨hea,hke',hke⟩,?_⟩
  (conv=>whnf)
  refine ⟨_,hse.lg hlg,?_⟩
  (conv=>whnf)
  refine ⟨by unfold InR;omega,?_⟩
  (conv=>whnf)
  refine ⟨.bool (t.isItem m.ed m.fr),fun σ' hle _=>?_,?_⟩
  ·(conv=>whnf)
   refine ⟨Tryz.k71.any,(Tryz.in_ok _ _ _ _).mono ?_⟩
   rintro _ σ'' ⟨rfl,hσ⟩ -
   exact ⟨by rw [← Tbl.isItem_btw,hil],_,.refl _,hσ ▸ .refl _⟩
  (conv=>whnf);(repeat (refine ⟨rfl,?_⟩;conv=>whnf))
  refine gb_split (fun hc=>?_) (fun hc=>?_)
  ·have hi1:t.isItem m.ed m.fr = true:=by simpa using hc
   (conv=>whnf)
   refine ⟨_,hb₅.sees3 (o:=2) rfl,?_⟩
   (conv=>whnf)
   refine ⟨_,hb₂.sees3 (o:=0) rfl,?_⟩
   (conv=>whnf)
   refine ⟨_,hb₅.sees3 (o:=0) rfl,?_⟩
   (conv=>whnf)
   refine ⟨by unfold InR;omega,?_⟩
   (conv=>whnf)
   refine ⟨adf,kf,⟨hea',hkf',hkf⟩,?_⟩
   (conv=>whnf)
   refine ⟨_,hsf.lg hlg,?_⟩
   (conv=>whnf)
   refine ⟨by unfold InR;omega,?_⟩
   (conv=>whnf)
   intro σ₃ h₃ _
   have hlg₃:=hlg.trans h₃.lg
   refine ⟨Tryz.k71.any,(Tryz.in_ok _ _ _ _).mono ?_⟩
   rintro _ σ' ⟨rfl,hσ'⟩ -
   obtain rfl:=hσ'.symm
   rw [show btw m.to 0 ((jl:Int) - 1) = t.isItem (m.ed + 1) m.to by rw [← hjl];rfl]
   (conv=>whnf);(repeat (refine ⟨rfl,?_⟩;conv=>whnf))
   refine cb_split (fun hc=>?_) (fun hc=>?_)
   ·have hi2:t.isItem (m.ed + 1) m.to = false:=by simpa using hc
    (conv=>whnf);(repeat (refine ⟨rfl,?_⟩;conv=>whnf))
    exact ⟨by unfold Tbl.chkMv Tbl.mvOk;rw [hee.1,hee.2,hi1,hi2];rfl,hlg₃⟩
   have hi2:t.isItem (m.ed + 1) m.to = true:=by simpa using hc
   have hok:t.mvOk m = true:=by unfold Tbl.mvOk;rw [hee.1,hee.2,hi1,hi2];rfl
   have hspec:t.chkMv m ((t.mvs.take i).map mv3) = if inS (mv3 m) ((t.mvs.take i).map mv3) then 5 else 0:=by unfold Tbl.chkMv;rw [if_pos hok];rfl
   rw [hspec]
   (conv=>whnf)
   refine ⟨Nat,fun k=>[(1,.int .i64 i),(2,.pointer (some ⟨b,0,none⟩)),(5,.pointer (some ⟨b5,0,none⟩)),(6,.int .i64 k)],fun k σ'=>σ₃.le σ' ∧ k ≤ i ∧ inS (mv3 m) ((t.mvs.take k).map mv3) = false,fun k=>i - k,0,⟨rfl,rfl,rfl,rfl,trivial⟩,⟨.refl _,by omega,rfl⟩,?_⟩
   rintro k f σ₄ ⟨h₄,hk,hno⟩
   have hb₄:=hb₂.le (h₃.trans h₄)
   have hb₅:=hb₅.le (h₃.trans h₄)
   have hlg₄:=hlg₃.trans h₄.lg
   (conv=>whnf);(repeat (refine ⟨rfl,?_⟩;conv=>whnf))
   refine cb_split (fun hc=>?_) (fun hc=>?_)
   ·have hlk:k < i:=by simpa using hc
    obtain ⟨_,m',vs,hxm,e,hsp',rfl,-,hrd'⟩:=ht.mvs.at (show k < h.ml by omega)
    rw [hma] at e
    cases e
    (conv=>whnf)
    refine ⟨_,hb₄.sees3 (o:=1) rfl,?_⟩
    (conv=>whnf)
    refine ⟨ad,k,⟨hma,rfl,by omega⟩,?_⟩
    (conv=>whnf)
    refine ⟨[.int .i64 m'.ed,.int .i64 m'.fr,.int .i64 m'.to],⟨rfl,hrd'.lg hlg₄⟩,?_⟩
    (conv=>whnf)
    refine ⟨[.int .i64 m.ed,.int .i64 m.fr,.int .i64 m.to],⟨rfl,hb₅.reads (fun k v hv=>by simpa using hv)⟩,?_⟩
    (conv=>whnf)
    intro σ₅ h₅ _
    refine raw_eqS Tryz.s132 (vs:=[.int .i64 m'.ed,.int .i64 m'.fr,.int .i64 m'.to]) (ws:=[.int .i64 m.ed,.int .i64 m.fr,.int .i64 m.to]) rfl rfl (by kernel_rfl) (by kernel_rfl) ?_
    have heq:eqvL [.int .i64 m'.ed,.int .i64 m'.fr,.int .i64 m'.to] [.int .i64 m.ed,.int .i64 m.fr,.int .i64 m.to] = decide (mv3 m = mv3 m'):=eqv3 ..
    rw [heq]
    (conv=>whnf);(repeat (refine ⟨rfl,?_⟩;conv=>whnf))
    refine cb_split (fun hc=>?_) (fun hc=>?_)
    ·have he:mv3 m = mv3 m':=by simpa using hc
     have hs:inS (mv3 m) ((t.mvs.take i).map mv3) = true:=
      inS_mem.2 (List.mem_map.2 ⟨m',List.mem_of_getElem? (i:=k) (by rw [List.getElem?_take,if_pos hlk];exact hxm),he.symm⟩)
     (conv=>whnf);(repeat (refine ⟨rfl,?_⟩;conv=>whnf))
     exact ⟨by rw [hs];rfl,hlg₄.trans h₅.lg⟩
    ·have he:mv3 m ≠ mv3 m':=by simpa using hc
     (conv=>whnf)
     refine ⟨by unfold InR;omega,?_⟩
     (conv=>whnf)
     refine ⟨rfl,k + 1,⟨rfl,rfl,rfl,rfl,trivial⟩,⟨h₄.trans h₅,by omega,?_⟩,by show _ - _ < _ - _;omega⟩
     rw [take_at hxm,List.map_append,List.map_cons,List.map_nil,inS_snoc,hno,Bool.false_or]
     exact decide_eq_false he
   ·have hge:i ≤ k:=by simpa using hc
    obtain rfl:k = i:=by omega
    (conv=>whnf);(repeat (refine ⟨rfl,?_⟩;conv=>whnf))
    exact ⟨by rw [hno];rfl,hlg₄⟩
  ·have hi1:t.isItem m.ed m.fr = false:=by simpa using hc
   (conv=>whnf)
   intro σ₃ h₃ _
   (conv=>whnf);(repeat (refine ⟨rfl,?_⟩;conv=>whnf))
   exact ⟨by unfold Tbl.chkMv Tbl.mvOk;rw [hee.1,hee.2,hi1];rfl,hlg.trans h₃.lg⟩
 ·have hee:(t.isEd m.ed && t.isEd (m.ed + 1)) = false:=Bool.not_inj hc
  have hno:t.mvOk m = false:=by unfold Tbl.mvOk;rw [← Bool.and_assoc,hee];rfl
  rw [hee]
  (conv=>whnf);(repeat (refine ⟨rfl,?_⟩;conv=>whnf))
  intro σ₃ h₃ _
  (conv=>whnf);(repeat (refine ⟨rfl,?_⟩;conv=>whnf))
  exact ⟨by unfold Tbl.chkMv;rw [hno];rfl,hlg.trans h₃.lg⟩
set_option maxHeartbeats 1000000 in
theorem Tryz.refKin_ok (h:TH) (t:Tbl) (ht:TabV σ h t) (i:Nat) (m:GKn) (hx:t.kns[i]? = some m) :
  CallsV S 74 #[h.v,.int .i64 i] (fun v σ'=>v = .int .i64 (t.chkKn m ((t.kns.take i).map kn3)) ∧ σ' = σ) σ:=by
 refine CallsV.pure' (CallsV.of (args:=[_,_]) Tryz.k74 Tryz.mixed (by simp) ?_)
 have hel:=ht.eds.1
 have hel2:=ht.el
 have hml:=ht.kns.1
 have hml2:=ht.kl
 have hlt:i < h.kl:=by have:=(List.getElem?_eq_some_iff.1 hx).1;omega
 obtain ⟨ad,m',vs,hx',hma,hsp,rfl,-,hrd⟩:=ht.kns.at hlt
 obtain rfl:m = m':=by rw [hx] at hx';exact Option.some.inj hx'
 (conv=>whnf);(repeat (refine ⟨rfl,?_⟩;conv=>whnf))
 intro b σ₁ h₁ hb
 have hb:Blk σ₁ b #[.slice h.ea h.el h.ec,.slice h.ma h.ml h.mc,.slice h.ka h.kl h.kc]:=hb
 (conv=>whnf)
 refine ⟨_,hb.sees3 (o:=2) rfl,?_⟩
 (conv=>whnf)
 refine ⟨ad,i,⟨hma,rfl,hlt⟩,?_⟩
 (conv=>whnf)
 refine ⟨[.int .i64 m.ed,.int .i64 m.one,.int .i64 m.two,.int .i64 m.lev],⟨rfl,hrd.lg h₁.lg⟩,?_⟩
 (conv=>whnf)
 intro b5 hf5
 refine ⟨_,.refl _,?_⟩
 (conv=>whnf)
 refine ⟨rfl,st_new (vs:=[.int .i64 m.ed,.int .i64 m.one,.int .i64 m.two,.int .i64 m.lev]) hf5 rfl (by simp [Value.single]) fun σ₂ h₂ hb₅=>?_⟩
 have hb₅:Blk σ₂ b5 #[.int .i64 m.ed,.int .i64 m.one,.int .i64 m.two,.int .i64 m.lev]:=hb₅
 have hb₂:=hb.le h₂
 have hlg:=(h₁.trans h₂).lg
 (conv=>whnf)
 refine ⟨_,hb₅.sees3 (o:=0) rfl,?_⟩
 (conv=>whnf)
 refine ⟨_,hb₂.sees3 (o:=0) rfl,?_⟩
 (conv=>whnf)
 refine ⟨by unfold InR;omega,?_⟩
 (conv=>whnf)
 refine ⟨.bool (t.isEd m.ed),fun σ' hle _=>?_,?_⟩
 ·(conv=>whnf)
  refine ⟨Tryz.k71.any,(Tryz.in_ok _ _ _ _).mono ?_⟩
  rintro _ σ'' ⟨rfl,hσ⟩ -
  exact ⟨by unfold Tbl.isEd;rw [hel],_,.refl _,hσ ▸ .refl _⟩
 (conv=>whnf);(repeat (refine ⟨rfl,?_⟩;conv=>whnf))
 refine gb_split (fun hc=>?_) (fun hc=>?_)
 ·have hee:t.isEd m.ed = true:=by simpa using hc
  obtain ⟨ke,ade,ia,il,ic,hke',hke,hea,hse,hit⟩:=Tbl.isEd_at ht hee
  have hil:=hit.1
  have hil2:=ht.items_lt m.ed
  (conv=>whnf)
  refine ⟨_,hb₅.sees3 (o:=1) rfl,?_⟩
  (conv=>whnf)
  refine ⟨_,hb₂.sees3 (o:=0) rfl,?_⟩
  (conv=>whnf)
  refine ⟨_,hb₅.sees3 (o:=0) rfl,?_⟩
  (conv=>whnf)
  refine ⟨ade,ke,⟨hea,hke',hke⟩,?_⟩
  (conv=>whnf)
  refine ⟨_,hse.lg hlg,?_⟩
  (conv=>whnf)
  refine ⟨by unfold InR;omega,?_⟩
  (conv=>whnf)
  refine ⟨.bool (t.isItem m.ed m.one),fun σ' hle _=>?_,?_⟩
  ·(conv=>whnf)
   refine ⟨Tryz.k71.any,(Tryz.in_ok _ _ _ _).mono ?_⟩
   rintro _ σ'' ⟨rfl,hσ⟩ -
   exact ⟨by rw [← Tbl.isItem_btw,hil],_,.refl _,hσ ▸ .refl _⟩
  (conv=>whnf);(repeat (refine ⟨rfl,?_⟩;conv=>whnf))
  refine gb_split (fun hc=>?_) (fun hc=>?_)
  ·have hi1:t.isItem m.ed m.one = true:=by simpa using hc
   (conv=>whnf)
   refine ⟨_,hb₅.sees3 (o:=2) rfl,?_⟩
   (conv=>whnf)
   refine ⟨_,hb₂.sees3 (o:=0) rfl,?_⟩
   (conv=>whnf)
   refine ⟨_,hb₅.sees3 (o:=0) rfl,?_⟩
   (conv=>whnf)
   refine ⟨ade,ke,⟨hea,hke',hke⟩,?_⟩
   (conv=>whnf)
   refine ⟨_,hse.lg hlg,?_⟩
   (conv=>whnf)
   refine ⟨by unfold InR;omega,?_⟩
   (conv=>whnf)
   intro σ₃ h₃ _
   have hlg₃:=hlg.trans h₃.lg
   refine ⟨Tryz.k71.any,(Tryz.in_ok _ _ _ _).mono ?_⟩
   rintro _ σ' ⟨rfl,hσ'⟩ -
   obtain rfl:=hσ'.symm
   rw [show btw m.two 0 ((il:Int) - 1) = t.isItem m.ed m.two by rw [← hil];rfl]
   (conv=>whnf);(repeat (refine ⟨rfl,?_⟩;conv=>whnf))
   refine cb_split (fun hc=>?_) (fun hc=>?_)
   ·have hi2:t.isItem m.ed m.two = false:=by simpa using hc
    (conv=>whnf);(repeat (refine ⟨rfl,?_⟩;conv=>whnf))
    exact ⟨by unfold Tbl.chkKn Tbl.knOk;rw [hee,hi1,hi2];rfl,hlg₃⟩
   have hi2:t.isItem m.ed m.two = true:=by simpa using hc
   have hok:t.knOk m = true:=by unfold Tbl.knOk;rw [hee,hi1,hi2];rfl
   have hb₃:=hb₂.le h₃
   have hb₅:=hb₅.le h₃
   (conv=>whnf)
   refine ⟨_,hb₅.sees3 (o:=1) rfl,?_⟩
   (conv=>whnf)
   refine ⟨_,hb₅.sees3 (o:=2) rfl,?_⟩
   (conv=>whnf);(repeat (refine ⟨rfl,?_⟩;conv=>whnf))
   refine cb_split (fun hc=>?_) (fun hc=>?_)
   ·have hi3:¬ m.one < m.two:=by simpa using hc
    (conv=>whnf);(repeat (refine ⟨rfl,?_⟩;conv=>whnf))
    exact ⟨by unfold Tbl.chkKn;rw [if_pos hok,if_neg hi3],hlg₃⟩
   have hi3:m.one < m.two:=by simpa using hc
   (conv=>whnf)
   refine ⟨_,hb₅.sees3 (o:=3) rfl,?_⟩
   (conv=>whnf)
   refine ⟨Tryz.k71.any,(Tryz.in_ok _ _ _ _).mono ?_⟩
   rintro _ σ' ⟨rfl,hσ'⟩ -
   obtain rfl:=hσ'.symm
   (conv=>whnf);(repeat (refine ⟨rfl,?_⟩;conv=>whnf))
   refine cb_split (fun hc=>?_) (fun hc=>?_)
   ·have hi4:btw m.lev 1 5 = false:=by simpa using hc
    (conv=>whnf);(repeat (refine ⟨rfl,?_⟩;conv=>whnf))
    exact ⟨by unfold Tbl.chkKn;rw [if_pos hok,if_pos hi3,hi4];rfl,hlg₃⟩
   have hi4:btw m.lev 1 5 = true:=by simpa using hc
   have hspec:t.chkKn m ((t.kns.take i).map kn3) = if inS (kn3 m) ((t.kns.take i).map kn3) then 5 else 0:=by unfold Tbl.chkKn;rw [if_pos hok,if_pos hi3,if_pos hi4];rfl
   rw [hspec]
   (conv=>whnf)
   refine ⟨Nat,fun k=>[(1,.int .i64 i),(2,.pointer (some ⟨b,0,none⟩)),(5,.pointer (some ⟨b5,0,none⟩)),(6,.int .i64 k)],fun k σ'=>σ₃.le σ' ∧ k ≤ i ∧ inS (kn3 m) ((t.kns.take k).map kn3) = false,fun k=>i - k,0,⟨rfl,rfl,rfl,rfl,trivial⟩,⟨.refl _,by omega,rfl⟩,?_⟩
   rintro k f σ₄ ⟨h₄,hk,hno⟩
   have hb₄:=hb₃.le h₄
   have hb₅:=hb₅.le h₄
   have hlg₄:=hlg₃.trans h₄.lg
   (conv=>whnf);(repeat (refine ⟨rfl,?_⟩;conv=>whnf))
   refine cb_split (fun hc=>?_) (fun hc=>?_)
   ·have hlk:k < i:=by simpa using hc
    obtain ⟨_,m',vs,hxm,e,hsp',rfl,-,hrd'⟩:=ht.kns.at (show k < h.kl by omega)
    rw [hma] at e
    cases e
    have hk1:InR (k + 1):=by unfold InR;omega
    have next:∀ σ':View T,σ₄.le σ' → kn3 m ≠ kn3 m' → σ₃.le σ' ∧ k + 1 ≤ i ∧ inS (kn3 m) ((t.kns.take (k + 1)).map kn3) = false:=fun σ' hle he=>⟨h₄.trans hle,by omega,by
     rw [take_at hxm,List.map_append,List.map_cons,List.map_nil,inS_snoc,hno,Bool.false_or]
     exact decide_eq_false he⟩
    (conv=>whnf)
    refine ⟨_,hb₄.sees3 (o:=2) rfl,?_⟩
    (conv=>whnf)
    refine ⟨ad,k,⟨hma,rfl,by omega⟩,?_⟩
    (conv=>whnf)
    refine ⟨_,(hrd' 0 _ rfl).lg hlg₄,?_⟩
    (conv=>whnf)
    refine ⟨_,hb₅.sees3 (o:=0) rfl,?_⟩
    (conv=>whnf);(repeat (refine ⟨rfl,?_⟩;conv=>whnf))
    refine gb_split (fun hc=>?_) (fun hc=>?_)
    ·have e1:m'.ed = m.ed:=by simpa using hc
     (conv=>whnf)
     refine ⟨_,hb₄.sees3 (o:=2) rfl,?_⟩
     (conv=>whnf)
     refine ⟨ad,k,⟨hma,rfl,by omega⟩,?_⟩
     (conv=>whnf)
     refine ⟨_,(hrd' 1 _ rfl).lg hlg₄,?_⟩
     (conv=>whnf)
     refine ⟨_,hb₅.sees3 (o:=1) rfl,?_⟩
     (conv=>whnf);(repeat (refine ⟨rfl,?_⟩;conv=>whnf))
     refine gb_split (fun hc=>?_) (fun hc=>?_)
     ·have e2:m'.one = m.one:=by simpa using hc
      (conv=>whnf)
      refine ⟨_,hb₄.sees3 (o:=2) rfl,?_⟩
      (conv=>whnf)
      refine ⟨ad,k,⟨hma,rfl,by omega⟩,?_⟩
      (conv=>whnf)
      refine ⟨_,(hrd' 2 _ rfl).lg hlg₄,?_⟩
      (conv=>whnf)
      refine ⟨_,hb₅.sees3 (o:=2) rfl,?_⟩
      (conv=>whnf)
      intro σ₅ h₅ _
      (conv=>whnf);(repeat (refine ⟨rfl,?_⟩;conv=>whnf))
      refine cb_split (fun hc=>?_) (fun hc=>?_)
      ·have e3:m'.two = m.two:=by simpa using hc
       have hs:inS (kn3 m) ((t.kns.take i).map kn3) = true:=
        inS_mem.2 (List.mem_map.2 ⟨m',List.mem_of_getElem? (i:=k) (by rw [List.getElem?_take,if_pos hlk];exact hxm),by unfold kn3;rw [e1,e2,e3]⟩)
       (conv=>whnf);(repeat (refine ⟨rfl,?_⟩;conv=>whnf))
       exact ⟨by rw [hs];rfl,hlg₄.trans h₅.lg⟩
      ·have e3:m'.two ≠ m.two:=by simpa using hc
       (conv=>whnf)
       refine ⟨hk1,?_⟩
       (conv=>whnf)
       exact ⟨rfl,k + 1,⟨rfl,rfl,rfl,rfl,trivial⟩,next _ h₅ (fun e=>e3 (by unfold kn3 at e;simp only [Prod.mk.injEq] at e;exact e.2.2.symm)),by show _ - _ < _ - _;omega⟩
     ·have e2:m'.one ≠ m.one:=by simpa using hc
      (conv=>whnf)
      intro σ₅ h₅ _
      (conv=>whnf);(repeat (refine ⟨rfl,?_⟩;conv=>whnf))
      refine ⟨hk1,?_⟩
      (conv=>whnf)
      exact ⟨rfl,k + 1,⟨rfl,rfl,rfl,rfl,trivial⟩,next _ h₅ (fun e=>e2 (by unfold kn3 at e;simp only [Prod.mk.injEq] at e;exact e.2.1.symm)),by show _ - _ < _ - _;omega⟩
    ·have e1:m'.ed ≠ m.ed:=by simpa using hc
     (conv=>whnf)
     intro σ₅ h₅ _
     (conv=>whnf);(repeat (refine ⟨rfl,?_⟩;conv=>whnf))
     refine ⟨hk1,?_⟩
     (conv=>whnf)
     exact ⟨rfl,k + 1,⟨rfl,rfl,rfl,rfl,trivial⟩,next _ h₅ (fun e=>e1 (by unfold kn3 at e;simp only [Prod.mk.injEq] at e;exact e.1.symm)),by show _ - _ < _ - _;omega⟩
   ·have hge:i ≤ k:=by simpa using hc
    obtain rfl:k = i:=by omega
    (conv=>whnf);(repeat (refine ⟨rfl,?_⟩;conv=>whnf))
    exact ⟨by rw [hno];rfl,hlg₄⟩
  ·have hi1:t.isItem m.ed m.one = false:=by simpa using hc
   (conv=>whnf)
   intro σ₃ h₃ _
   (conv=>whnf);(repeat (refine ⟨rfl,?_⟩;conv=>whnf))
   exact ⟨by unfold Tbl.chkKn Tbl.knOk;rw [hee,hi1];rfl,hlg.trans h₃.lg⟩
 ·have hee:t.isEd m.ed = false:=by simpa using hc
  have hno:t.knOk m = false:=by unfold Tbl.knOk;rw [hee];rfl
  (conv=>whnf);(repeat (refine ⟨rfl,?_⟩;conv=>whnf))
  intro σ₃ h₃ _
  (conv=>whnf);(repeat (refine ⟨rfl,?_⟩;conv=>whnf))
  exact ⟨by unfold Tbl.chkKn;rw [hno];rfl,hlg.trans h₃.lg⟩
end Go.Proofs
namespace Go.TM
theorem Tbl.edsF_at {l:List (List GItem)} {i:Nat} {x:List GItem} (h:l[i]? = some x):edsF (l.drop i) = if edF x = 0 then edsF (l.drop (i + 1)) else edF x:=by rw [drop_at h,edsF]
end Go.TM
namespace Go.Proofs
open Go.TM
set_option maxRecDepth 100000
variable {T:Type} {S:TM.Sys Tryz.prog T} {σ:View T}
attribute [local irreducible] CallsV YieldV rngX
set_option maxHeartbeats 1000000 in
theorem Tryz.refTable_ok (h:TH) (t:Tbl) (ht:TabV σ h t):CallsV S 30 #[h.v] (fun v σ'=>v = .int .i64 t.flaw ∧ σ' = σ) σ:=by
 refine CallsV.pure' (CallsV.of (args:=[_]) Tryz.k30 Tryz.mixed (by simp) ?_)
 have hel:=ht.eds.1
 have hel2:=ht.el
 have hml:=ht.mvs.1
 have hml2:=ht.ml
 have hkl:=ht.kns.1
 have hkl2:=ht.kl
 unfold Tbl.flaw
 rw [Tbl.chkItems_eq]
 (conv=>whnf);(repeat (refine ⟨rfl,?_⟩;conv=>whnf))
 intro b σ₁ h₁ hb
 have hb:Blk σ₁ b #[.slice h.ea h.el h.ec,.slice h.ma h.ml h.mc,.slice h.ka h.kl h.kc]:=hb
 (conv=>whnf)
 refine ⟨_,hb.sees3 (o:=0) rfl,?_⟩
 (conv=>whnf)
 refine ⟨Tryz.k71.any,(Tryz.in_ok _ _ _ _).mono ?_⟩
 rintro _ σ' ⟨rfl,hσ'⟩ -
 obtain rfl:=hσ'.symm
 rw [hel]
 (conv=>whnf);(repeat (refine ⟨rfl,?_⟩;conv=>whnf))
 refine cb_split (fun hc=>?_) (fun hc=>?_)
 ·have h1:btw h.el 1 3 = false:=by simpa using hc
  rw [h1]
  (conv=>whnf);(repeat (refine ⟨rfl,?_⟩;conv=>whnf))
  exact h₁.lg
 have h1:btw h.el 1 3 = true:=by simpa using hc
 rw [if_pos h1]
 (conv=>whnf)
 refine ⟨Nat,fun i=>[(1,.pointer (some ⟨b,0,none⟩)),(3,.int .i64 i)],fun i σ'=>σ₁.le σ' ∧ i ≤ h.el ∧ edsF t.eds = edsF (t.eds.drop i),fun i=>h.el - i,0,⟨rfl,rfl,trivial⟩,⟨.refl _,by omega,rfl⟩,?_⟩
 rintro i f σ₂ ⟨h₂,hi,hinv⟩
 have hb₂:=hb.le h₂
 have hlg₂:=(h₁.trans h₂).lg
 (conv=>whnf)
 refine ⟨_,hb₂.sees3 (o:=0) rfl,?_⟩
 (conv=>whnf);(repeat (refine ⟨rfl,?_⟩;conv=>whnf))
 refine cb_split (fun hc=>?_) (fun hc=>?_)
 ·have hlt:i < h.el:=by simpa using hc
  obtain ⟨ad,x,vs,hx,hea,hsp,⟨v,rfl,a,len,cap,rfl,hr⟩,-,hrd⟩:=ht.eds.at hlt
  rw [Tbl.edsF_at hx] at hinv
  (conv=>whnf)
  refine ⟨_,hb₂.sees3 (o:=0) rfl,?_⟩
  (conv=>whnf)
  refine ⟨ad,i,⟨hea,rfl,hlt⟩,?_⟩
  (conv=>whnf)
  refine ⟨[.slice a len cap],⟨rfl,hrd.lg hlg₂⟩,?_⟩
  (conv=>whnf)
  refine ⟨Tryz.k72.any,(Tryz.checkEdition_ok a len cap x (hr.lg hlg₂ fun _ _ h=>h) (by rw [← hr.1];exact ht.il x (List.mem_of_getElem? hx)) (ht.nl x (List.mem_of_getElem? hx))).mono ?_⟩
  rintro _ σ' ⟨rfl,hσ'⟩ -
  obtain rfl:=hσ'.symm
  (conv=>whnf);(repeat (refine ⟨rfl,?_⟩;conv=>whnf))
  refine cb_split (fun hc=>?_) (fun hc=>?_)
  ·have h2:edF x ≠ 0:=by simpa using hc
   rw [if_neg h2] at hinv
   (conv=>whnf);(repeat (refine ⟨rfl,?_⟩;conv=>whnf))
   exact ⟨by rw [hinv,if_neg h2],hlg₂⟩
  ·have h2:edF x = 0:=by simpa using hc
   rw [if_pos h2] at hinv
   (conv=>whnf)
   refine ⟨by unfold InR;omega,?_⟩
   (conv=>whnf)
   exact ⟨rfl,i + 1,⟨rfl,rfl,trivial⟩,⟨h₂,by omega,hinv⟩,by show _ - _ < _ - _;omega⟩
 have hge:h.el ≤ i:=by simpa using hc
 have e0:edsF t.eds = 0:=by rw [hinv,List.drop_eq_nil_of_le (by omega)];rfl
 rw [if_pos e0]
 unfold Tbl.chkMoves Tbl.chkKins
 (conv=>whnf)
 refine ⟨_,hb₂.sees3 (o:=1) rfl,?_⟩
 (conv=>whnf);(repeat (refine ⟨rfl,?_⟩;conv=>whnf))
 refine cb_split (fun hc=>?_) (fun hc=>?_)
 ·have h2:16 < t.mvs.length:=by rw [hml];simp at hc;omega
  rw [if_pos h2]
  (conv=>whnf);(repeat (refine ⟨rfl,?_⟩;conv=>whnf))
  exact hlg₂
 have h2:¬ 16 < t.mvs.length:=by rw [hml];simp at hc;omega
 rw [if_neg h2]
 (conv=>whnf)
 refine ⟨Nat,fun i=>[(1,.pointer (some ⟨b,0,none⟩)),(5,.int .i64 i)],fun i σ'=>σ₂.le σ' ∧ i ≤ h.ml ∧ t.chkMvs t.mvs [] = t.chkMvs (t.mvs.drop i) ((t.mvs.take i).map mv3),fun i=>h.ml - i,0,⟨rfl,rfl,trivial⟩,⟨.refl _,by omega,rfl⟩,?_⟩
 rintro j f σ₃ ⟨h₃,hj,hinvm⟩
 have hb₃:=hb₂.le h₃
 have hlg₃:=hlg₂.trans h₃.lg
 (conv=>whnf)
 refine ⟨_,hb₃.sees3 (o:=1) rfl,?_⟩
 (conv=>whnf);(repeat (refine ⟨rfl,?_⟩;conv=>whnf))
 refine cb_split (fun hc=>?_) (fun hc=>?_)
 ·have hlt:j < h.ml:=by simpa using hc
  obtain ⟨ad,x,vs,hx,hma,hsp,rfl,-,hrd⟩:=ht.mvs.at hlt
  rw [drop_at hx,Tbl.chkMvs] at hinvm
  (conv=>whnf)
  refine ⟨_,⟨rfl,hb₃.rdT fun _ _ h=>h⟩,?_⟩
  (conv=>whnf)
  refine ⟨Tryz.k73.any,(Tryz.checkMove_ok h t (ht.lg hlg₃) j x hx).mono ?_⟩
  rintro _ σ' ⟨rfl,hσ'⟩ -
  obtain rfl:=hσ'.symm
  (conv=>whnf);(repeat (refine ⟨rfl,?_⟩;conv=>whnf))
  refine cb_split (fun hc=>?_) (fun hc=>?_)
  ·have h3:t.chkMv x ((t.mvs.take j).map mv3) ≠ 0:=by simpa using hc
   rw [if_neg h3] at hinvm
   (conv=>whnf);(repeat (refine ⟨rfl,?_⟩;conv=>whnf))
   exact ⟨by rw [hinvm,if_neg h3],hlg₃⟩
  ·have h3:t.chkMv x ((t.mvs.take j).map mv3) = 0:=by simpa using hc
   rw [if_pos h3] at hinvm
   (conv=>whnf)
   refine ⟨by unfold InR;omega,?_⟩
   (conv=>whnf)
   exact ⟨rfl,j + 1,⟨rfl,rfl,trivial⟩,⟨h₃,by omega,by rw [hinvm,take_at hx,List.map_append];rfl⟩,by show _ - _ < _ - _;omega⟩
 have hge:h.ml ≤ j:=by simpa using hc
 have e1:t.chkMvs t.mvs [] = 0:=by rw [hinvm,List.drop_eq_nil_of_le (by omega)];rfl
 rw [if_pos e1]
 (conv=>whnf)
 refine ⟨_,hb₃.sees3 (o:=2) rfl,?_⟩
 (conv=>whnf);(repeat (refine ⟨rfl,?_⟩;conv=>whnf))
 refine cb_split (fun hc=>?_) (fun hc=>?_)
 ·have h3:10 < t.kns.length:=by rw [hkl];simp at hc;omega
  rw [if_pos h3]
  (conv=>whnf);(repeat (refine ⟨rfl,?_⟩;conv=>whnf))
  exact hlg₃
 have h3:¬ 10 < t.kns.length:=by rw [hkl];simp at hc;omega
 rw [if_neg h3]
 (conv=>whnf)
 refine ⟨Nat,fun i=>[(1,.pointer (some ⟨b,0,none⟩)),(7,.int .i64 i)],fun i σ'=>σ₃.le σ' ∧ i ≤ h.kl ∧ t.chkKns t.kns [] = t.chkKns (t.kns.drop i) ((t.kns.take i).map kn3),fun i=>h.kl - i,0,⟨rfl,rfl,trivial⟩,⟨.refl _,by omega,rfl⟩,?_⟩
 rintro k f σ₄ ⟨h₄,hk,hinvk⟩
 have hb₄:=hb₃.le h₄
 have hlg₄:=hlg₃.trans h₄.lg
 (conv=>whnf)
 refine ⟨_,hb₄.sees3 (o:=2) rfl,?_⟩
 (conv=>whnf);(repeat (refine ⟨rfl,?_⟩;conv=>whnf))
 refine cb_split (fun hc=>?_) (fun hc=>?_)
 ·have hlt:k < h.kl:=by simpa using hc
  obtain ⟨ad,x,vs,hx,hma,hsp,rfl,-,hrd⟩:=ht.kns.at hlt
  rw [drop_at hx,Tbl.chkKns] at hinvk
  (conv=>whnf)
  refine ⟨_,⟨rfl,hb₄.rdT fun _ _ h=>h⟩,?_⟩
  (conv=>whnf)
  refine ⟨Tryz.k74.any,(Tryz.refKin_ok h t (ht.lg hlg₄) k x hx).mono ?_⟩
  rintro _ σ' ⟨rfl,hσ'⟩ -
  obtain rfl:=hσ'.symm
  (conv=>whnf);(repeat (refine ⟨rfl,?_⟩;conv=>whnf))
  refine cb_split (fun hc=>?_) (fun hc=>?_)
  ·have h4:t.chkKn x ((t.kns.take k).map kn3) ≠ 0:=by simpa using hc
   rw [if_neg h4] at hinvk
   (conv=>whnf);(repeat (refine ⟨rfl,?_⟩;conv=>whnf))
   exact ⟨by rw [hinvk],hlg₄⟩
  ·have h4:t.chkKn x ((t.kns.take k).map kn3) = 0:=by simpa using hc
   rw [if_pos h4] at hinvk
   (conv=>whnf)
   refine ⟨by unfold InR;omega,?_⟩
   (conv=>whnf)
   exact ⟨rfl,k + 1,⟨rfl,rfl,trivial⟩,⟨h₄,by omega,by rw [hinvk,take_at hx,List.map_append];rfl⟩,by show _ - _ < _ - _;omega⟩
 have hge:h.kl ≤ k:=by simpa using hc
 have e2:t.chkKns t.kns [] = 0:=by rw [hinvk,List.drop_eq_nil_of_le (by omega)];rfl
 rw [e2]
 (conv=>whnf);(repeat (refine ⟨rfl,?_⟩;conv=>whnf))
 exact hlg₄
theorem Tryz.refList_ok (h:TH) (t:Tbl) (ht:TabV σ h t) (e:Int) (a:Option Addr) (len cap:Nat) (l:List Int) (hl:Ints σ a len l) (hlen:len < 2 ^ 60) :
  CallsV S 32 #[h.v,.int .i64 e,.slice a len cap] (fun v σ'=>v = .int .i64 (t.openF e [l]) ∧ σ' = σ) σ:=by
 refine CallsV.pure' (CallsV.of (args:=[_,_,_]) Tryz.k32 Tryz.mixed (by simp) ?_)
 unfold Tbl.openF
 (conv=>whnf);(repeat (refine ⟨rfl,?_⟩;conv=>whnf))
 intro b σ₁ h₁ hb
 have hb:Blk σ₁ b #[.slice h.ea h.el h.ec,.slice h.ma h.ml h.mc,.slice h.ka h.kl h.kc]:=hb
 have ht₁:=ht.lg h₁.lg
 (conv=>whnf)
 refine ⟨_,⟨rfl,hb.rdT fun _ _ h=>h⟩,?_⟩
 (conv=>whnf)
 refine ⟨Tryz.k30.any,(Tryz.refTable_ok h t ht₁).mono ?_⟩
 rintro _ σ' ⟨rfl,hσ'⟩ -
 obtain rfl:=hσ'.symm
 (conv=>whnf);(repeat (refine ⟨rfl,?_⟩;conv=>whnf))
 refine cb_split (fun hc=>?_) (fun hc=>?_)
 ·have h1:t.flaw ≠ 0:=by simpa using hc
  rw [if_neg h1]
  (conv=>whnf);(repeat (refine ⟨rfl,?_⟩;conv=>whnf))
  exact h₁.lg
 have h1:t.flaw = 0:=by simpa using hc
 rw [if_pos h1]
 (conv=>whnf)
 refine ⟨_,⟨rfl,hb.rdT fun _ _ h=>h⟩,?_⟩
 (conv=>whnf)
 refine ⟨Tryz.k75.any,(Tryz.refEdition_ok h t ht₁ e).mono ?_⟩
 rintro _ σ' ⟨rfl,hσ'⟩ -
 obtain rfl:=hσ'.symm
 (conv=>whnf);(repeat (refine ⟨rfl,?_⟩;conv=>whnf))
 refine cb_split (fun hc=>?_) (fun hc=>?_)
 ·have h2:t.isEd e = false:=by simpa using hc
  rw [h2]
  (conv=>whnf);(repeat (refine ⟨rfl,?_⟩;conv=>whnf))
  exact h₁.lg
 have h2:t.isEd e = true:=by simpa using hc
 rw [if_pos h2]
 (conv=>whnf)
 refine ⟨_,⟨rfl,hb.rdT fun _ _ h=>h⟩,?_⟩
 (conv=>whnf)
 refine ⟨Tryz.k76.any,(Tryz.listFlaw_ok h t ht₁ e h2 a len cap l (hl.lg h₁.lg) hlen).mono ?_⟩
 rintro _ σ' ⟨rfl,hσ'⟩ -
 obtain rfl:=hσ'.symm
 (conv=>whnf);(repeat (refine ⟨rfl,?_⟩;conv=>whnf))
 refine ⟨?_,h₁.lg⟩
 unfold Tbl.chkAll
 split
 ·rename_i h3;rw [h3];rfl
 ·rfl
end Go.Proofs
namespace Go.Proofs
open Go.TM
set_option maxRecDepth 100000
variable {T:Type} {S:TM.Sys Tryz.prog T} {σ:View T}
attribute [local irreducible] CallsV YieldV rngX
theorem Tryz.hasInt_ok (a:Option Addr) (len cap:Nat) (l:List Int) (hl:Ints σ a len l) (hlen:len < 2 ^ 60) (n:Int) :
  CallsV S 53 #[.slice a len cap,.int .i64 n] (fun v σ'=>v = .bool (l.contains n) ∧ σ' = σ) σ:=by
 refine CallsV.of (args:=[_,_]) Tryz.k53 Tryz.mixed (by simp) ?_
 (conv=>whnf);(repeat (refine ⟨rfl,?_⟩;conv=>whnf))
 refine ⟨Nat,fun i=>[(0,.slice a len cap),(1,.int .i64 n),(5,.int .i64 i)],fun i σ'=>σ' = σ ∧ i ≤ len ∧ n ∉ l.take i,fun i=>len - i,0,⟨rfl,rfl,rfl,trivial⟩,⟨rfl,by omega,by simp⟩,?_⟩
 rintro i f _ ⟨rfl,hi,hno⟩
 (conv=>whnf);(repeat (refine ⟨rfl,?_⟩;conv=>whnf))
 refine cb_split (fun hc=>?_) (fun hc=>?_)
 ·have hlt:i < len:=by simpa using hc
  obtain ⟨ad,x,hx,rfl,hsp,hs⟩:=hl.at hlt
  (conv=>whnf)
  refine ⟨ad,i,⟨rfl,rfl,hlt⟩,?_⟩
  (conv=>whnf)
  refine ⟨_,hs,?_⟩
  (conv=>whnf);(repeat (refine ⟨rfl,?_⟩;conv=>whnf))
  refine cb_split (fun hc=>?_) (fun hc=>?_)
  ·(conv=>whnf);(repeat (refine ⟨rfl,?_⟩;conv=>whnf))
   have hxn:x = n:=by simpa using hc
   refine ⟨?_,rfl⟩
   have:n ∈ l:=hxn ▸ List.mem_of_getElem? hx
   simp [this]
  ·have hxn:x ≠ n:=by simpa using hc
   (conv=>whnf)
   refine ⟨by unfold InR;omega,?_⟩
   (conv=>whnf)
   refine ⟨rfl,i + 1,⟨rfl,rfl,rfl,trivial⟩,⟨rfl,by omega,?_⟩,by show _ - _ < _ - _;omega⟩
   rw [take_at hx];simp [hno,Ne.symm hxn]
 ·have hge:len ≤ i:=by simpa using hc
  (conv=>whnf);(repeat (refine ⟨rfl,?_⟩;conv=>whnf))
  refine ⟨?_,rfl⟩
  have:l.take i = l:=List.take_of_length_le (by rw [hl.1];exact hge)
  rw [this] at hno
  simp [hno]
theorem Tryz.big_ok (h:TH) (t:Tbl) (ht:TabV σ h t):CallsV S 24 #[h.v] (fun v σ'=>(∃ B:Bool,v = .bool B) ∧ σ' = σ) σ:=by
 refine CallsV.pure' (CallsV.of (args:=[_]) Tryz.k24 Tryz.mixed (by simp) ?_)
 have hel:=ht.eds.1
 have hel2:=ht.el
 (conv=>whnf);(repeat (refine ⟨rfl,?_⟩;conv=>whnf))
 intro b σ₁ h₁ hb
 have hb:Blk σ₁ b #[.slice h.ea h.el h.ec,.slice h.ma h.ml h.mc,.slice h.ka h.kl h.kc]:=hb
 have htrue:∃ B:Bool,Value.bool true = .bool B:=⟨true,rfl⟩
 have loop:h.el < 2 ^ 60:=by omega
 (conv=>whnf)
 refine ⟨_,hb.sees3 (o:=0) rfl,?_⟩
 (conv=>whnf);(repeat (refine ⟨rfl,?_⟩;conv=>whnf))
 refine gb_split (fun hc=>?_) (fun hc=>?_)
 ·(conv=>whnf)
  refine ⟨_,hb.sees3 (o:=1) rfl,?_⟩
  (conv=>whnf);(repeat (refine ⟨rfl,?_⟩;conv=>whnf))
  refine gb_split (fun hc=>?_) (fun hc=>?_)
  ·(conv=>whnf)
   refine ⟨_,hb.sees3 (o:=2) rfl,?_⟩
   (conv=>whnf);(repeat (refine ⟨rfl,?_⟩;conv=>whnf))
   refine cb_split (fun hc=>?_) (fun hc=>?_)
   ·(conv=>whnf)
    exact ⟨htrue,h₁.lg⟩
   (conv=>whnf)
   refine ⟨Nat,fun i=>[(1,.pointer (some ⟨b,0,none⟩)),(3,.int .i64 i)],fun i σ'=>σ' = σ₁ ∧ i ≤ h.el,fun i=>h.el - i,0,⟨rfl,rfl,trivial⟩,⟨rfl,by omega⟩,?_⟩
   rintro i f σ' ⟨hσ',hi⟩
   obtain rfl:=hσ'.symm
   (conv=>whnf)
   refine ⟨_,hb.sees3 (o:=0) rfl,?_⟩
   (conv=>whnf);(repeat (refine ⟨rfl,?_⟩;conv=>whnf))
   refine cb_split (fun hc=>?_) (fun hc=>?_)
   ·have hlt:i < h.el:=by simpa using hc
    obtain ⟨ad,x,vs,hx,hea,hsp,⟨v,rfl,a,len,cap,rfl,hr⟩,-,hrd⟩:=ht.eds.at hlt
    have hxl:=ht.il x (List.mem_of_getElem? hx)
    have hrl:=hr.1
    (conv=>whnf)
    refine ⟨_,hb.sees3 (o:=0) rfl,?_⟩
    (conv=>whnf)
    refine ⟨ad,i,⟨hea,rfl,hlt⟩,?_⟩
    (conv=>whnf)
    refine ⟨_,(hrd 0 _ rfl).lg h₁.lg,?_⟩
    (conv=>whnf);(repeat (refine ⟨rfl,?_⟩;conv=>whnf))
    refine cb_split (fun hc=>?_) (fun hc=>?_)
    ·(conv=>whnf)
     exact ⟨htrue,h₁.lg⟩
    (conv=>whnf)
    refine ⟨Nat,fun k=>[(1,.pointer (some ⟨b,0,none⟩)),(3,.int .i64 i),(4,.int .i64 k)],fun k σ'=>σ' = σ₁ ∧ k ≤ len,fun k=>len - k,0,⟨rfl,rfl,rfl,trivial⟩,⟨rfl,by omega⟩,?_⟩
    rintro k f σ' ⟨hσ',hk⟩
    obtain rfl:=hσ'.symm
    (conv=>whnf)
    refine ⟨_,hb.sees3 (o:=0) rfl,?_⟩
    (conv=>whnf)
    refine ⟨ad,i,⟨hea,rfl,hlt⟩,?_⟩
    (conv=>whnf)
    refine ⟨_,(hrd 0 _ rfl).lg h₁.lg,?_⟩
    (conv=>whnf);(repeat (refine ⟨rfl,?_⟩;conv=>whnf))
    refine cb_split (fun hc=>?_) (fun hc=>?_)
    ·have hkt:k < len:=by simpa using hc
     obtain ⟨ad',it,vs,hx',rfl,hsp',rfl,-,hrd'⟩:=hr.at hkt
     (conv=>whnf)
     refine ⟨_,hb.sees3 (o:=0) rfl,?_⟩
     (conv=>whnf)
     refine ⟨ad,i,⟨hea,rfl,hlt⟩,?_⟩
     (conv=>whnf)
     refine ⟨_,(hrd 0 _ rfl).lg h₁.lg,?_⟩
     (conv=>whnf)
     refine ⟨ad',k,⟨rfl,rfl,hkt⟩,?_⟩
     (conv=>whnf)
     refine ⟨_,(hrd' 0 _ rfl).lg h₁.lg,?_⟩
     (conv=>whnf);(repeat (refine ⟨rfl,?_⟩;conv=>whnf))
     refine cb_split (fun hc=>?_) (fun hc=>?_)
     ·(conv=>whnf)
      exact ⟨htrue,h₁.lg⟩
     ·(conv=>whnf)
      refine ⟨by unfold InR;omega,?_⟩
      (conv=>whnf)
      exact ⟨rfl,k + 1,⟨rfl,rfl,rfl,trivial⟩,⟨rfl,by omega⟩,by show _ - _ < _ - _;omega⟩
    ·(conv=>whnf)
     refine ⟨by unfold InR;omega,?_⟩
     (conv=>whnf)
     exact ⟨rfl,i + 1,⟨rfl,rfl,trivial⟩,⟨rfl,by omega⟩,by show _ - _ < _ - _;omega⟩
   ·(conv=>whnf)
    exact ⟨⟨false,rfl⟩,h₁.lg⟩
  ·have hc:decide ((h.ml:Int) > 20) = true:=hc
   rw [hc]
   (conv=>whnf);(repeat (refine ⟨rfl,?_⟩;conv=>whnf))
   exact ⟨htrue,h₁.lg⟩
 ·have hc:decide ((h.el:Int) > 20) = true:=hc
  rw [hc]
  (conv=>whnf);(repeat (refine ⟨rfl,?_⟩;conv=>whnf))
  exact ⟨htrue,h₁.lg⟩
end Go.Proofs
