/- A part of the proof: lemmas that the last text uses. No conditions of its own. -/
import Derived.Test.YtebpcmdnecenlaaGreatH43
set_option linter.unusedSimpArgs false
set_option linter.unusedVariables false
namespace Go.TM
theorem heap_swap {m:List Int} {x y i:Nat} (hy:y<=m.length) (hi:x+i<y) (hh:Hp m x 0 (i+1)):Hp (sw m x (x+i)) x (0+1) i:=λ p c h1 h2 h3=>by
 have hc:1<=c:=by unfold Kid at h2;omega
 have hp:p<c:=by unfold Kid at h2;omega
 rw [ga_sw (by omega) (by omega),ga_sw (by omega) (by omega),if_neg (by omega),if_neg (by omega),if_neg (by omega),if_neg (by omega)]
 exact hh p c (by omega) h2 (by omega)
theorem heap_step {m m':List Int} {x y i:Nat} (hy:y<=m.length) (hi:x+i<y) (hh:Hp m x 0 (i+1)) (hs:Srt m (x+(i+1)) y) (hl:Low m x (x+(i+1)) (x+(i+1)) y) (hm:Mix x (x+i) (sw m x (x+i)) m') :
  Srt m' (x+i) y/\Low m' x (x+i) (x+i) y:=by
 have get:∀k,ga (sw m x (x+i)) k=if k=x+i then ga m x else if k=x then ga m (x+i) else ga m k:=ga_sw (by omega) (by omega)
 have top:=hh.top
 have s1:Srt (sw m x (x+i)) (x+i) y:=λ p q h1 h2 h3=>by
  rw [get,get,if_neg (show ¬q=x+i by omega),if_neg (show ¬q=x by omega)]
  by_cases e:p=x+i
  ·rw [if_pos e];exact hl x q (Nat.le_refl _) (by omega) (by omega) h3
  ·rw [if_neg e,if_neg (by omega)];exact hs p q (by omega) h2 h3
 have l1:Low (sw m x (x+i)) x (x+i) (x+i) y:=λ p q h1 h2 h3 h4=>by
  rw [get,get,if_neg (show ¬p=x+i by omega)]
  have hv:∃c,c<i+1/\(if p=x then ga m (x+i) else ga m p)=ga m (x+c):=by
   by_cases e:p=x
   ·rw [if_pos e];exact⟨i,by omega,rfl⟩
   ·rw [if_neg e];exact⟨p-x,by omega,by rw [show x+(p-x)=p by omega]⟩
  obtain⟨c,hc,ev⟩:=hv
  rw [ev]
  by_cases e:q=x+i
  ·rw [if_pos e];exact top c hc
  ·rw [if_neg e,if_neg (by omega)];exact hl (x+c) q (by omega) (by omega) (by omega) h4
 exact⟨s1.keep hm (.inr (Nat.le_refl _)),l1.mix_l hm (Nat.le_refl _)⟩
end Go.TM
namespace Go.Proofs
open Go.TM
set_option maxRecDepth 100000
variable {T:Type} {S:TM.Sys Tryz.prog T} {Z Z₀:View T}
attribute [local irreducible] CallsV YieldV rngX
theorem quo2 (n:Nat) (h:n<2 ^ 50):IntKind.wrap .i64 ((n:Int).tdiv 2)=((n / 2:Nat):Int):=by
 have e:(n:Int).tdiv 2=((n / 2:Nat):Int):=by rw [Int.tdiv_eq_ediv_of_nonneg (by omega)];omega
 rw [e,wrap_inR (by unfold InR;omega)]
theorem Tryz.heap_ok (b cap:Nat) (l:List Int) (M₀:List Res) (h:ArrOn Z₀ b cap M₀ l Z) (hcap:l.length<=cap) (hn:l.length<2 ^ 40) (x y:Nat) (hxy:x<y) (hy:y<=l.length) :
  CallsV S 138 #[.slice (some ⟨b,0,none⟩) l.length cap,.int .i64 x,.int .i64 y] (λ _ Z'=>∃l',Mix x y l l'/\Srt l' x y/\ArrOn Z₀ b cap M₀ l' Z') Z:=by
 refine CallsV.of (args:=[_,_,_]) Tryz.k138 Tryz.mixed (by simp) ?_
 refine⟨by unfold InR;omega,?_⟩
 rw [show (y:Int)-x=((y-x:Nat):Int) by omega]
 generalize hk:y-x=n
 refine⟨by unfold InR;omega,?_⟩
 rw [show (n:Int)-1=((n-1:Nat):Int) by omega]
 repeat refine⟨rfl,?_⟩
 refine⟨by decide,?_⟩
 rw [quo2 (n-1) (by omega)]
 refine⟨Int×List Int,λ z=>[(0,.slice (some ⟨b,0,none⟩) l.length cap),(6,.int .i64 x),(7,.int .i64 0),(8,.int .i64 n),(9,.int .i64 z.1)],
  λ z Z'=>ArrOn Z₀ b cap M₀ z.2 Z'/\Mix x y l z.2 /\ -1<=z.1/\z.1<2 ^ 40/\Hp z.2 x (z.1+1).toNat n,
  λ z=>(z.1+1).toNat,(((n-1) / 2:Nat),l),⟨rfl,rfl,rfl,rfl,rfl,trivial⟩,⟨h,.refl ..,by simp only;omega,by simp only;omega,λ p c h1 h2 h3=>by simp only at h1;unfold Kid at h2;omega⟩,?_⟩
 rintro⟨i,m⟩ f Z1 ⟨hA,hm,hi1,hi2,hh⟩
 simp only at hA hm hi1 hi2 hh
 have hml:=hm.len
 repeat refine⟨rfl,?_⟩
 conv=>whnf
 apply cb_split<;>intro hc
 ·have h0:0<=i:=by simpa using hc
  obtain⟨k,rfl⟩:=Int.eq_ofNat_of_zero_le h0
  have e1:((k:Int)+1).toNat=k+1:=by omega
  rw [e1] at hh
  conv=>whnf
  have hs:=Tryz.sift_ok (S:=S) b cap m M₀ hA (by omega) (by omega) k n x (by omega) (by omega) hh
  rw [hml] at hs
  refine⟨Tryz.k173.any,hs.mono ?_⟩
  rintro _ Z2 ⟨m',hm',hh',hA'⟩ -
  rw [show x+n=y by omega] at hm'
  repeat refine⟨rfl,?_⟩
  refine⟨by show InR ((k:Int)-1);unfold InR;omega,?_⟩
  conv=>whnf
  exact⟨rfl,((k:Int)-1,m'),⟨rfl,rfl,rfl,rfl,rfl,trivial⟩,⟨hA',hm.trans hm',by simp only;omega,by simp only;omega,by rw [show ((k:Int)-1+1).toNat=k by omega];exact hh'⟩,by show ((k:Int)-1+1).toNat<((k:Int)+1).toNat;omega⟩
 ·have h0:i = -1:=by have:¬(0<=i):=by simpa using hc
                     omega
  subst h0
  have hh:Hp m x 0 n:=hh
  repeat refine⟨rfl,?_⟩
  refine⟨by unfold InR;omega,?_⟩
  refine⟨Int×List Int,λ z=>[(0,.slice (some ⟨b,0,none⟩) l.length cap),(6,.int .i64 x),(7,.int .i64 0),(8,.int .i64 n),(10,.int .i64 z.1)],
   λ z Z'=>ArrOn Z₀ b cap M₀ z.2 Z'/\Mix x y l z.2 /\ -1<=z.1/\z.1<n/\Hp z.2 x 0 (z.1+1).toNat/\Srt z.2 (x+(z.1+1).toNat) y/\Low z.2 x (x+(z.1+1).toNat) (x+(z.1+1).toNat) y,
   λ z=>(z.1+1).toNat,((n:Int)-1,m),⟨rfl,rfl,rfl,rfl,rfl,trivial⟩,⟨hA,hm,by simp only;omega,by simp only;omega,by rw [show ((n:Int)-1+1).toNat=n by omega];exact hh,.one _ _ _ (by simp only;omega),λ p q _ _ h1 h2=>by simp only at h1;omega⟩,?_⟩
  clear hA hm hh hml
  rintro⟨i,m⟩ f Z1 ⟨hA,hm,hi1,hi2,hh,hs,hl⟩
  simp only at hA hm hi1 hi2 hh hs hl
  have hml:=hm.len
  repeat refine⟨rfl,?_⟩
  conv=>whnf
  apply cb_split<;>intro hc
  ·have h0:0<=i:=by simpa using hc
   obtain⟨k,rfl⟩:=Int.eq_ofNat_of_zero_le h0
   have e1:((k:Int)+1).toNat=k+1:=by omega
   rw [e1] at hh hs hl
   have hx:x<m.length:=by omega
   have hxk:x+k<m.length:=by omega
   refine⟨λ Z'=>ArrOn Z₀ b cap M₀ (m.set x (ga m (x+k))) Z',λ _ _ h hle=>h.le hle,?_⟩
   refine⟨by show InR ((x:Int)+(k:Int));unfold InR;omega,?_⟩
   refine⟨by show InR ((x:Int)+(k:Int));unfold InR;omega,?_⟩
   refine⟨_,x+k,⟨rfl,rfl,by omega⟩,?_⟩
   refine⟨_,hA.at hxk,?_⟩
   refine⟨_,x,⟨rfl,rfl,by omega⟩,?_⟩
   refine⟨_,hA.at hx,?_⟩
   refine⟨_,x,⟨rfl,rfl,by omega⟩,?_⟩
   conv=>whnf
   intro Z4 h_4 _
   refine⟨⟨rfl,(hA.le h_4).st (by omega) x _ hx λ _ h=>⟨rfl,_,.refl _,h⟩⟩,λ Z5 hG=>?_⟩
   refine⟨_,x+k,⟨rfl,rfl,by omega⟩,?_⟩
   refine⟨rfl,hG.st (by simpa using (by omega:m.length<=cap)) (x+k) _ (by simpa using hxk) λ Z6 hA6=>?_⟩
   have hA6:ArrOn Z₀ b cap M₀ (sw m x (x+k)) Z6:=hA6
   have hsl:=sw_len m x (x+k)
   have hq:=Tryz.sift_ok (S:=S) b cap (sw m x (x+k)) M₀ hA6 (by omega) (by omega) 0 k x (by omega) (by omega) (heap_swap (y:=y) (by omega) (by omega) hh)
   rw [hsl,hml] at hq
   refine⟨Tryz.k173.any,hq.mono ?_⟩
   rintro _ Z2 ⟨m',hm',hh',hA'⟩ -
   obtain⟨s2,l2⟩:=heap_step (by omega) (by omega) hh hs hl hm'
   repeat refine⟨rfl,?_⟩
   refine⟨by show InR ((k:Int)-1);unfold InR;omega,?_⟩
   conv=>whnf
   have e2:((k:Int)-1+1).toNat=k:=by omega
   exact⟨rfl,((k:Int)-1,m'),⟨rfl,rfl,rfl,rfl,rfl,trivial⟩,⟨hA',hm.trans ((Mix.sw (by omega) (by omega) (by omega) (by omega) (by omega)).trans (hm'.widen (Nat.le_refl _) (by omega))),by simp only;omega,by simp only;omega,by rw [e2];exact hh',by rw [e2];exact s2,by rw [e2];exact l2⟩,by show ((k:Int)-1+1).toNat<((k:Int)+1).toNat;omega⟩
  ·have h0:i = -1:=by have:¬(0<=i):=by simpa using hc
                      omega
   subst h0
   repeat refine⟨rfl,?_⟩
   conv=>whnf
   exact⟨m,hm,hs,hA⟩
end Go.Proofs
namespace Go.TM
variable {T:Type} {Z:View T}
theorem st_one {b:Nat} {t:TypeId} {v_0 v:Value} {M₀:List Res} {Q:View T->Prop} (X:List Res) (hM:Z.M=X++.obj b (.cells #[v_0] t (0,0))::M₀) (hs:v.single=true)
  (h:∀τ:View T,(∀x o,Z.I x=some o->τ.I x=some o)->τ.tok=Z.tok->τ.M=X++.obj b (.cells #[v] t (0,0))::M₀->Q τ):StV ⟨b,0,none⟩ [v] 0 (λ Z'=>∃Z1,Shift Z' Z1/\Q Z1) Z:=
 st_all X hM rfl (by simpa using hs) (h _ (λ _ _ h=>h) rfl rfl)
end Go.TM
namespace Go.Proofs
open Go.TM
set_option maxRecDepth 100000
variable {T:Type} {S:TM.Sys Tryz.prog T} {Z Z₀:View T}
attribute [local irreducible] CallsV YieldV rngX
theorem Tryz.next_ok (h:Nat) (e:Int) (X M₁:List Res) (Z₀:View T) (hI:∀x o,Z₀.I x=some o->Z.I x=some o) (ht:Z.tok=Z₀.tok) (hM:Z.M=X++.obj h (.cells #[.int .u64 e] 209 (0,0))::M₁) :
  CallsV S 175 #[.pointer (some ⟨h,0,none⟩)] (λ v Z'=>∃e':Int,v=.int .u64 e'/\(∀x o,Z₀.I x=some o->Z'.I x=some o)/\Z'.tok=Z₀.tok/\Z'.M=X++.obj h (.cells #[.int .u64 e'] 209 (0,0))::M₁) Z:=by
 refine CallsV.of (args:=[_]) Tryz.k175 Tryz.mixed (by simp) ?_
 refine⟨_,reads_at X hM 0 _ rfl,?_⟩
 refine⟨_,reads_at X hM 0 _ rfl,?_⟩
 refine⟨by decide,?_⟩
 conv=>whnf
 intro Z1 h_1 _
 have hM_1:=h_1.own.trans hM
 refine⟨rfl,?_⟩
 refine⟨rfl,?_⟩
 show StV ⟨h,0,none⟩ [.int .u64 _] 0 _ _
 refine st_one X hM_1 rfl λ τ₁ hJ1 hT1 hN_1=>?_
 have hJ1:∀x o,Z₀.I x=some o->τ₁.I x=some o:=λ x o g=>hJ1 x o (h_1.imm x o (hI x o g))
 have hT1:=hT1.trans (h_1.tok.trans ht)
 refine⟨_,reads_at X hN_1 0 _ rfl,?_⟩
 refine⟨_,reads_at X hN_1 0 _ rfl,?_⟩
 refine⟨by decide,?_⟩
 conv=>whnf
 intro Z2 h_2 _
 have hM2:=h_2.own.trans hN_1
 refine⟨rfl,?_⟩
 refine⟨rfl,?_⟩
 show StV ⟨h,0,none⟩ [.int .u64 _] 0 _ _
 refine st_one X hM2 rfl λ τ₂ hJ2 hT2 hN_2=>?_
 have hJ2:∀x o,Z₀.I x=some o->τ₂.I x=some o:=λ x o g=>hJ2 x o (h_2.imm x o (hJ1 x o g))
 have hT2:=hT2.trans (h_2.tok.trans hT1)
 refine⟨_,reads_at X hN_2 0 _ rfl,?_⟩
 refine⟨_,reads_at X hN_2 0 _ rfl,?_⟩
 refine⟨by decide,?_⟩
 conv=>whnf
 intro Z3 h_3 _
 have hM3:=h_3.own.trans hN_2
 refine⟨rfl,?_⟩
 refine⟨rfl,?_⟩
 show StV ⟨h,0,none⟩ [.int .u64 _] 0 _ _
 refine st_one X hM3 rfl λ τ₃ hJ3 hT3 hN3=>?_
 have hJ3:∀x o,Z₀.I x=some o->τ₃.I x=some o:=λ x o g=>hJ3 x o (h_3.imm x o (hJ2 x o g))
 have hT3:=hT3.trans (h_3.tok.trans hT2)
 refine⟨_,reads_at X hN3 0 _ rfl,?_⟩
 conv=>whnf
 exact⟨_,rfl,hJ3,hT3,hN3⟩
end Go.Proofs
namespace Go.TM
def lenT:ByteArray:=⟨#[0,1,2,2,3,3,3,3,4,4,4,4,4,4,4,4,5,5,5,5,5,5,5,5,5,5,5,5,5,5,5,5,6,6,6,6,6,6,6,6,6,6,6,6,6,6,6,6,6,6,6,6,6,6,6,6,6,6,6,6,6,6,6,6,7,7,7,7,7,7,7,7,7,7,7,7,7,7,7,7,7,7,7,7,7,7,7,7,7,7,7,7,7,7,7,7,7,7,7,7,7,7,7,7,7,7,7,7,7,7,7,7,7,7,7,7,7,7,7,7,7,7,7,7,7,7,7,7,8,8,8,8,8,8,8,8,8,8,8,8,8,8,8,8,8,8,8,8,8,8,8,8,8,8,8,8,8,8,8,8,8,8,8,8,8,8,8,8,8,8,8,8,8,8,8,8,8,8,8,8,8,8,8,8,8,8,8,8,8,8,8,8,8,8,8,8,8,8,8,8,8,8,8,8,8,8,8,8,8,8,8,8,8,8,8,8,8,8,8,8,8,8,8,8,8,8,8,8,8,8,8,8,8,8,8,8,8,8,8,8,8,8,8,8,8,8,8,8,8,8,8,8,8,8,8,8]⟩
theorem lenT_ok:((List.range 256).all λ n=>match lenT[n]? with | some b=>decide (b.toNat<=8) && (n == 0 || decide (2 ^ b.toNat<=2*n)) | none=>false)=true:=by kernel_rfl
theorem len_of {n:Nat} {K:UInt8->Prop} (h:n<256) (h1:1<=n) (hK:∀c:UInt8,c.toNat<=8->2 ^ c.toNat<=2*n->K c):∃(j:Nat) (b:UInt8),((n:Int)=j/\lenT[j]?=some b)/\K b:=by
 have:=List.all_eq_true.1 lenT_ok n (List.mem_range.2 h)
 cases hb:lenT[n]? with
 | none=>rw [hb] at this;cases this
 | some b=>
  rw [hb] at this
  simp only [Bool.and_eq_true,Bool.or_eq_true,decide_eq_true_eq,beq_iff_eq] at this
  exact⟨n,b,⟨rfl,hb⟩,hK b this.1 (by omega)⟩
end Go.TM
namespace Go.Proofs
open Go.TM
set_option maxRecDepth 100000
variable {T:Type} {S:TM.Sys Tryz.prog T} {Z Z₀:View T}
attribute [local irreducible] CallsV YieldV rngX
theorem Tryz.bitlen_ok (n:Nat) (hn:n<256) (h1:1<=n):CallsV S 147 #[.int .u64 n] (λ v Z'=>(∃m:Nat,v=.int .i64 m/\m<=8/\2 ^ m<=2*n)/\Z'=Z) Z:=by
 refine CallsV.pure' (Q:=λ v=>∃m:Nat,v=.int .i64 m/\m<=8/\2 ^ m<=2*n) (CallsV.of (args:=[_]) Tryz.k147 Tryz.mixed (by simp) ?_)
 repeat refine⟨rfl,?_⟩
 conv=>whnf
 apply cb_split<;>intro hc
 ·simp at hc;omega
 repeat refine⟨rfl,?_⟩
 conv=>whnf
 apply cb_split<;>intro hc
 ·simp at hc;omega
 repeat refine⟨rfl,?_⟩
 conv=>whnf
 apply cb_split<;>intro hc
 ·simp at hc;omega
 conv=>whnf
 have hw:IntKind.wrap .u8 (n:Int)=n:=by
  have e1:(2:Int) ^ 8=256:=by decide
  simp only [IntKind.wrap,IntKind.bits,IntKind.signed,Bool.false_and,e1]
  simp
  omega
 rw [hw]
 refine len_of hn h1 λ c hc8 hc2=>?_
 have hw2:IntKind.wrap .i64 (c.toNat:Int)=c.toNat:=wrap_inR (by unfold InR;omega)
 conv=>whnf
 rw [hw2]
 refine⟨by unfold InR;omega,?_⟩
 refine⟨⟨c.toNat,?_,hc8,hc2⟩,(View.le.refl _).lg⟩
 show Value.int .i64 (0+(c.toNat:Int))=_
 rw [Int.zero_add]
theorem Tryz.bitlen2_ok (n:Nat) (hn:n<256) (h1:1<=n):CallsV S 111 #[.int .u64 n] (λ v Z'=>(∃m:Nat,v=.int .i64 m/\m<=8/\2 ^ m<=2*n)/\Z'=Z) Z:=by
 refine CallsV.pure' (Q:=λ v=>∃m:Nat,v=.int .i64 m/\m<=8/\2 ^ m<=2*n) (CallsV.of (args:=[_]) Tryz.k111 Tryz.mixed (by simp) ?_)
 refine⟨Tryz.k147.any,(Tryz.bitlen_ok n hn h1).mono ?_⟩
 rintro _ Z' ⟨⟨m,rfl,k1,k2⟩,hZ'⟩ -
 obtain rfl:=hZ'.symm
 repeat refine⟨rfl,?_⟩
 conv=>whnf
 exact⟨⟨m,rfl,k1,k2⟩,(View.le.refl _).lg⟩
theorem Tryz.pow2_ok (n:Nat) (hn:n<256) (h1:1<=n):CallsV S 174 #[.int .i64 n] (λ v Z'=>(∃m:Nat,v=.int .u64 m/\1<=m/\m<=2*n)/\Z'=Z) Z:=by
 refine CallsV.pure' (Q:=λ v=>∃m:Nat,v=.int .u64 m/\1<=m/\m<=2*n) (CallsV.of (args:=[_]) Tryz.k174 Tryz.mixed (by simp) ?_)
 conv=>whnf
 have hw:IntKind.wrap .u64 (n:Int)=n:=by
  have e1:(2:Int) ^ 64=18446744073709551616:=by decide
  simp only [IntKind.wrap,IntKind.bits,IntKind.signed,Bool.false_and,e1]
  simp
  omega
 rw [hw]
 refine⟨Tryz.k111.any,(Tryz.bitlen2_ok n hn h1).mono ?_⟩
 rintro _ Z' ⟨⟨m,rfl,k1,k2⟩,hZ'⟩ -
 obtain rfl:=hZ'.symm
 refine⟨by omega,?_⟩
 refine⟨⟨2 ^ m,?_,Nat.one_le_two_pow,k2⟩,(View.le.refl _).lg⟩
 congr 1
 have key:∀m:Fin 9,IntKind.wrap .u64 (1*2 ^ min ((m.1:Nat):Int).toNat IntKind.u64.bits)=((2 ^ m.1:Nat):Int):=by decide
 exact key ⟨m,by omega⟩
end Go.Proofs
namespace Go.TM
theorem and_lt (e:Int) (m:Nat) (h1:1<=m) (h2:m<2 ^ 20):∃r:Nat,IntKind.wrap .u64 ((BitVec.ofInt (IntKind.bits .u64) e &&& BitVec.ofInt (IntKind.bits .u64) ((m-1:Nat):Int)).toNat:Nat)=(r:Int)/\r<m:=by
 show ∃r:Nat,IntKind.wrap .u64 (((BitVec.ofInt 64 e &&& BitVec.ofInt 64 ((m-1:Nat):Int)).toNat:Nat):Int)=(r:Int)/\r<m
 have e2:(BitVec.ofInt 64 ((m-1:Nat):Int)).toNat=m-1:=by rw [BitVec.ofInt_natCast,BitVec.toNat_ofNat,Nat.mod_eq_of_lt (by omega)]
 have h:(BitVec.ofInt 64 e &&& BitVec.ofInt 64 ((m-1:Nat):Int)).toNat<=m-1:=by
  rw [BitVec.toNat_and,e2];exact Nat.and_le_right
 generalize (BitVec.ofInt 64 e &&& BitVec.ofInt 64 ((m-1:Nat):Int)).toNat=r at h
 refine⟨r,?_,by omega⟩
 show IntKind.wrap .u64 (r:Int)=r
 have e1:(2:Int) ^ 64=18446744073709551616:=by decide
 simp only [IntKind.wrap,IntKind.bits,IntKind.signed,Bool.false_and,e1]
 simp
 omega
end Go.TM
namespace Go.Proofs
open Go.TM
set_option maxRecDepth 100000
variable {T:Type} {S:TM.Sys Tryz.prog T} {Z Z₀:View T}
attribute [local irreducible] CallsV YieldV rngX
theorem wrapU {n:Nat} (h:n<2 ^ 60):IntKind.wrap .u64 (n:Int)=n:=by
 have e1:(2:Int) ^ 64=18446744073709551616:=by decide
 simp only [IntKind.wrap,IntKind.bits,IntKind.signed,Bool.false_and,e1]
 simp
 omega
theorem Tryz.break_ok (b cap:Nat) (l:List Int) (M₀:List Res) (h:ArrOn Z₀ b cap M₀ l Z) (hcap:l.length<=cap) (hn:l.length<200) (x y:Nat) (hxy:x<y) (hy:y<=l.length) :
  CallsV S 139 #[.slice (some ⟨b,0,none⟩) l.length cap,.int .i64 x,.int .i64 y] (λ _ Z'=>∃l',Mix x y l l'/\ArrOn Z₀ b cap M₀ l' Z') Z:=by
 refine CallsV.post (R:=λ _ Z'=>∃l':List Int,Mix x y l l'/\∃A,ArrOn Z₀ b cap (A++M₀) l' Z') (CallsV.of (args:=[_,_,_]) Tryz.k139 Tryz.mixed (by simp) ?_) ?_
 rotate_left
 ·rintro v Z' ⟨l',hm,A,hA⟩
  obtain⟨c,h1,h2⟩:=hA.mem
  exact⟨{ Z' with M:=.obj b (.cells c 3 (0,0))::M₀ },shift_drop (M':=.obj b (.cells c 3 (0,0))::M₀) (by rw [h1];exact (List.sublist_append_right ..).cons_cons _),l',hm,hA.imm,hA.tok,c,rfl,h2⟩
 refine⟨by unfold InR;omega,?_⟩
 rw [show (y:Int)-x=((y-x:Nat):Int) by omega]
 generalize hk:y-x=n
 repeat refine⟨rfl,?_⟩
 conv=>whnf
 apply cb_split<;>intro hc
 ·have h8:8<=n:=by have:=of_decide_eq_true hc;omega
  conv=>whnf
  rw [wrapU (by omega)]
  obtain⟨c,hM,hsz,hcc⟩:=h.mem
  intro h7 hf7
  refine⟨{ Z.put h7 (.cells #[.int .u64 0] 209) with M:=.obj b (.cells c 3 (0,0))::.obj h7 (.cells #[.int .u64 0] 209 (0,0))::M₀ },?_,?_⟩
  ·refine shift_perm ?_
   show List.Perm (.obj h7 _::Z.M) _
   rw [hM]
   exact List.Perm.swap ..
  have hI:∀x o,Z₀.I x=some o->(Z.put h7 (.cells #[.int .u64 0] 209)).I x=some o:=λ x o g=>(lg_put _ _).imm x o (h.imm x o g)
  refine⟨rfl,?_⟩
  show StV ⟨h7,0,none⟩ [.int .u64 n] 0 _ _
  refine st_one [.obj b (.cells c 3 (0,0))] rfl rfl λ τ hJ hT hN=>?_
  have hA:ArrOn Z₀ b cap (.obj h7 (.cells #[.int .u64 n] 209 (0,0))::M₀) l τ:=⟨λ x o g=>hJ x o (hI x o g),hT.trans h.tok,c,hN,hsz,hcc⟩
  clear hJ hT hN hI hM hcc
  refine⟨Tryz.k174.any,(Tryz.pow2_ok n (by omega) (by omega)).mono ?_⟩
  rintro _ Z' ⟨⟨m,rfl,hm1,hm2⟩,hZ'⟩ -
  obtain rfl:=hZ'.symm
  repeat refine⟨rfl,?_⟩
  refine⟨by decide,?_⟩
  rw [quo4 n (by omega)]
  refine⟨by unfold InR;omega,?_⟩
  refine⟨by unfold InR;omega,?_⟩
  refine⟨by unfold InR;omega,?_⟩
  rw [show (x:Int)+((n / 4:Nat):Int)*2-1=((x+n / 4*2-1:Nat):Int) by omega]
  refine⟨Nat×List Int×Int,λ z=>[(0,.slice (some ⟨b,0,none⟩) l.length cap),(1,.int .i64 x),(6,.int .i64 n),(7,.pointer (some ⟨h7,0,none⟩)),(8,.int .u64 m),(9,.int .i64 z.1)],
   λ z Z'=>ArrOn Z₀ b cap (.obj h7 (.cells #[.int .u64 z.2.2] 209 (0,0))::M₀) z.2.1 Z'/\Mix x y l z.2.1/\x+1<=z.1/\z.1<=x+n / 4*2+2,λ z=>x+n / 4*2+2-z.1,(x+n / 4*2-1,l,n),⟨rfl,rfl,rfl,rfl,rfl,rfl,trivial⟩,⟨hA,.refl ..,by simp only;omega,by simp only;omega⟩,?_⟩
  clear hA
  rintro⟨i,q,e⟩ f Z1 ⟨hA,hm,hi1,hi2⟩
  simp only at hA hm hi1 hi2
  have hml:=hm.len
  repeat refine⟨rfl,?_⟩
  refine⟨by decide,?_⟩
  rw [quo4 n (by omega)]
  refine⟨by unfold InR;omega,?_⟩
  refine⟨by unfold InR;omega,?_⟩
  refine⟨by unfold InR;omega,?_⟩
  repeat refine⟨rfl,?_⟩
  conv=>whnf
  apply cb_split<;>intro hc
  ·have hle:i<=x+n / 4*2+1:=by have:=of_decide_eq_true hc;simp only at this;omega
   obtain⟨c,hM,hsz,hcc⟩:=hA.mem
   refine⟨Tryz.k175.any,(Tryz.next_ok h7 e [.obj b (.cells c 3 (0,0))] M₀ Z₀ hA.imm hA.tok hM).mono ?_⟩
   rintro _ Z2 ⟨e',rfl,hI_2,hT2,hM2⟩ -
   have hA:ArrOn Z₀ b cap (.obj h7 (.cells #[.int .u64 e'] 209 (0,0))::M₀) q Z2:=⟨hI_2,hT2,c,hM2,hsz,hcc⟩
   clear hI_2 hT2 hM2 hM hcc
   refine⟨rfl,?_⟩
   have ew:IntKind.wrap .u64 ((m:Int)-1)=((m-1:Nat):Int):=by rw [show (m:Int)-1=((m-1:Nat):Int) by omega,wrapU (by omega)]
   rw [ew]
   refine⟨rfl,?_⟩
   obtain⟨r,er,hr⟩:=and_lt e' m hm1 (by omega)
   rw [er]
   have ew2:IntKind.wrap .i64 (r:Int)=r:=wrap_inR (by unfold InR;omega)
   conv=>whnf
   rw [ew2]
   repeat refine⟨rfl,?_⟩
   conv=>whnf
   apply cb_split<;>intro hc
   ·have hge:n<=r:=by have:=of_decide_eq_true hc;omega
    refine⟨by show InR ((r:Int)-(n:Int));unfold InR;omega,?_⟩
    rw [show (r:Int)-n=((r-n:Nat):Int) by omega]
    have hio:x+(r-n)<q.length:=by omega
    have hii:i<q.length:=by omega
    refine⟨λ Z'=>ArrOn Z₀ b cap (.obj h7 (.cells #[.int .u64 e'] 209 (0,0))::M₀) (q.set i (ga q (x+(r-n)))) Z',λ _ _ h hle=>h.le hle,?_⟩
    refine⟨by show InR ((x:Int)+(((r-n):Nat):Int));unfold InR;omega,?_⟩
    refine⟨by show InR ((x:Int)+(((r-n):Nat):Int));unfold InR;omega,?_⟩
    refine⟨_,x+(r-n),⟨rfl,rfl,by omega⟩,?_⟩
    refine⟨_,hA.at hio,?_⟩
    refine⟨_,i,⟨rfl,rfl,by omega⟩,?_⟩
    refine⟨_,hA.at hii,?_⟩
    refine⟨_,i,⟨rfl,rfl,by omega⟩,?_⟩
    conv=>whnf
    intro Z4 h_4 _
    refine⟨⟨rfl,(hA.le h_4).st (by omega) i _ hii λ _ h=>⟨rfl,_,.refl _,h⟩⟩,λ Z5 hG=>?_⟩
    refine⟨_,x+(r-n),⟨rfl,rfl,by omega⟩,?_⟩
    refine⟨rfl,hG.st (by simpa using (by omega:q.length<=cap)) (x+(r-n)) _ (by simpa using hio) λ Z6 hA6=>?_⟩
    refine⟨by show InR ((i:Int)+1);unfold InR;omega,?_⟩
    conv=>whnf
    exact⟨rfl,(i+1,sw q i (x+(r-n)),e'),⟨rfl,rfl,rfl,rfl,rfl,rfl,trivial⟩,⟨hA6,hm.trans (Mix.sw (by omega) (by omega) (by omega) (by omega) (by omega)),by simp only;omega,by simp only;omega⟩,by show x+n / 4*2+2-(i+1)<x+n / 4*2+2-i;omega⟩
   ·have hlt:r<n:=by have:=of_decide_eq_false hc;omega
    have hio:x+r<q.length:=by omega
    have hii:i<q.length:=by omega
    refine⟨λ Z'=>ArrOn Z₀ b cap (.obj h7 (.cells #[.int .u64 e'] 209 (0,0))::M₀) (q.set i (ga q (x+r))) Z',λ _ _ h hle=>h.le hle,?_⟩
    refine⟨by show InR ((x:Int)+((r:Nat):Int));unfold InR;omega,?_⟩
    refine⟨by show InR ((x:Int)+((r:Nat):Int));unfold InR;omega,?_⟩
    refine⟨_,x+r,⟨rfl,rfl,by omega⟩,?_⟩
    refine⟨_,hA.at hio,?_⟩
    refine⟨_,i,⟨rfl,rfl,by omega⟩,?_⟩
    refine⟨_,hA.at hii,?_⟩
    refine⟨_,i,⟨rfl,rfl,by omega⟩,?_⟩
    conv=>whnf
    intro Z4 h_4 _
    refine⟨⟨rfl,(hA.le h_4).st (by omega) i _ hii λ _ h=>⟨rfl,_,.refl _,h⟩⟩,λ Z5 hG=>?_⟩
    refine⟨_,x+r,⟨rfl,rfl,by omega⟩,?_⟩
    refine⟨rfl,hG.st (by simpa using (by omega:q.length<=cap)) (x+r) _ (by simpa using hio) λ Z6 hA6=>?_⟩
    refine⟨by show InR ((i:Int)+1);unfold InR;omega,?_⟩
    conv=>whnf
    exact⟨rfl,(i+1,sw q i (x+r),e'),⟨rfl,rfl,rfl,rfl,rfl,rfl,trivial⟩,⟨hA6,hm.trans (Mix.sw (by omega) (by omega) (by omega) (by omega) (by omega)),by simp only;omega,by simp only;omega⟩,by show x+n / 4*2+2-(i+1)<x+n / 4*2+2-i;omega⟩
  ·have hge:x+n / 4*2+1<i:=by have:=of_decide_eq_false hc;simp only at this;omega
   repeat refine⟨rfl,?_⟩
   conv=>whnf
   exact⟨q,hm,[_],hA⟩
 ·repeat refine⟨rfl,?_⟩
  conv=>whnf
  exact⟨l,.refl ..,[],h⟩
theorem Tryz.partEq_ok (b cap:Nat) (l:List Int) (M₀:List Res) (h:ArrOn Z₀ b cap M₀ l Z) (hcap:l.length<=cap) (hn:l.length<2 ^ 40) (x y p:Nat) (hxp:x<=p) (hpy:p<y) (hy:y<=l.length) :
  CallsV S 144 #[.slice (some ⟨b,0,none⟩) l.length cap,.int .i64 x,.int .i64 y,.int .i64 p] (λ v Z'=>∃(q:Nat) (l':List Int),v=.int .i64 q/\Mix x y l l'/\x<q/\q<=y/\(∀k,x<=k->k<q->ga l' k<=ga l p)/\(∀k,q<=k->k<y->ga l p<ga l' k)/\ArrOn Z₀ b cap M₀ l' Z') Z:=by
 refine CallsV.of (args:=[_,_,_,_]) Tryz.k144 Tryz.mixed (by simp) ?_
 have hA:=h
 have hi:x<l.length:=by omega
 have hj:p<l.length:=by omega
 refine⟨λ Z'=>ArrOn Z₀ b cap M₀ (l.set (x) (ga l (p))) Z',λ _ _ h hle=>h.le hle,?_⟩
 refine⟨_,p,⟨rfl,rfl,by omega⟩,?_⟩
 refine⟨_,hA.at hj,?_⟩
 refine⟨_,x,⟨rfl,rfl,by omega⟩,?_⟩
 refine⟨_,hA.at hi,?_⟩
 refine⟨_,x,⟨rfl,rfl,by omega⟩,?_⟩
 conv=>whnf
 intro Zs hs _
 refine⟨⟨rfl,(hA.le hs).st (by omega) (x) _ hi λ _ h=>⟨rfl,_,.refl _,h⟩⟩,λ Zt hG=>?_⟩
 refine⟨_,p,⟨rfl,rfl,by omega⟩,?_⟩
 refine⟨rfl,hG.st (by simpa using (by omega:l.length<=cap)) (p) _ (by simpa using hj) λ Zu hA=>?_⟩
 clear hG hs
 have hA:ArrOn Z₀ b cap M₀ (sw l (x) (p)) Zu:=hA
 have hpv:ga (sw l x p) x=ga l p:=by
  rw [ga_sw hi hj]
  by_cases e:x=p
  ·rw [if_pos e,e]
  ·rw [if_neg e,if_pos rfl]
 have hm0:Mix x y l (sw l x p):=Mix.sw (by omega) (by omega) (by omega) (by omega) (by omega)
 clear hi hj h
 refine⟨by unfold InR;omega,?_⟩
 refine⟨by unfold InR;omega,?_⟩
 rw [show (y:Int)-1=((y-1:Nat):Int) by omega]
 refine⟨Nat×Nat×List Int,λ z=>[(0,.slice (some ⟨b,0,none⟩) l.length cap),(1,.int .i64 x),(9,.int .i64 z.1),(10,.int .i64 z.2.1)],
  λ z Z'=>ArrOn Z₀ b cap M₀ z.2.2 Z'/\Mix x y l z.2.2/\ga z.2.2 x=ga l p/\x<z.1/\z.1<=z.2.1+1/\z.2.1<y/\(∀k,x<=k->k<z.1->ga z.2.2 k<=ga l p)/\(∀k,z.2.1<k->k<y->ga l p<ga z.2.2 k),λ z=>z.2.1+1-z.1,(x+1,y-1,sw l x p),
  ⟨rfl,rfl,rfl,rfl,trivial⟩,⟨hA,hm0,hpv,by simp only;omega,by simp only;omega,by simp only;omega,λ k h1 (h2:k<x+1)=>by rw [show k=x by omega];exact Int.le_of_eq hpv,λ k (h1:y-1<k) h2=>by omega⟩,?_⟩
 clear hA hm0 hpv
 rintro⟨i,j,m⟩ f Z1 ⟨hA,hm,hpv,hi0,hij,hjy,hlo,hhi⟩
 simp only at hA hm hpv hi0 hij hjy hlo hhi
 have hml:=hm.len
 have hxl:x<m.length:=by omega
 refine⟨Nat,λ z=>[(0,.slice (some ⟨b,0,none⟩) l.length cap),(1,.int .i64 x),(9,.int .i64 z),(10,.int .i64 j)],
  λ z Z'=>ArrOn Z₀ b cap M₀ m Z'/\i<=z/\z<=j+1/\(∀k,x<=k->k<z->ga m k<=ga l p),λ z=>j+1-z,i,⟨rfl,rfl,rfl,rfl,trivial⟩,⟨hA,Nat.le_refl _,hij,hlo⟩,?_⟩
 clear hA hlo
 rintro z f Z1 ⟨hA,hz0,hzj,hlo⟩
 have after:∀{Q:Prop},Q->Q:=λ h=>h
 repeat refine⟨rfl,?_⟩
 conv=>whnf
 by_cases hz:z<=j
 ·rw [show decide ((z:Int)<=(j:Int))=true from decide_eq_true (by omega)]
  have hzl:z<m.length:=by omega
  refine⟨_,x,⟨rfl,rfl,by omega⟩,?_⟩
  refine⟨_,hA.at hxl,?_⟩
  refine⟨_,z,⟨rfl,rfl,by omega⟩,?_⟩
  refine⟨_,hA.at hzl,?_⟩
  conv=>whnf
  intro Z3 h_3 _
  have hA:=hA.le h_3
  refine⟨Tryz.k143.any,(Tryz.less_ok (ga m (x)) (ga m (z))).go λ _=>?_⟩
  repeat refine⟨rfl,?_⟩
  conv=>whnf
  apply cb_split<;>intro hc
  ·have hge:¬ga m x<ga m z:=by simpa using hc
   refine⟨by unfold InR;omega,?_⟩
   refine⟨rfl,z+1,⟨rfl,rfl,rfl,rfl,trivial⟩,⟨hA,by omega,by omega,λ k h1 h2=>?_⟩,by show _-_<_-_;omega⟩
   by_cases e:k=z
   ·rw [e];omega
   ·exact hlo k h1 (by omega)
  ·have hlt:ga m x<ga m z:=by simpa using hc
   have hB:z<=j->ga l p<ga m z:=λ _=>by omega
   refine⟨Nat,λ w=>[(0,.slice (some ⟨b,0,none⟩) l.length cap),(1,.int .i64 x),(9,.int .i64 z),(10,.int .i64 w)],
    λ w Z'=>ArrOn Z₀ b cap M₀ m Z'/\w<=j/\z<=w+1/\(∀k,w<k->k<y->ga l p<ga m k),λ w=>w+1-z,j,⟨rfl,rfl,rfl,rfl,trivial⟩,⟨hA,Nat.le_refl _,hzj,hhi⟩,?_⟩
   clear hA hhi
   rintro w f Z1 ⟨hA,hw0,hwz,hhi⟩
   repeat refine⟨rfl,?_⟩
   conv=>whnf
   by_cases hzw:z<=w
   ·rw [show decide ((z:Int)<=(w:Int))=true from decide_eq_true (by omega)]
    have hwl:w<m.length:=by omega
    refine⟨_,x,⟨rfl,rfl,by omega⟩,?_⟩
    refine⟨_,hA.at hxl,?_⟩
    refine⟨_,w,⟨rfl,rfl,by omega⟩,?_⟩
    refine⟨_,hA.at hwl,?_⟩
    conv=>whnf
    intro Z3 h_3 _
    have hA:=hA.le h_3
    refine⟨Tryz.k143.any,(Tryz.less_ok (ga m (x)) (ga m (w))).go λ _=>?_⟩
    repeat refine⟨rfl,?_⟩
    conv=>whnf
    apply cb_split<;>intro hc
    ·have hlt:ga m x<ga m w:=of_decide_eq_true hc
     refine⟨by unfold InR;omega,?_⟩
     rw [show (w:Int)-1=((w-1:Nat):Int) by omega]
     refine⟨rfl,w-1,⟨rfl,rfl,rfl,rfl,trivial⟩,⟨hA,by omega,by omega,λ k h1 h2=>?_⟩,by show (w-1)+1-z<w+1-z;omega⟩
     by_cases e:k=w
     ·rw [e];omega
     ·exact hhi k (by omega) h2
    ·have hge:¬ga m x<ga m w:=of_decide_eq_false hc
     have hC:z<=w->ga m w<=ga l p:=λ _=>by omega
     repeat refine⟨rfl,?_⟩
     conv=>whnf
     apply cb_split<;>intro hc
     ·have hgt:w<z:=by have:=of_decide_eq_true hc;omega
      repeat refine⟨rfl,?_⟩
      conv=>whnf
      exact⟨z,m,rfl,hm,by omega,by omega,hlo,λ k h1 h2=>hhi k (by omega) h2,hA⟩
     ·have hle:z<=w:=by have:=of_decide_eq_false hc;omega
      have hB:=hB (by omega)
      have hC:=hC hle
      have hne:z≠w:=by rintro rfl;omega
      have hi:z<m.length:=by omega
      have hj:w<m.length:=by omega
      refine⟨λ Z'=>ArrOn Z₀ b cap M₀ (m.set (z) (ga m (w))) Z',λ _ _ h hle=>h.le hle,?_⟩
      refine⟨_,w,⟨rfl,rfl,by omega⟩,?_⟩
      refine⟨_,hA.at hj,?_⟩
      refine⟨_,z,⟨rfl,rfl,by omega⟩,?_⟩
      refine⟨_,hA.at hi,?_⟩
      refine⟨_,z,⟨rfl,rfl,by omega⟩,?_⟩
      conv=>whnf
      intro Zs hs _
      refine⟨⟨rfl,(hA.le hs).st (by omega) (z) _ hi λ _ h=>⟨rfl,_,.refl _,h⟩⟩,λ Zt hG=>?_⟩
      refine⟨_,w,⟨rfl,rfl,by omega⟩,?_⟩
      refine⟨rfl,hG.st (by simpa using (by omega:m.length<=cap)) (w) _ (by simpa using hj) λ Zu hA=>?_⟩
      clear hG hs
      have hA:ArrOn Z₀ b cap M₀ (sw m (z) (w)) Zu:=hA
      have get:∀k,ga (sw m z w) k=if k=w then ga m z else if k=z then ga m w else ga m k:=ga_sw hi hj
      refine⟨by show InR ((z:Int)+1);unfold InR;omega,?_⟩
      refine⟨by show InR ((w:Int)-1);unfold InR;omega,?_⟩
      conv=>whnf
      exact⟨rfl,(z+1,w-1,sw m z w),⟨rfl,rfl,rfl,by show Value.int .i64 ((w:Int)-1)=.int .i64 ((w-1:Nat):Int);rw [show (w:Int)-1=((w-1:Nat):Int) by omega],trivial⟩,
       ⟨hA,hm.trans (Mix.sw (by omega) (by omega) (by omega) (by omega) (by omega)),by simp only;rw [get,if_neg (by omega),if_neg (by omega)];exact hpv,by simp only;omega,by simp only;omega,by simp only;omega,
        λ k h1 (h2:k<z+1)=>by
         simp only;rw [get,if_neg (by omega)]
         by_cases e:k=z
         ·rw [if_pos e];exact hC
         ·rw [if_neg e];exact hlo k h1 (by omega),
        λ k (h1:w-1<k) h2=>by
         simp only;rw [get]
         by_cases e:k=w
         ·rw [if_pos e];exact hB
         ·rw [if_neg e,if_neg (by omega)];exact hhi k (by omega) h2⟩,by show (w-1)+1-(z+1)<j+1-i;omega⟩
   ·rw [show decide ((z:Int)<=(w:Int))=false from decide_eq_false (by omega)]
    have hC:z<=w->ga m w<=ga l p:=λ h=>absurd h hzw
    conv=>whnf
    intro Z3 h_3 _
    have hA:=hA.le h_3
    repeat refine⟨rfl,?_⟩
    conv=>whnf
    apply cb_split<;>intro hc
    ·have hgt:w<z:=by have:=of_decide_eq_true hc;omega
     repeat refine⟨rfl,?_⟩
     conv=>whnf
     exact⟨z,m,rfl,hm,by omega,by omega,hlo,λ k h1 h2=>hhi k (by omega) h2,hA⟩
    ·have hle:z<=w:=by have:=of_decide_eq_false hc;omega
     have hB:=hB (by omega)
     have hC:=hC hle
     have hne:z≠w:=by rintro rfl;omega
     have hi:z<m.length:=by omega
     have hj:w<m.length:=by omega
     refine⟨λ Z'=>ArrOn Z₀ b cap M₀ (m.set (z) (ga m (w))) Z',λ _ _ h hle=>h.le hle,?_⟩
     refine⟨_,w,⟨rfl,rfl,by omega⟩,?_⟩
     refine⟨_,hA.at hj,?_⟩
     refine⟨_,z,⟨rfl,rfl,by omega⟩,?_⟩
     refine⟨_,hA.at hi,?_⟩
     refine⟨_,z,⟨rfl,rfl,by omega⟩,?_⟩
     conv=>whnf
     intro Zs hs _
     refine⟨⟨rfl,(hA.le hs).st (by omega) (z) _ hi λ _ h=>⟨rfl,_,.refl _,h⟩⟩,λ Zt hG=>?_⟩
     refine⟨_,w,⟨rfl,rfl,by omega⟩,?_⟩
     refine⟨rfl,hG.st (by simpa using (by omega:m.length<=cap)) (w) _ (by simpa using hj) λ Zu hA=>?_⟩
     clear hG hs
     have hA:ArrOn Z₀ b cap M₀ (sw m (z) (w)) Zu:=hA
     have get:∀k,ga (sw m z w) k=if k=w then ga m z else if k=z then ga m w else ga m k:=ga_sw hi hj
     refine⟨by show InR ((z:Int)+1);unfold InR;omega,?_⟩
     refine⟨by show InR ((w:Int)-1);unfold InR;omega,?_⟩
     conv=>whnf
     exact⟨rfl,(z+1,w-1,sw m z w),⟨rfl,rfl,rfl,by show Value.int .i64 ((w:Int)-1)=.int .i64 ((w-1:Nat):Int);rw [show (w:Int)-1=((w-1:Nat):Int) by omega],trivial⟩,
      ⟨hA,hm.trans (Mix.sw (by omega) (by omega) (by omega) (by omega) (by omega)),by simp only;rw [get,if_neg (by omega),if_neg (by omega)];exact hpv,by simp only;omega,by simp only;omega,by simp only;omega,
       λ k h1 (h2:k<z+1)=>by
        simp only;rw [get,if_neg (by omega)]
        by_cases e:k=z
        ·rw [if_pos e];exact hC
        ·rw [if_neg e];exact hlo k h1 (by omega),
       λ k (h1:w-1<k) h2=>by
        simp only;rw [get]
        by_cases e:k=w
        ·rw [if_pos e];exact hB
        ·rw [if_neg e,if_neg (by omega)];exact hhi k (by omega) h2⟩,by show (w-1)+1-(z+1)<j+1-i;omega⟩
 ·rw [show decide ((z:Int)<=(j:Int))=false from decide_eq_false (by omega)]
  have hB:z<=j->ga l p<ga m z:=λ h=>absurd h hz
  conv=>whnf
  intro Z3 h_3 _
  have hA:=hA.le h_3
  refine⟨Nat,λ w=>[(0,.slice (some ⟨b,0,none⟩) l.length cap),(1,.int .i64 x),(9,.int .i64 z),(10,.int .i64 w)],
   λ w Z'=>ArrOn Z₀ b cap M₀ m Z'/\w<=j/\z<=w+1/\(∀k,w<k->k<y->ga l p<ga m k),λ w=>w+1-z,j,⟨rfl,rfl,rfl,rfl,trivial⟩,⟨hA,Nat.le_refl _,hzj,hhi⟩,?_⟩
  clear hA hhi
  rintro w f Z1 ⟨hA,hw0,hwz,hhi⟩
  repeat refine⟨rfl,?_⟩
  conv=>whnf
  by_cases hzw:z<=w
  ·rw [show decide ((z:Int)<=(w:Int))=true from decide_eq_true (by omega)]
   have hwl:w<m.length:=by omega
   refine⟨_,x,⟨rfl,rfl,by omega⟩,?_⟩
   refine⟨_,hA.at hxl,?_⟩
   refine⟨_,w,⟨rfl,rfl,by omega⟩,?_⟩
   refine⟨_,hA.at hwl,?_⟩
   conv=>whnf
   intro Z3 h_3 _
   have hA:=hA.le h_3
   refine⟨Tryz.k143.any,(Tryz.less_ok (ga m (x)) (ga m (w))).go λ _=>?_⟩
   repeat refine⟨rfl,?_⟩
   conv=>whnf
   apply cb_split<;>intro hc
   ·have hlt:ga m x<ga m w:=of_decide_eq_true hc
    refine⟨by unfold InR;omega,?_⟩
    rw [show (w:Int)-1=((w-1:Nat):Int) by omega]
    refine⟨rfl,w-1,⟨rfl,rfl,rfl,rfl,trivial⟩,⟨hA,by omega,by omega,λ k h1 h2=>?_⟩,by show (w-1)+1-z<w+1-z;omega⟩
    by_cases e:k=w
    ·rw [e];omega
    ·exact hhi k (by omega) h2
   ·have hge:¬ga m x<ga m w:=of_decide_eq_false hc
    have hC:z<=w->ga m w<=ga l p:=λ _=>by omega
    repeat refine⟨rfl,?_⟩
    conv=>whnf
    apply cb_split<;>intro hc
    ·have hgt:w<z:=by have:=of_decide_eq_true hc;omega
     repeat refine⟨rfl,?_⟩
     conv=>whnf
     exact⟨z,m,rfl,hm,by omega,by omega,hlo,λ k h1 h2=>hhi k (by omega) h2,hA⟩
    ·have hle:z<=w:=by have:=of_decide_eq_false hc;omega
     have hB:=hB (by omega)
     have hC:=hC hle
     have hne:z≠w:=by rintro rfl;omega
     have hi:z<m.length:=by omega
     have hj:w<m.length:=by omega
     refine⟨λ Z'=>ArrOn Z₀ b cap M₀ (m.set (z) (ga m (w))) Z',λ _ _ h hle=>h.le hle,?_⟩
     refine⟨_,w,⟨rfl,rfl,by omega⟩,?_⟩
     refine⟨_,hA.at hj,?_⟩
     refine⟨_,z,⟨rfl,rfl,by omega⟩,?_⟩
     refine⟨_,hA.at hi,?_⟩
     refine⟨_,z,⟨rfl,rfl,by omega⟩,?_⟩
     conv=>whnf
     intro Zs hs _
     refine⟨⟨rfl,(hA.le hs).st (by omega) (z) _ hi λ _ h=>⟨rfl,_,.refl _,h⟩⟩,λ Zt hG=>?_⟩
     refine⟨_,w,⟨rfl,rfl,by omega⟩,?_⟩
     refine⟨rfl,hG.st (by simpa using (by omega:m.length<=cap)) (w) _ (by simpa using hj) λ Zu hA=>?_⟩
     clear hG hs
     have hA:ArrOn Z₀ b cap M₀ (sw m (z) (w)) Zu:=hA
     have get:∀k,ga (sw m z w) k=if k=w then ga m z else if k=z then ga m w else ga m k:=ga_sw hi hj
     refine⟨by show InR ((z:Int)+1);unfold InR;omega,?_⟩
     refine⟨by show InR ((w:Int)-1);unfold InR;omega,?_⟩
     conv=>whnf
     exact⟨rfl,(z+1,w-1,sw m z w),⟨rfl,rfl,rfl,by show Value.int .i64 ((w:Int)-1)=.int .i64 ((w-1:Nat):Int);rw [show (w:Int)-1=((w-1:Nat):Int) by omega],trivial⟩,
      ⟨hA,hm.trans (Mix.sw (by omega) (by omega) (by omega) (by omega) (by omega)),by simp only;rw [get,if_neg (by omega),if_neg (by omega)];exact hpv,by simp only;omega,by simp only;omega,by simp only;omega,
       λ k h1 (h2:k<z+1)=>by
        simp only;rw [get,if_neg (by omega)]
        by_cases e:k=z
        ·rw [if_pos e];exact hC
        ·rw [if_neg e];exact hlo k h1 (by omega),
       λ k (h1:w-1<k) h2=>by
        simp only;rw [get]
        by_cases e:k=w
        ·rw [if_pos e];exact hB
        ·rw [if_neg e,if_neg (by omega)];exact hhi k (by omega) h2⟩,by show (w-1)+1-(z+1)<j+1-i;omega⟩
  ·rw [show decide ((z:Int)<=(w:Int))=false from decide_eq_false (by omega)]
   have hC:z<=w->ga m w<=ga l p:=λ h=>absurd h hzw
   conv=>whnf
   intro Z3 h_3 _
   have hA:=hA.le h_3
   repeat refine⟨rfl,?_⟩
   conv=>whnf
   apply cb_split<;>intro hc
   ·have hgt:w<z:=by have:=of_decide_eq_true hc;omega
    repeat refine⟨rfl,?_⟩
    conv=>whnf
    exact⟨z,m,rfl,hm,by omega,by omega,hlo,λ k h1 h2=>hhi k (by omega) h2,hA⟩
   ·have hle:z<=w:=by have:=of_decide_eq_false hc;omega
    have hB:=hB (by omega)
    have hC:=hC hle
    have hne:z≠w:=by rintro rfl;omega
    have hi:z<m.length:=by omega
    have hj:w<m.length:=by omega
    refine⟨λ Z'=>ArrOn Z₀ b cap M₀ (m.set (z) (ga m (w))) Z',λ _ _ h hle=>h.le hle,?_⟩
    refine⟨_,w,⟨rfl,rfl,by omega⟩,?_⟩
    refine⟨_,hA.at hj,?_⟩
    refine⟨_,z,⟨rfl,rfl,by omega⟩,?_⟩
    refine⟨_,hA.at hi,?_⟩
    refine⟨_,z,⟨rfl,rfl,by omega⟩,?_⟩
    conv=>whnf
    intro Zs hs _
    refine⟨⟨rfl,(hA.le hs).st (by omega) (z) _ hi λ _ h=>⟨rfl,_,.refl _,h⟩⟩,λ Zt hG=>?_⟩
    refine⟨_,w,⟨rfl,rfl,by omega⟩,?_⟩
    refine⟨rfl,hG.st (by simpa using (by omega:m.length<=cap)) (w) _ (by simpa using hj) λ Zu hA=>?_⟩
    clear hG hs
    have hA:ArrOn Z₀ b cap M₀ (sw m (z) (w)) Zu:=hA
    have get:∀k,ga (sw m z w) k=if k=w then ga m z else if k=z then ga m w else ga m k:=ga_sw hi hj
    refine⟨by show InR ((z:Int)+1);unfold InR;omega,?_⟩
    refine⟨by show InR ((w:Int)-1);unfold InR;omega,?_⟩
    conv=>whnf
    exact⟨rfl,(z+1,w-1,sw m z w),⟨rfl,rfl,rfl,by show Value.int .i64 ((w:Int)-1)=.int .i64 ((w-1:Nat):Int);rw [show (w:Int)-1=((w-1:Nat):Int) by omega],trivial⟩,
     ⟨hA,hm.trans (Mix.sw (by omega) (by omega) (by omega) (by omega) (by omega)),by simp only;rw [get,if_neg (by omega),if_neg (by omega)];exact hpv,by simp only;omega,by simp only;omega,by simp only;omega,
      λ k h1 (h2:k<z+1)=>by
       simp only;rw [get,if_neg (by omega)]
       by_cases e:k=z
       ·rw [if_pos e];exact hC
       ·rw [if_neg e];exact hlo k h1 (by omega),
      λ k (h1:w-1<k) h2=>by
       simp only;rw [get]
       by_cases e:k=w
       ·rw [if_pos e];exact hB
       ·rw [if_neg e,if_neg (by omega)];exact hhi k (by omega) h2⟩,by show (w-1)+1-(z+1)<j+1-i;omega⟩
end Go.Proofs
namespace Go.TM
variable {T:Type} {P:Program} {S:Sys P T} {fn:FuncId} {ro:Option Nat}
theorem GB_mono {b w:Bool} {A B A' B':Prop} (ha:A->A') (hb:B->B') (h:GB b w A B):GB b w A' B':=by
 cases b <;> cases w <;> first | exact ha h | exact hb h
theorem OpX_mono {K K':Kont T} (hk:∀f ds Z,K f ds Z->K' f ds Z):∀(l:List St) (f:Fm) (ds:List Deferred) (Z:View T),OpX S ro l K f ds Z->OpX S ro l K' f ds Z
 | [],f,ds,Z=>hk f ds Z
 | st::l,f,ds,Z=>by
  intro h
  rw [OpX_cons] at h ⊢
  have ih:=OpX_mono hk l
  unfold OpX1 at h ⊢
  split at h
  ·split at h
   ·exact GB_mono (λ h=>OX.mono (λ v Z' h=>ih _ _ _ h) h) (λ h=>ih _ _ _ h) h
   ·exact ih _ _ _ h
   ·exact h.elim
  ·split at h
   ·split at h
    ·exact⟨h.1,ih _ _ _ h.2⟩
    ·exact h.elim
   ·exact OX.mono (λ v Z' h=>ih _ _ _ h) h
def DXr (S:Sys P T) (G:View T->Prop) (kd:Nat) (st:St) (ih:(View T->Prop)->Kont T->Kont T) (C:View T->Prop) (K:Kont T) (ds:List Deferred) (Z:View T) (f:Fm):Prop:=match kd with
   | 0=>OX S st.o f (λ v _=>ih C K (updO f st.dst v) ds Z) Z
   | 1=>∃v,(∀Z',Z.le Z'->C Z'->OX S st.o f (λ v' Z2=>v'=v/\∃Z1,Shift Z2 Z1/\Z'.le Z1) Z')/\ih C K (updO f st.dst v) ds Z
   | 3=>∃v,(∀Z',Z.le Z'->C Z'->OX S st.o f (λ v' Z2=>v'=v/\∃Z1,Shift Z2 Z1/\Z'.le Z1) Z')/\(∀Z',G Z'->OX S st.o f (λ v' Z2=>v'=v/\∃Z1,Shift Z2 Z1/\Z'.le Z1) Z')/\ih C K (updO f st.dst v) ds Z
   | _=>∃F:Value->View T->Prop,(∀v,Mono (F v))/\(∀Z',Z.le Z'->C Z'->OX S st.o f (λ v' Z2=>∃Z1,Shift Z2 Z1/\F v' Z1/\Z'.le Z1) Z') /\
     ∀v,(∃Z',Z.le Z'/\C Z'/\F v Z')->ih (λ Z'=>C Z'/\F v Z') K (updO f st.dst v) ds Z
theorem DXr_mono {G:View T->Prop} {kd:Nat} {st:St} {ih:(View T->Prop)->Kont T->Kont T} {K K':Kont T} {C:View T->Prop} {ds:List Deferred} {Z:View T} (hi:∀C f ds Z,ih C K f ds Z->ih C K' f ds Z) (f:Fm) (h:DXr S G kd st ih C K ds Z f):DXr S G kd st ih C K' ds Z f:=by
 rcases kd with _ | _ | _ | _ | kd
 ·exact OX.mono (λ v Z' h=>hi _ _ _ _ h) h
 ·obtain⟨v,h1,h2⟩:=h;exact⟨v,h1,hi _ _ _ _ h2⟩
 ·obtain⟨F,h1,h3,h2⟩:=h;exact⟨F,h1,h3,λ v hv=>hi _ _ _ _ (h2 v hv)⟩
 ·obtain⟨v,h1,h3,h2⟩:=h;exact⟨v,h1,h3,hi _ _ _ _ h2⟩
 ·obtain⟨F,h1,h3,h2⟩:=h;exact⟨F,h1,h3,λ v hv=>hi _ _ _ _ (h2 v hv)⟩
theorem DX1_eq {G:View T->Prop} {kd:Nat} {st:St} {ih:(View T->Prop)->Kont T->Kont T} {K:Kont T} {C:View T->Prop} {f:Fm} {ds:List Deferred} {Z:View T}:DX1 S G kd st ih C K f ds Z=(match st.g with
  | some (j,want)=>(match f j with
   | .bool b=>GB b want (DXr S G kd st ih C K ds Z (upd f j (.bool want))) (ih C K (updO (upd f j (.bool !want)) st.dst undef) ds Z)
   | .tuple _=>ih C K (updO f st.dst undef) ds Z
   | _=>False)
  | none=>DXr S G kd st ih C K ds Z f):=rfl
theorem DX_mono {G:View T->Prop} {K K':Kont T} (hk:∀f ds Z,K f ds Z->K' f ds Z):∀(l:List (Nat×St)) (C:View T->Prop) (f:Fm) (ds:List Deferred) (Z:View T),DX S G l C K f ds Z->DX S G l C K' f ds Z
 | [],C,f,ds,Z=>λ h Z' h1 h2=>hk _ _ _ (h Z' h1 h2)
 | (kd,st)::l,C,f,ds,Z=>by
  intro h
  rw [DX_cons] at h ⊢
  have ih:=DX_mono (G:=G) hk l
  rw [DX1_eq] at h ⊢
  split at h
  ·split at h
   ·exact GB_mono (DXr_mono ih _) (λ h=>ih _ _ _ _ h) h
   ·exact ih _ _ _ _ h
   ·exact h.elim
  ·exact DXr_mono ih _ h
noncomputable def plainC (c:C):Bool:=C.rec (motive:=λ _=>Bool) true (λ _ _ a b=>a && b) (λ _ _ _ a b=>a && b) (λ _ _ a=>a) (λ _ a=>a) (λ _=>true) true (λ _ a=>a) (λ _=>true) (λ _ _=>true) (λ _ _ _=>true) (λ _ _ _ _ _ _ _ _ _=>false) (λ _ _=>false) false c
def MonoC (S:Sys P T) (fn:FuncId) (ro:Option Nat) (c:C):Prop:=∀(n n':Kont T) (x x':Nat->Kont T) (r r':Kont T),(∀f ds Z,n f ds Z->n' f ds Z)->(∀i f ds Z,x i f ds Z->x' i f ds Z)->(∀f ds Z,r f ds Z->r' f ds Z) ->
  ∀f ds Z,wpC S fn ro c n x r f ds Z->wpC S fn ro c n' x' r' f ds Z
theorem wpC_mono (c:C):plainC c=true->MonoC S fn ro c:=by
 induction c with
 | skip=>exact λ _ _ _ _ _ _ _ hn _ _=>hn
 | seq a b iha ihb=>
  intro hp n n' x x' r r' hn hx hr
  have hp:(plainC a && plainC b)=true:=hp
  rw [Bool.and_eq_true] at hp
  exact iha hp.1 _ _ _ _ _ _ (ihb hp.2 _ _ _ _ _ _ hn hx hr) hx hr
 | ite c a b iha ihb=>
  intro hp n n' x x' r r' hn hx hr f ds Z h
  have hp:(plainC a && plainC b)=true:=hp
  rw [Bool.and_eq_true] at hp
  have h:iteX c (wpC S fn ro a n x r) (wpC S fn ro b n x r) f ds Z:=h
  show iteX c (wpC S fn ro a n' x' r') (wpC S fn ro b n' x' r') f ds Z
  unfold iteX at h ⊢
  split at h
  ·rename_i t _
   cases t
   ·exact ihb hp.2 _ _ _ _ _ _ hn hx hr _ _ _ h
   ·exact iha hp.1 _ _ _ _ _ _ hn hx hr _ _ _ h
  ·exact h.elim
 | block id b ih=>
  intro hp n n' x x' r r' hn hx hr
  refine ih hp _ _ _ _ _ _ hn (λ i f ds Z h=>?_) hr
  cases e:Nat.beq i id with
  | true=>rw [e] at h;exact hn _ _ _ h
  | false=>rw [e] at h;exact hx _ _ _ _ h
 | loop b ih=>
  intro hp n n' x x' r r' hn hx hr f ds Z ⟨α,L,I,μ,x0,h1,h2,h3⟩
  exact⟨α,L,I,μ,x0,h1,h2,λ y f Z hI=>ih hp _ _ _ _ _ _ (λ _ _ _ h=>h) hx hr _ _ _ (h3 y f Z hI)⟩
 | exit i=>exact λ _ _ _ _ _ _ _ _ hx _=>hx i
 | ret=>exact λ _ _ _ _ _ _ _ _ _ hr=>hr
 | scope b ih=>exact λ hp _ _ _ _ _ _ hn hx hr=>ih hp _ _ _ _ _ _ hn hx hr
 | reg l=>exact λ _ _ _ _ _ _ _ hn _ _=>OpX_mono hn l
 | drw qs ts=>exact λ _ _ _ _ _ _ _ hn _ _=>DX_mono (OpX_mono hn ts) qs _
 | drs qs st ts=>exact λ _ _ _ _ _ _ _ hn _ _ f ds Z ⟨G,hG,h⟩=>⟨G,hG,DX_mono (λ f ds Z h=>⟨h.1,λ Z' g=>OpX_mono hn ts _ _ _ (h.2 Z' g)⟩) qs _ _ _ _ h⟩
 | rng=>intro hp;cases hp
 | cd=>intro hp;cases hp
 | bad=>intro hp;cases hp
end Go.TM
namespace Go.TM
theorem part_end {m:List Int} {x y w:Nat} (hx:x<=w) (hw:w<y) (hy:y<=m.length) (hlo:∀k,x<k->k<w+1->ga m k<=ga m x) (hhi:∀k,w<k->k<y->ga m x<=ga m k) (_:x<w->ga m w<=ga m x) :
  (∀k,x<=k->k<w->ga (sw m w x) k<=ga (sw m w x) w)/\(∀k,w<k->k<y->ga (sw m w x) w<=ga (sw m w x) k):=by
 have get:∀k,ga (sw m w x) k=if k=x then ga m w else if k=w then ga m x else ga m k:=ga_sw (by omega) (by omega)
 have ew:ga (sw m w x) w=ga m x:=by
  rw [get]
  by_cases e:w=x
  ·rw [if_pos e,e]
  ·rw [if_neg e,if_pos rfl]
 refine⟨λ k h1 h2=>?_,λ k h1 h2=>?_⟩
 ·rw [ew,get]
  by_cases e:k=x
  ·rw [if_pos e];exact hlo w (by omega) (by omega)
  ·rw [if_neg e,if_neg (by omega)];exact hlo k (by omega) (by omega)
 ·rw [ew,get,if_neg (by omega),if_neg (by omega)];exact hhi k h1 h2
variable {T:Type}
def MonoB (b:Kont T->(Nat->Kont T)->Kont T->Kont T):Prop:=∀(n:Kont T) (x x':Nat->Kont T) (r r':Kont T),(∀i f ds Z,x i f ds Z->x' i f ds Z)->(∀f ds Z,r f ds Z->r' f ds Z)->∀f ds Z,b n x r f ds Z->b n x' r' f ds Z
theorem cutX {b:Kont T->(Nat->Kont T)->Kont T->Kont T} {x:Nat->Kont T} {r:Kont T} {f:Fm} {ds:List Deferred} {Z:View T} (id:Nat) (E:Fm->List Deferred->View T->Prop) (hb:MonoB b)
  (h:loopX b (λ i f ds Z=>i=id/\E f ds Z) (λ _ _ _=>False) f ds Z) (hx:∀f ds Z,E f ds Z->x id f ds Z) :
  ∃(α:Type) (L:α->List (Nat×Value)) (I:α->View T->Prop) (μ:α->Nat) (x0:α),AllEq f (L x0)/\I x0 Z /\
   ∀y f Z,I y Z->b (λ f' ds' Z'=>ds'=ds/\∃y',AllEq f' (L y')/\I y' Z'/\μ y'<μ y) x r (ovr (L y) f) ds Z:=
 let ⟨α,L,I,μ,x0,h1,h2,h3⟩:=h
 ⟨α,L,I,μ,x0,h1,h2,λ y f Z hI=>hb _ _ _ _ _ (λ i f ds Z h=>by obtain⟨hi,h⟩:=h;rw [hi];exact hx _ _ _ h) (λ _ _ _ h=>h.elim) _ _ _ (h3 y f Z hI)⟩
theorem monoB {P:Program} {S:Sys P T} {fn:FuncId} {ro:Option Nat} {c:C} (h:plainC c=true):MonoB (wpC S fn ro c):=λ n _ _ _ _ hx hr=>wpC_mono c h n n _ _ _ _ (λ _ _ _ h=>h) hx hr
theorem monoR {P:Program} (S:Sys P T) (fn:FuncId) (ro:Option Nat) (c:C) (h:plainC c=true):MonoB (C.rec (motive:=λ _=>Kont T->(Nat->Kont T)->Kont T->Kont T)
  (λ n _ _=>n)
  (λ _ _ a b n x r=>a (b n x r) x r)
  (λ c _ _ a b n x r=>iteX c (a n x r) (b n x r))
  (λ id _ b n x r=>b n (λ i f ds Z=>bif Nat.beq i id then n f ds Z else x i f ds Z) r)
  (λ _ b _ x r=>loopX b x r)
  (λ i _ x _=>x i)
  (λ _ _ r=>r)
  (λ _ b n x r=>b n x r)
  (λ l n _ _=>OpX S ro l n)
  (λ qs ts n _ _=>DX S (λ _=>False) qs (λ _=>True) (OpX S ro ts n))
  (λ qs st ts n _ _ f ds Z=>∃G,Mono G/\DX S G qs (λ _=>True) (lastX S G st (OpX S ro ts n)) f ds Z)
  (λ N mu dets c params a' bd _ _ n x r=>rngX S fn ro N mu dets c params a' bd n x r)
  (λ N c n x r=>cdX S fn ro N c n x r)
  (λ _ _ _ _ _ _=>False) c):=monoB (S:=S) (fn:=fn) (ro:=ro) h
end Go.TM
namespace Go.Proofs
open Go.TM
set_option maxRecDepth 100000
variable {T:Type} {S:TM.Sys Tryz.prog T} {Z Z₀:View T}
attribute [local irreducible] CallsV YieldV rngX
theorem Tryz.part_ok (b cap:Nat) (l:List Int) (M₀:List Res) (h:ArrOn Z₀ b cap M₀ l Z) (hcap:l.length<=cap) (hn:l.length<2 ^ 40) (x y p:Nat) (hxp:x<=p) (hpy:p<y) (hy:y<=l.length) :
  CallsV S 145 #[.slice (some ⟨b,0,none⟩) l.length cap,.int .i64 x,.int .i64 y,.int .i64 p] (λ v Z'=>∃(q:Nat) (l':List Int) (B:Bool),v=.tuple #[.int .i64 q,.bool B]/\Mix x y l l'/\x<=q/\q<y/\((∀k,x<=k->k<q->ga l' k<=ga l' q)/\(∀k,q<k->k<y->ga l' q<=ga l' k))/\ArrOn Z₀ b cap M₀ l' Z') Z:=by
 refine CallsV.of (args:=[_,_,_,_]) Tryz.k145 Tryz.mixed (by simp) ?_
 have hA:=h
 have hi:x<l.length:=by omega
 have hj:p<l.length:=by omega
 refine⟨λ Z'=>ArrOn Z₀ b cap M₀ (l.set (x) (ga l (p))) Z',λ _ _ h hle=>h.le hle,?_⟩
 refine⟨_,p,⟨rfl,rfl,by omega⟩,?_⟩
 refine⟨_,hA.at hj,?_⟩
 refine⟨_,x,⟨rfl,rfl,by omega⟩,?_⟩
 refine⟨_,hA.at hi,?_⟩
 refine⟨_,x,⟨rfl,rfl,by omega⟩,?_⟩
 conv=>whnf
 intro Zs hs _
 refine⟨⟨rfl,(hA.le hs).st (by omega) (x) _ hi λ _ h=>⟨rfl,_,.refl _,h⟩⟩,λ Zt hG=>?_⟩
 refine⟨_,p,⟨rfl,rfl,by omega⟩,?_⟩
 refine⟨rfl,hG.st (by simpa using (by omega:l.length<=cap)) (p) _ (by simpa using hj) λ Zu hA=>?_⟩
 clear hG hs
 have hA:ArrOn Z₀ b cap M₀ (sw l (x) (p)) Zu:=hA
 have hm:Mix x y l (sw l x p):=Mix.sw (by omega) (by omega) (by omega) (by omega) (by omega)
 clear hi hj h
 generalize sw l x p=m at hA hm
 have hml:=hm.len
 have hxl:x<m.length:=by omega
 refine⟨by unfold InR;omega,?_⟩
 refine⟨by unfold InR;omega,?_⟩
 rw [show (y:Int)-1=((y-1:Nat):Int) by omega]
 have hlo:∀k,x<k->k<x+1->ga m k<=ga m x:=λ k h1 h2=>by omega
 have hhi:∀k,y-1<k->k<y->ga m x<=ga m k:=λ k h1 h2=>by omega
 conv=>whnf
 refine cutX 0 (λ f' ds' Z'=>ds'=[]/\∃z:Nat,AllEq f' [(0,.slice (some ⟨b,0,none⟩) l.length cap),(1,.int .i64 x),(10,.int .i64 z),(11,.int .i64 ((y-1):Nat))]/\ArrOn Z₀ b cap M₀ m Z'/\(x+1)<=z/\z<=(y-1)+1/\(∀k,x<k->k<z->ga m k<=ga m x)/\(z<=(y-1)->ga m x<=ga m z)) ?_ ?_ ?_
 ·generalize hc:C.seq _ _=c
  exact monoR S 145 none c (by rw [<- hc];rfl)
 ·refine⟨Nat,λ z=>[(0,.slice (some ⟨b,0,none⟩) l.length cap),(1,.int .i64 x),(10,.int .i64 z),(11,.int .i64 ((y-1):Nat))],
   λ z Z'=>ArrOn Z₀ b cap M₀ m Z'/\(x+1)<=z/\z<=(y-1)+1/\(∀k,x<k->k<z->ga m k<=ga m x),λ z=>(y-1)+1-z,(x+1),⟨rfl,rfl,rfl,rfl,trivial⟩,⟨hA,Nat.le_refl _,by omega,hlo⟩,?_⟩
  clear hA hlo
  rintro z f Z1 ⟨hA,hz0,hzj,hlo⟩
  repeat refine⟨rfl,?_⟩
  conv=>whnf
  by_cases hz:z<=(y-1)
  ·rw [show decide ((z:Int)<=(((y-1):Nat):Int))=true from decide_eq_true (by omega)]
   have hzl:z<m.length:=by omega
   refine⟨_,z,⟨rfl,rfl,by omega⟩,?_⟩
   refine⟨_,hA.at hzl,?_⟩
   refine⟨_,x,⟨rfl,rfl,by omega⟩,?_⟩
   refine⟨_,hA.at hxl,?_⟩
   conv=>whnf
   intro Z3 h_3 _
   have hA:=hA.le h_3
   refine⟨Tryz.k143.any,(Tryz.less_ok (ga m (z)) (ga m (x))).go λ _=>?_⟩
   repeat refine⟨rfl,?_⟩
   conv=>whnf
   apply cb_split<;>intro hc
   ·have hlt:ga m z<ga m x:=of_decide_eq_true hc
    refine⟨by unfold InR;omega,?_⟩
    refine⟨rfl,z+1,⟨rfl,rfl,rfl,rfl,trivial⟩,⟨hA,by omega,by omega,λ k h1 h2=>?_⟩,by show _-_<_-_;omega⟩
    by_cases e:k=z
    ·rw [e];omega
    ·exact hlo k h1 (by omega)
   ·have hge:¬ga m z<ga m x:=of_decide_eq_false hc
    conv=>whnf
    exact⟨rfl,rfl,z,⟨rfl,rfl,rfl,rfl,trivial⟩,hA,hz0,hzj,hlo,λ _=>by omega⟩
  ·rw [show decide ((z:Int)<=(((y-1):Nat):Int))=false from decide_eq_false (by omega)]
   conv=>whnf
   intro Z3 h_3 _
   conv=>whnf
   exact⟨rfl,rfl,z,⟨rfl,rfl,rfl,rfl,trivial⟩,hA.le h_3,hz0,hzj,hlo,λ h=>absurd h hz⟩
 clear hA hlo
 rintro f' ds' Z1 ⟨rfl,z,hf,hA,hz0,hzj,hlo,hB⟩
 rw [<- hf.ovr]
 clear hf
 conv=>whnf
 refine cutX 2 (λ f' ds' Z'=>ds'=[]/\∃w:Nat,AllEq f' [(0,.slice (some ⟨b,0,none⟩) l.length cap),(1,.int .i64 x),(10,.int .i64 z),(11,.int .i64 w)]/\ArrOn Z₀ b cap M₀ m Z'/\w<=(y-1)/\z<=w+1/\(∀k,w<k->k<y->ga m x<=ga m k)/\(z<=w->ga m w<ga m x)) ?_ ?_ ?_
 ·generalize hc:C.seq _ _=c
  exact monoR S 145 none c (by rw [<- hc];rfl)
 ·refine⟨Nat,λ w=>[(0,.slice (some ⟨b,0,none⟩) l.length cap),(1,.int .i64 x),(10,.int .i64 z),(11,.int .i64 w)],
   λ w Z'=>ArrOn Z₀ b cap M₀ m Z'/\w<=(y-1)/\z<=w+1/\(∀k,w<k->k<y->ga m x<=ga m k),λ w=>w+1-z,(y-1),⟨rfl,rfl,rfl,rfl,trivial⟩,⟨hA,Nat.le_refl _,hzj,hhi⟩,?_⟩
  clear hA hhi
  rintro w f Z1 ⟨hA,hw0,hwz,hhi⟩
  repeat refine⟨rfl,?_⟩
  conv=>whnf
  by_cases hzw:z<=w
  ·rw [show decide ((z:Int)<=(w:Int))=true from decide_eq_true (by omega)]
   have hwl:w<m.length:=by omega
   refine⟨_,w,⟨rfl,rfl,by omega⟩,?_⟩
   refine⟨_,hA.at hwl,?_⟩
   refine⟨_,x,⟨rfl,rfl,by omega⟩,?_⟩
   refine⟨_,hA.at hxl,?_⟩
   conv=>whnf
   intro Z3 h_3 _
   have hA:=hA.le h_3
   refine⟨Tryz.k143.any,(Tryz.less_ok (ga m (w)) (ga m (x))).go λ _=>?_⟩
   repeat refine⟨rfl,?_⟩
   conv=>whnf
   apply cb_split<;>intro hc
   ·have hge:¬ga m w<ga m x:=by simpa using hc
    refine⟨by unfold InR;omega,?_⟩
    rw [show (w:Int)-1=((w-1:Nat):Int) by omega]
    refine⟨rfl,w-1,⟨rfl,rfl,rfl,rfl,trivial⟩,⟨hA,by omega,by omega,λ k h1 h2=>?_⟩,by show (w-1)+1-z<w+1-z;omega⟩
    by_cases e:k=w
    ·rw [e];omega
    ·exact hhi k (by omega) h2
   ·have hlt:ga m w<ga m x:=by simpa using hc
    conv=>whnf
    exact⟨rfl,rfl,w,⟨rfl,rfl,rfl,rfl,trivial⟩,hA,hw0,hwz,hhi,λ _=>hlt⟩
  ·rw [show decide ((z:Int)<=(w:Int))=false from decide_eq_false (by omega)]
   conv=>whnf
   intro Z3 h_3 _
   conv=>whnf
   exact⟨rfl,rfl,w,⟨rfl,rfl,rfl,rfl,trivial⟩,hA.le h_3,hw0,hwz,hhi,λ h=>absurd h hzw⟩
 clear hA hhi
 rintro f' ds' Z1 ⟨rfl,w,hf,hA,hwj,hzw,hhi,hC⟩
 rw [<- hf.ovr]
 clear hf
 repeat refine⟨rfl,?_⟩
 conv=>whnf
 apply cb_split<;>intro hc
 ·have hgt:w<z:=by have:=of_decide_eq_true hc;omega
  obtain rfl:z=w+1:=by omega
  have hi:w<m.length:=by omega
  have hj:x<m.length:=by omega
  refine⟨λ Z'=>ArrOn Z₀ b cap M₀ (m.set (w) (ga m (x))) Z',λ _ _ h hle=>h.le hle,?_⟩
  refine⟨_,x,⟨rfl,rfl,by omega⟩,?_⟩
  refine⟨_,hA.at hj,?_⟩
  refine⟨_,w,⟨rfl,rfl,by omega⟩,?_⟩
  refine⟨_,hA.at hi,?_⟩
  refine⟨_,w,⟨rfl,rfl,by omega⟩,?_⟩
  conv=>whnf
  intro Zs hs _
  refine⟨⟨rfl,(hA.le hs).st (by omega) (w) _ hi λ _ h=>⟨rfl,_,.refl _,h⟩⟩,λ Zt hG=>?_⟩
  refine⟨_,x,⟨rfl,rfl,by omega⟩,?_⟩
  refine⟨rfl,hG.st (by simpa using (by omega:m.length<=cap)) (x) _ (by simpa using hj) λ Zu hA=>?_⟩
  clear hG hs
  have hA:ArrOn Z₀ b cap M₀ (sw m (w) (x)) Zu:=hA
  repeat refine⟨rfl,?_⟩
  conv=>whnf
  exact⟨w,sw m w x,_,rfl,hm.trans (Mix.sw (by omega) (by omega) (by omega) (by omega) (by omega)),by omega,by omega,part_end (by omega) (by omega) (by omega) hlo hhi (λ h=>by have:=hlo w h (by omega);omega),hA⟩
 have hle:z<=w:=by have:=of_decide_eq_false hc;omega
 have hB:=hB (by omega)
 have hC:=hC (by omega)
 have hne:z≠w:=by rintro rfl;omega
 have hi:z<m.length:=by omega
 have hj:w<m.length:=by omega
 refine⟨λ Z'=>ArrOn Z₀ b cap M₀ (m.set (z) (ga m (w))) Z',λ _ _ h hle=>h.le hle,?_⟩
 refine⟨_,w,⟨rfl,rfl,by omega⟩,?_⟩
 refine⟨_,hA.at hj,?_⟩
 refine⟨_,z,⟨rfl,rfl,by omega⟩,?_⟩
 refine⟨_,hA.at hi,?_⟩
 refine⟨_,z,⟨rfl,rfl,by omega⟩,?_⟩
 conv=>whnf
 intro Zs hs _
 refine⟨⟨rfl,(hA.le hs).st (by omega) (z) _ hi λ _ h=>⟨rfl,_,.refl _,h⟩⟩,λ Zt hG=>?_⟩
 refine⟨_,w,⟨rfl,rfl,by omega⟩,?_⟩
 refine⟨rfl,hG.st (by simpa using (by omega:m.length<=cap)) (w) _ (by simpa using hj) λ Zu hA=>?_⟩
 clear hG hs
 have hA:ArrOn Z₀ b cap M₀ (sw m (z) (w)) Zu:=hA
 have get:∀k,ga (sw m z w) k=if k=w then ga m z else if k=z then ga m w else ga m k:=ga_sw hi hj
 have hm:=hm.trans (Mix.sw (a:=x) (b:=y) (l:=m) (i:=z) (j:=w) (by omega) (by omega) (by omega) (by omega) (by omega))
 have hpx:ga (sw m z w) x=ga m x:=by rw [get,if_neg (by omega),if_neg (by omega)]
 have hlo:∀k,x<k->k<z+1->ga (sw m z w) k<=ga (sw m z w) x:=λ k h1 h2=>by
  rw [hpx,get,if_neg (by omega)]
  by_cases e:k=z
  ·rw [if_pos e];omega
  ·rw [if_neg e];exact hlo k h1 (by omega)
 have hhi:∀k,w-1<k->k<y->ga (sw m z w) x<=ga (sw m z w) k:=λ k h1 h2=>by
  rw [hpx,get]
  by_cases e:k=w
  ·rw [if_pos e];exact hB
  ·rw [if_neg e,if_neg (by omega)];exact hhi k (by omega) h2
 refine⟨by show InR ((z:Int)+1);unfold InR;omega,?_⟩
 refine⟨by show InR ((w:Int)-1);unfold InR;omega,?_⟩
 refine⟨Nat×Nat×List Int,λ z=>[(0,.slice (some ⟨b,0,none⟩) l.length cap),(1,.int .i64 x),(10,.int .i64 z.1),(11,.int .i64 z.2.1)],
  λ z Z'=>ArrOn Z₀ b cap M₀ z.2.2 Z'/\Mix x y l z.2.2/\x<z.1/\z.1<=z.2.1+1/\z.2.1<y/\(∀k,x<k->k<z.1->ga z.2.2 k<=ga z.2.2 x)/\(∀k,z.2.1<k->k<y->ga z.2.2 x<=ga z.2.2 k),λ z=>z.2.1+1-z.1,(z+1,w-1,sw m z w),
  ⟨rfl,rfl,rfl,by show Value.int .i64 ((w:Int)-1)=.int .i64 ((w-1:Nat):Int);rw [show (w:Int)-1=((w-1:Nat):Int) by omega],trivial⟩,⟨hA,hm,by simp only;omega,by simp only;omega,by simp only;omega,hlo,hhi⟩,?_⟩
 clear hA hm hlo hhi hB hC get hpx hi hj hzj hz0 hzw hwj hle hne hml hxl
 rintro⟨i,j,m⟩ f Z1 ⟨hA,hm,hxi,hij,hjy,hlo,hhi⟩
 simp only at hA hm hxi hij hjy hlo hhi
 have hml:=hm.len
 have hxl:x<m.length:=by omega
 conv=>whnf
 refine cutX 6 (λ f' ds' Z'=>ds'=[]/\∃z:Nat,AllEq f' [(0,.slice (some ⟨b,0,none⟩) l.length cap),(1,.int .i64 x),(10,.int .i64 z),(11,.int .i64 (j:Nat))]/\ArrOn Z₀ b cap M₀ m Z'/\i<=z/\z<=j+1/\(∀k,x<k->k<z->ga m k<=ga m x)/\(z<=j->ga m x<=ga m z)) ?_ ?_ ?_
 ·generalize hc:C.seq _ _=c
  exact monoR S 145 none c (by rw [<- hc];rfl)
 ·refine⟨Nat,λ z=>[(0,.slice (some ⟨b,0,none⟩) l.length cap),(1,.int .i64 x),(10,.int .i64 z),(11,.int .i64 (j:Nat))],
   λ z Z'=>ArrOn Z₀ b cap M₀ m Z'/\i<=z/\z<=j+1/\(∀k,x<k->k<z->ga m k<=ga m x),λ z=>j+1-z,i,⟨rfl,rfl,rfl,rfl,trivial⟩,⟨hA,Nat.le_refl _,by omega,hlo⟩,?_⟩
  clear hA hlo
  rintro z f Z1 ⟨hA,hz0,hzj,hlo⟩
  repeat refine⟨rfl,?_⟩
  conv=>whnf
  by_cases hz:z<=j
  ·rw [show decide ((z:Int)<=((j:Nat):Int))=true from decide_eq_true (by omega)]
   have hzl:z<m.length:=by omega
   refine⟨_,z,⟨rfl,rfl,by omega⟩,?_⟩
   refine⟨_,hA.at hzl,?_⟩
   refine⟨_,x,⟨rfl,rfl,by omega⟩,?_⟩
   refine⟨_,hA.at hxl,?_⟩
   conv=>whnf
   intro Z3 h_3 _
   have hA:=hA.le h_3
   refine⟨Tryz.k143.any,(Tryz.less_ok (ga m (z)) (ga m (x))).go λ _=>?_⟩
   repeat refine⟨rfl,?_⟩
   conv=>whnf
   apply cb_split<;>intro hc
   ·have hlt:ga m z<ga m x:=of_decide_eq_true hc
    refine⟨by unfold InR;omega,?_⟩
    refine⟨rfl,z+1,⟨rfl,rfl,rfl,rfl,trivial⟩,⟨hA,by omega,by omega,λ k h1 h2=>?_⟩,by show _-_<_-_;omega⟩
    by_cases e:k=z
    ·rw [e];omega
    ·exact hlo k h1 (by omega)
   ·have hge:¬ga m z<ga m x:=of_decide_eq_false hc
    conv=>whnf
    exact⟨rfl,rfl,z,⟨rfl,rfl,rfl,rfl,trivial⟩,hA,hz0,hzj,hlo,λ _=>by omega⟩
  ·rw [show decide ((z:Int)<=((j:Nat):Int))=false from decide_eq_false (by omega)]
   conv=>whnf
   intro Z3 h_3 _
   conv=>whnf
   exact⟨rfl,rfl,z,⟨rfl,rfl,rfl,rfl,trivial⟩,hA.le h_3,hz0,hzj,hlo,λ h=>absurd h hz⟩
 clear hA hlo
 rintro f' ds' Z1 ⟨rfl,z,hf,hA,hz0,hzj,hlo,hB⟩
 rw [<- hf.ovr]
 clear hf
 conv=>whnf
 refine cutX 8 (λ f' ds' Z'=>ds'=[]/\∃w:Nat,AllEq f' [(0,.slice (some ⟨b,0,none⟩) l.length cap),(1,.int .i64 x),(10,.int .i64 z),(11,.int .i64 w)]/\ArrOn Z₀ b cap M₀ m Z'/\w<=j/\z<=w+1/\(∀k,w<k->k<y->ga m x<=ga m k)/\(z<=w->ga m w<ga m x)) ?_ ?_ ?_
 ·generalize hc:C.seq _ _=c
  exact monoR S 145 none c (by rw [<- hc];rfl)
 ·refine⟨Nat,λ w=>[(0,.slice (some ⟨b,0,none⟩) l.length cap),(1,.int .i64 x),(10,.int .i64 z),(11,.int .i64 w)],
   λ w Z'=>ArrOn Z₀ b cap M₀ m Z'/\w<=j/\z<=w+1/\(∀k,w<k->k<y->ga m x<=ga m k),λ w=>w+1-z,j,⟨rfl,rfl,rfl,rfl,trivial⟩,⟨hA,Nat.le_refl _,hzj,hhi⟩,?_⟩
  clear hA hhi
  rintro w f Z1 ⟨hA,hw0,hwz,hhi⟩
  repeat refine⟨rfl,?_⟩
  conv=>whnf
  by_cases hzw:z<=w
  ·rw [show decide ((z:Int)<=(w:Int))=true from decide_eq_true (by omega)]
   have hwl:w<m.length:=by omega
   refine⟨_,w,⟨rfl,rfl,by omega⟩,?_⟩
   refine⟨_,hA.at hwl,?_⟩
   refine⟨_,x,⟨rfl,rfl,by omega⟩,?_⟩
   refine⟨_,hA.at hxl,?_⟩
   conv=>whnf
   intro Z3 h_3 _
   have hA:=hA.le h_3
   refine⟨Tryz.k143.any,(Tryz.less_ok (ga m (w)) (ga m (x))).go λ _=>?_⟩
   repeat refine⟨rfl,?_⟩
   conv=>whnf
   apply cb_split<;>intro hc
   ·have hge:¬ga m w<ga m x:=by simpa using hc
    refine⟨by unfold InR;omega,?_⟩
    rw [show (w:Int)-1=((w-1:Nat):Int) by omega]
    refine⟨rfl,w-1,⟨rfl,rfl,rfl,rfl,trivial⟩,⟨hA,by omega,by omega,λ k h1 h2=>?_⟩,by show (w-1)+1-z<w+1-z;omega⟩
    by_cases e:k=w
    ·rw [e];omega
    ·exact hhi k (by omega) h2
   ·have hlt:ga m w<ga m x:=by simpa using hc
    conv=>whnf
    exact⟨rfl,rfl,w,⟨rfl,rfl,rfl,rfl,trivial⟩,hA,hw0,hwz,hhi,λ _=>hlt⟩
  ·rw [show decide ((z:Int)<=(w:Int))=false from decide_eq_false (by omega)]
   conv=>whnf
   intro Z3 h_3 _
   conv=>whnf
   exact⟨rfl,rfl,w,⟨rfl,rfl,rfl,rfl,trivial⟩,hA.le h_3,hw0,hwz,hhi,λ h=>absurd h hzw⟩
 clear hA hhi
 rintro f' ds' Z1 ⟨rfl,w,hf,hA,hwj,hzw,hhi,hC⟩
 rw [<- hf.ovr]
 clear hf
 repeat refine⟨rfl,?_⟩
 conv=>whnf
 apply cb_split<;>intro hc
 ·have hgt:w<z:=by have:=of_decide_eq_true hc;omega
  obtain rfl:z=w+1:=by omega
  have hi:w<m.length:=by omega
  have hj:x<m.length:=by omega
  refine⟨λ Z'=>ArrOn Z₀ b cap M₀ (m.set (w) (ga m (x))) Z',λ _ _ h hle=>h.le hle,?_⟩
  refine⟨_,x,⟨rfl,rfl,by omega⟩,?_⟩
  refine⟨_,hA.at hj,?_⟩
  refine⟨_,w,⟨rfl,rfl,by omega⟩,?_⟩
  refine⟨_,hA.at hi,?_⟩
  refine⟨_,w,⟨rfl,rfl,by omega⟩,?_⟩
  conv=>whnf
  intro Zs hs _
  refine⟨⟨rfl,(hA.le hs).st (by omega) (w) _ hi λ _ h=>⟨rfl,_,.refl _,h⟩⟩,λ Zt hG=>?_⟩
  refine⟨_,x,⟨rfl,rfl,by omega⟩,?_⟩
  refine⟨rfl,hG.st (by simpa using (by omega:m.length<=cap)) (x) _ (by simpa using hj) λ Zu hA=>?_⟩
  clear hG hs
  have hA:ArrOn Z₀ b cap M₀ (sw m (w) (x)) Zu:=hA
  repeat refine⟨rfl,?_⟩
  conv=>whnf
  exact⟨w,sw m w x,_,rfl,hm.trans (Mix.sw (by omega) (by omega) (by omega) (by omega) (by omega)),by omega,by omega,part_end (by omega) (by omega) (by omega) hlo hhi (λ h=>by have:=hlo w h (by omega);omega),hA⟩
 have hle:z<=w:=by have:=of_decide_eq_false hc;omega
 have hB:=hB (by omega)
 have hC:=hC (by omega)
 have hne:z≠w:=by rintro rfl;omega
 have hi:z<m.length:=by omega
 have hj:w<m.length:=by omega
 refine⟨λ Z'=>ArrOn Z₀ b cap M₀ (m.set (z) (ga m (w))) Z',λ _ _ h hle=>h.le hle,?_⟩
 refine⟨_,w,⟨rfl,rfl,by omega⟩,?_⟩
 refine⟨_,hA.at hj,?_⟩
 refine⟨_,z,⟨rfl,rfl,by omega⟩,?_⟩
 refine⟨_,hA.at hi,?_⟩
 refine⟨_,z,⟨rfl,rfl,by omega⟩,?_⟩
 conv=>whnf
 intro Zs hs _
 refine⟨⟨rfl,(hA.le hs).st (by omega) (z) _ hi λ _ h=>⟨rfl,_,.refl _,h⟩⟩,λ Zt hG=>?_⟩
 refine⟨_,w,⟨rfl,rfl,by omega⟩,?_⟩
 refine⟨rfl,hG.st (by simpa using (by omega:m.length<=cap)) (w) _ (by simpa using hj) λ Zu hA=>?_⟩
 clear hG hs
 have hA:ArrOn Z₀ b cap M₀ (sw m (z) (w)) Zu:=hA
 have get:∀k,ga (sw m z w) k=if k=w then ga m z else if k=z then ga m w else ga m k:=ga_sw hi hj
 have hm:=hm.trans (Mix.sw (a:=x) (b:=y) (l:=m) (i:=z) (j:=w) (by omega) (by omega) (by omega) (by omega) (by omega))
 have hpx:ga (sw m z w) x=ga m x:=by rw [get,if_neg (by omega),if_neg (by omega)]
 have hlo:∀k,x<k->k<z+1->ga (sw m z w) k<=ga (sw m z w) x:=λ k h1 h2=>by
  rw [hpx,get,if_neg (by omega)]
  by_cases e:k=z
  ·rw [if_pos e];omega
  ·rw [if_neg e];exact hlo k h1 (by omega)
 have hhi:∀k,w-1<k->k<y->ga (sw m z w) x<=ga (sw m z w) k:=λ k h1 h2=>by
  rw [hpx,get]
  by_cases e:k=w
  ·rw [if_pos e];exact hB
  ·rw [if_neg e,if_neg (by omega)];exact hhi k (by omega) h2
 refine⟨by show InR ((z:Int)+1);unfold InR;omega,?_⟩
 refine⟨by show InR ((w:Int)-1);unfold InR;omega,?_⟩
 conv=>whnf
 exact⟨rfl,(z+1,w-1,sw m z w),⟨rfl,rfl,rfl,by show Value.int .i64 ((w:Int)-1)=.int .i64 ((w-1:Nat):Int);rw [show (w:Int)-1=((w-1:Nat):Int) by omega],trivial⟩,
  ⟨hA,hm,by simp only;omega,by simp only;omega,by simp only;omega,hlo,hhi⟩,by show (w-1)+1-(z+1)<j+1-i;omega⟩
end Go.Proofs
namespace Go.TM
def Under (l:List Int) (x y:Nat):Prop:=∀k,0<x->x<=k->k<y->ga l (x-1)<=ga l k
theorem Under.mix {l m:List Int} {x y:Nat} (h:Under l x y) (hm:Mix x y l m):Under m x y:=λ k h0 h1 h2=>by
 obtain⟨q,h3,h4,e⟩:=hm.ins k h1 h2
 rw [e,hm.out (x-1) (by omega)]
 exact h q h0 h3 h4
theorem Srt.snoc {l:List Int} {x z:Nat} (h:Srt l x z) (hz:x<z) (hle:ga l (z-1)<=ga l z):Srt l x (z+1):=λ i j h1 h2 h3=>by
 by_cases e:j=z
 ·rw [e]
  by_cases e':i=z-1
  ·rw [e'];exact hle
  ·exact Int.le_trans (h i (z-1) h1 (by omega) (by omega)) hle
 ·exact h i j h1 h2 (by omega)
end Go.TM
namespace Go.Proofs
open Go.TM
set_option maxRecDepth 100000
variable {T:Type} {S:TM.Sys Tryz.prog T} {Z Z₀:View T}
attribute [local irreducible] CallsV YieldV rngX
theorem Tryz.partIns_ok (b cap:Nat) (l:List Int) (M₀:List Res) (h:ArrOn Z₀ b cap M₀ l Z) (hcap:l.length<=cap) (hn:l.length<2 ^ 40) (x y:Nat) (hxy:x<y) (hy:y<=l.length) (hu:Under l x y) :
  CallsV S 142 #[.slice (some ⟨b,0,none⟩) l.length cap,.int .i64 x,.int .i64 y] (λ v Z'=>∃(B:Bool) (l':List Int),v=.bool B/\Mix x y l l'/\(B=true->Srt l' x y)/\ArrOn Z₀ b cap M₀ l' Z') Z:=by
 refine CallsV.of (args:=[_,_,_]) Tryz.k142 Tryz.mixed (by simp) ?_
 repeat refine⟨rfl,?_⟩
 refine⟨by unfold InR;omega,?_⟩
 refine⟨Nat×Nat×List Int,λ z=>[(0,.slice (some ⟨b,0,none⟩) l.length cap),(1,.int .i64 x),(2,.int .i64 y),(7,.int .i64 z.2.1),(8,.int .i64 z.1)],
  λ z Z'=>ArrOn Z₀ b cap M₀ z.2.2 Z'/\Mix x y l z.2.2/\z.1<=5/\x<z.2.1/\z.2.1<=y/\Srt z.2.2 x z.2.1,λ z=>5-z.1,(0,x+1,l),⟨rfl,rfl,rfl,rfl,rfl,trivial⟩,⟨h,.refl ..,by simp only;omega,by simp only;omega,by simp only;omega,Srt.one _ _ _ (Nat.le_refl _)⟩,?_⟩
 rintro⟨s,i,m⟩ f Z1 ⟨hA,hm,hs5,hi0,hiy,hst⟩
 simp only at hA hm hs5 hi0 hiy hst
 have hml:=hm.len
 repeat refine⟨rfl,?_⟩
 conv=>whnf
 apply cb_split<;>intro hc
 ·have hs:s<5:=by have:(s:Int)<5:=of_decide_eq_true hc
                  omega
  conv=>whnf
  refine cutX 2 (λ f' ds' Z'=>ds'=[]/\∃z:Nat,AllEq f' [(0,.slice (some ⟨b,0,none⟩) l.length cap),(1,.int .i64 x),(2,.int .i64 y),(7,.int .i64 z),(8,.int .i64 s)]/\ArrOn Z₀ b cap M₀ m Z'/\i<=z/\z<=y/\Srt m x z) ?_ ?_ ?_
  ·generalize hc:C.seq _ _=c
   exact monoR S 142 none c (by rw [<- hc];rfl)
  ·refine⟨Nat,λ z=>[(0,.slice (some ⟨b,0,none⟩) l.length cap),(1,.int .i64 x),(2,.int .i64 y),(7,.int .i64 z),(8,.int .i64 s)],
    λ z Z'=>ArrOn Z₀ b cap M₀ m Z'/\i<=z/\z<=y/\Srt m x z,λ z=>y-z,i,⟨rfl,rfl,rfl,rfl,rfl,trivial⟩,⟨hA,Nat.le_refl _,hiy,hst⟩,?_⟩
   clear hA hst
   rintro z f Z1 ⟨hA,hz0,hzy,hst⟩
   repeat refine⟨rfl,?_⟩
   conv=>whnf
   by_cases hz:z<y
   ·rw [show decide ((z:Int)<(y:Int))=true from decide_eq_true (by omega)]
    have hzl:z<m.length:=by omega
    have hz1:z-1<m.length:=by omega
    refine⟨_,z,⟨rfl,rfl,by omega⟩,?_⟩
    refine⟨_,hA.at hzl,?_⟩
    refine⟨by show InR ((z:Int)-1);unfold InR;omega,?_⟩
    refine⟨_,z-1,⟨rfl,by omega,by omega⟩,?_⟩
    refine⟨_,hA.at hz1,?_⟩
    conv=>whnf
    intro Z3 h_3 _
    have hA:=hA.le h_3
    refine⟨Tryz.k143.any,(Tryz.less_ok (ga m z) (ga m (z-1))).go λ _=>?_⟩
    repeat refine⟨rfl,?_⟩
    conv=>whnf
    apply cb_split<;>intro hc
    ·have hge:¬ga m z<ga m (z-1):=by simpa using hc
     refine⟨by unfold InR;omega,?_⟩
     conv=>whnf
     exact⟨rfl,z+1,⟨rfl,rfl,rfl,rfl,rfl,trivial⟩,⟨hA,by omega,by omega,hst.snoc (by omega) (by omega)⟩,by show _-_<_-_;omega⟩
    ·conv=>whnf
     exact⟨rfl,rfl,z,⟨rfl,rfl,rfl,rfl,rfl,trivial⟩,hA,hz0,hzy,hst⟩
   ·rw [show decide ((z:Int)<(y:Int))=false from decide_eq_false (by omega)]
    conv=>whnf
    intro Z3 h_3 _
    conv=>whnf
    exact⟨rfl,rfl,z,⟨rfl,rfl,rfl,rfl,rfl,trivial⟩,hA.le h_3,hz0,hzy,hst⟩
  clear hA hst
  rintro f' ds' Z1 ⟨rfl,z,hf,hA,hz0,hzy,hst⟩
  rw [<- hf.ovr]
  clear hf
  repeat refine⟨rfl,?_⟩
  conv=>whnf
  apply cb_split<;>intro hc
  ·have hzy:z=y:=by have:(z:Int)=(y:Int):=by simpa using hc
                    omega
   subst hzy
   repeat refine⟨rfl,?_⟩
   conv=>whnf
   exact⟨true,m,rfl,hm,λ _=>hst,hA⟩
  have hzy:z<y:=by have:(z:Int)≠(y:Int):=by simpa using hc
                   omega
  repeat refine⟨rfl,?_⟩
  refine⟨by unfold InR;omega,?_⟩
  repeat refine⟨rfl,?_⟩
  conv=>whnf
  apply cb_split<;>intro hc
  ·repeat refine⟨rfl,?_⟩
   conv=>whnf
   exact⟨false,m,rfl,hm,λ h=>(Bool.false_ne_true h).elim,hA⟩
  have hi:z<m.length:=by omega
  have hj:z-1<m.length:=by omega
  have ej:((z:Nat):Int)-1=((z-1:Nat):Int):=by omega
  have ein:InR (((z:Nat):Int)-1):=by unfold InR;omega
  refine⟨λ Z'=>ArrOn Z₀ b cap M₀ (m.set z (ga m (z-1))) Z',λ _ _ h hle=>h.le hle,?_⟩
  refine⟨ein,?_⟩
  refine⟨ein,?_⟩
  refine⟨_,z-1,⟨rfl,ej,by omega⟩,?_⟩
  refine⟨_,hA.at hj,?_⟩
  refine⟨_,z,⟨rfl,rfl,by omega⟩,?_⟩
  refine⟨_,hA.at hi,?_⟩
  refine⟨_,z,⟨rfl,rfl,by omega⟩,?_⟩
  conv=>whnf
  intro Zs hs _
  refine⟨⟨rfl,(hA.le hs).st (by omega) z _ hi λ _ h=>⟨rfl,_,.refl _,h⟩⟩,λ Zt hG=>?_⟩
  refine⟨_,z-1,⟨rfl,ej,by omega⟩,?_⟩
  refine⟨rfl,hG.st (by simpa using (by omega:m.length<=cap)) (z-1) _ (by simpa using hj) λ Zu hA=>?_⟩
  clear hG hs
  have hA:ArrOn Z₀ b cap M₀ (sw m z (z-1)) Zu:=hA
  have hm:Mix x y l (sw m z (z-1)):=hm.trans (Mix.sw (by omega) (by omega) (by omega) (by omega) (by omega))
  have hst:Srt (sw m z (z-1)) x (z-1):=(hst.sub (Nat.le_refl _) (by omega)).keep (Mix.sw (a:=z-1) (b:=y) (l:=m) (i:=z) (j:=z-1) (by omega) (by omega) (by omega) (by omega) (by omega)) (.inl (Nat.le_refl _))
  generalize sw m z (z-1)=q at hA hm hst
  have hql:=hm.len
  repeat refine⟨rfl,?_⟩
  refine⟨by unfold InR;omega,?_⟩
  repeat refine⟨rfl,?_⟩
  conv=>whnf
  apply cb_split<;>intro hc
  ·have hz2:x+2<=z:=by have:(z:Int)-(x:Int) ≥ 2:=of_decide_eq_true hc
                       omega
   refine⟨by show InR ((z:Int)-1);unfold InR;omega,?_⟩
   rw [show (z:Int)-1=((z-1:Nat):Int) by omega]
   conv=>whnf
   refine cutX 4 (λ f' ds' Z'=>ds'=[]/\∃q:List Int,AllEq f' [(0,.slice (some ⟨b,0,none⟩) l.length cap),(1,.int .i64 x),(2,.int .i64 y),(7,.int .i64 z),(8,.int .i64 s)]/\ArrOn Z₀ b cap M₀ q Z'/\Mix x y l q/\Srt q x z) ?_ ?_ ?_
   ·generalize hc:C.seq _ _=c
    exact monoR S 142 none c (by rw [<- hc];rfl)
   ·refine⟨Nat×List Int,λ u=>[(0,.slice (some ⟨b,0,none⟩) l.length cap),(1,.int .i64 x),(2,.int .i64 y),(7,.int .i64 z),(8,.int .i64 s),(9,.int .i64 u.1)],
     λ u Z'=>ArrOn Z₀ b cap M₀ u.2 Z'/\Mix x y l u.2/\SB u.2 x (z-1) u.1/\x<=u.1/\u.1<=z-1,λ u=>u.1,(z-1,q),⟨rfl,rfl,rfl,rfl,rfl,rfl,trivial⟩,⟨hA,hm,.start hst,by simp only;omega,by simp only;omega⟩,?_⟩
    clear hA hm hst hql
    rintro⟨j,q⟩ f Z1 ⟨hA,hm,hsb,hj0,hjz⟩
    simp only at hA hm hsb hj0 hjz
    have hql:=hm.len
    have fin:(j=x\/ga q (j-1)<=ga q j)->Srt q x z:=λ h=>by have:=hsb.done hj0 hjz h;rwa [show z-1+1=z by omega] at this
    repeat refine⟨rfl,?_⟩
    conv=>whnf
    apply cb_split<;>intro hc
    ·have hj1:1<=j:=by have:(j:Int) ≥ 1:=of_decide_eq_true hc
                       omega
     have hjl:j<q.length:=by omega
     have hj1:j-1<q.length:=by omega
     refine⟨_,j,⟨rfl,rfl,by omega⟩,?_⟩
     refine⟨_,hA.at hjl,?_⟩
     refine⟨by show InR ((j:Int)-1);unfold InR;omega,?_⟩
     refine⟨_,j-1,⟨rfl,by show (j:Int)-1=((j-1:Nat):Int);omega,by omega⟩,?_⟩
     refine⟨_,hA.at hj1,?_⟩
     conv=>whnf
     intro Z3 h_3 _
     have hA:=hA.le h_3
     refine⟨Tryz.k143.any,(Tryz.less_ok (ga q j) (ga q (j-1))).go λ _=>?_⟩
     repeat refine⟨rfl,?_⟩
     conv=>whnf
     apply cb_split<;>intro hc
     ·have hge:¬ga q j<ga q (j-1):=by simpa using hc
      conv=>whnf
      exact⟨rfl,rfl,q,⟨rfl,rfl,rfl,rfl,rfl,trivial⟩,hA,hm,fin (.inr (by omega))⟩
     have hlt:ga q j<ga q (j-1):=by simpa using hc
     have hjx:x<j:=by
      by_cases e:j=x
      ·have:=hu.mix hm j (by omega) (by omega) (by omega)
       rw [<- e] at this;omega
      ·omega
     have hi:j<q.length:=by omega
     have hj:j-1<q.length:=by omega
     have ej:((j:Nat):Int)-1=((j-1:Nat):Int):=by omega
     have ein:InR (((j:Nat):Int)-1):=by unfold InR;omega
     refine⟨λ Z'=>ArrOn Z₀ b cap M₀ (q.set j (ga q (j-1))) Z',λ _ _ h hle=>h.le hle,?_⟩
     refine⟨ein,?_⟩
     refine⟨ein,?_⟩
     refine⟨_,j-1,⟨rfl,ej,by omega⟩,?_⟩
     refine⟨_,hA.at hj,?_⟩
     refine⟨_,j,⟨rfl,rfl,by omega⟩,?_⟩
     refine⟨_,hA.at hi,?_⟩
     refine⟨_,j,⟨rfl,rfl,by omega⟩,?_⟩
     conv=>whnf
     intro Zs hs _
     refine⟨⟨rfl,(hA.le hs).st (by omega) j _ hi λ _ h=>⟨rfl,_,.refl _,h⟩⟩,λ Zt hG=>?_⟩
     refine⟨_,j-1,⟨rfl,ej,by omega⟩,?_⟩
     refine⟨rfl,hG.st (by simpa using (by omega:q.length<=cap)) (j-1) _ (by simpa using hj) λ Zu hA=>?_⟩
     clear hG hs
     have hA:ArrOn Z₀ b cap M₀ (sw q j (j-1)) Zu:=hA
     refine⟨by show InR ((j:Int)-1);unfold InR;omega,?_⟩
     conv=>whnf
     exact⟨rfl,(j-1,sw q j (j-1)),⟨rfl,rfl,rfl,rfl,rfl,by show Value.int .i64 ((j:Int)-1)=.int .i64 ((j-1:Nat):Int);rw [ej],trivial⟩,⟨hA,hm.trans (Mix.sw (by omega) (by omega) (by omega) (by omega) (by omega)),hsb.step hjx hjz (by omega) hlt,by simp only;omega,by simp only;omega⟩,by show j-1<j;omega⟩
    ·have hj1:j=0:=by have:¬((j:Int) ≥ 1):=of_decide_eq_false hc
                      omega
     conv=>whnf
     exact⟨rfl,rfl,q,⟨rfl,rfl,rfl,rfl,rfl,trivial⟩,hA,hm,fin (.inl (by omega))⟩
   clear hA hm hst hql
   rintro f' ds' Z1 ⟨rfl,q,hf,hA,hm,hst⟩
   have hql:=hm.len
   rw [<- hf.ovr]
   clear hf
   repeat refine⟨rfl,?_⟩
   refine⟨by unfold InR;omega,?_⟩
   repeat refine⟨rfl,?_⟩
   conv=>whnf
   apply cb_split<;>intro hc
   ·refine⟨by show InR ((z:Int)+1);unfold InR;omega,?_⟩
    conv=>whnf
    refine cutX 6 (λ f' ds' Z'=>ds'=[]/\∃q:List Int,AllEq f' [(0,.slice (some ⟨b,0,none⟩) l.length cap),(1,.int .i64 x),(2,.int .i64 y),(7,.int .i64 z),(8,.int .i64 s)]/\ArrOn Z₀ b cap M₀ q Z'/\Mix x y l q/\Srt q x z) ?_ ?_ ?_
    ·generalize hc:C.seq _ _=c
     exact monoR S 142 none c (by rw [<- hc];rfl)
    ·refine⟨Nat×List Int,λ u=>[(0,.slice (some ⟨b,0,none⟩) l.length cap),(1,.int .i64 x),(2,.int .i64 y),(7,.int .i64 z),(8,.int .i64 s),(10,.int .i64 u.1)],
      λ u Z'=>ArrOn Z₀ b cap M₀ u.2 Z'/\Mix x y l u.2/\Srt u.2 x z/\z+1<=u.1/\u.1<=y,λ u=>y-u.1,(z+1,q),⟨rfl,rfl,rfl,rfl,rfl,rfl,trivial⟩,⟨hA,hm,hst,by simp only;omega,by simp only;omega⟩,?_⟩
     clear hA hm hst hql
     rintro⟨j,q⟩ f Z1 ⟨hA,hm,hst,hj0,hjy⟩
     simp only at hA hm hst hj0 hjy
     have hql:=hm.len
     repeat refine⟨rfl,?_⟩
     conv=>whnf
     apply cb_split<;>intro hc
     ·have hjy:j<y:=by have:(j:Int)<(y:Int):=of_decide_eq_true hc
                       omega
      have hjl:j<q.length:=by omega
      have hj1:j-1<q.length:=by omega
      refine⟨_,j,⟨rfl,rfl,by omega⟩,?_⟩
      refine⟨_,hA.at hjl,?_⟩
      refine⟨by show InR ((j:Int)-1);unfold InR;omega,?_⟩
      refine⟨_,j-1,⟨rfl,by show (j:Int)-1=((j-1:Nat):Int);omega,by omega⟩,?_⟩
      refine⟨_,hA.at hj1,?_⟩
      conv=>whnf
      intro Z3 h_3 _
      have hA:=hA.le h_3
      refine⟨Tryz.k143.any,(Tryz.less_ok (ga q j) (ga q (j-1))).go λ _=>?_⟩
      repeat refine⟨rfl,?_⟩
      conv=>whnf
      apply cb_split<;>intro hc
      ·conv=>whnf
       exact⟨rfl,rfl,q,⟨rfl,rfl,rfl,rfl,rfl,trivial⟩,hA,hm,hst⟩
      have hi:j<q.length:=by omega
      have hj:j-1<q.length:=by omega
      have ej:((j:Nat):Int)-1=((j-1:Nat):Int):=by omega
      have ein:InR (((j:Nat):Int)-1):=by unfold InR;omega
      refine⟨λ Z'=>ArrOn Z₀ b cap M₀ (q.set j (ga q (j-1))) Z',λ _ _ h hle=>h.le hle,?_⟩
      refine⟨ein,?_⟩
      refine⟨ein,?_⟩
      refine⟨_,j-1,⟨rfl,ej,by omega⟩,?_⟩
      refine⟨_,hA.at hj,?_⟩
      refine⟨_,j,⟨rfl,rfl,by omega⟩,?_⟩
      refine⟨_,hA.at hi,?_⟩
      refine⟨_,j,⟨rfl,rfl,by omega⟩,?_⟩
      conv=>whnf
      intro Zs hs _
      refine⟨⟨rfl,(hA.le hs).st (by omega) j _ hi λ _ h=>⟨rfl,_,.refl _,h⟩⟩,λ Zt hG=>?_⟩
      refine⟨_,j-1,⟨rfl,ej,by omega⟩,?_⟩
      refine⟨rfl,hG.st (by simpa using (by omega:q.length<=cap)) (j-1) _ (by simpa using hj) λ Zu hA=>?_⟩
      clear hG hs
      have hA:ArrOn Z₀ b cap M₀ (sw q j (j-1)) Zu:=hA
      refine⟨by show InR ((j:Int)+1);unfold InR;omega,?_⟩
      conv=>whnf
      have hmm:Mix z y q (sw q j (j-1)):=Mix.sw (by omega) (by omega) (by omega) (by omega) (by omega)
      exact⟨rfl,(j+1,sw q j (j-1)),⟨rfl,rfl,rfl,rfl,rfl,rfl,trivial⟩,⟨hA,hm.trans (hmm.widen (by omega) (Nat.le_refl _)),hst.keep hmm (.inl (Nat.le_refl _)),by simp only;omega,by simp only;omega⟩,by show _-_<_-_;omega⟩
     ·conv=>whnf
      exact⟨rfl,rfl,q,⟨rfl,rfl,rfl,rfl,rfl,trivial⟩,hA,hm,hst⟩
    clear hA hm hst hql
    rintro f' ds' Z1 ⟨rfl,q,hf,hA,hm,hst⟩
    rw [<- hf.ovr]
    clear hf
    refine⟨by show InR ((s:Int)+1);unfold InR;omega,?_⟩
    conv=>whnf
    exact⟨rfl,(s+1,z,q),⟨rfl,rfl,rfl,rfl,rfl,trivial⟩,⟨hA,hm,by simp only;omega,by simp only;omega,by simp only;omega,hst⟩,by show 5-(s+1)<5-s;omega⟩
   ·refine⟨by show InR ((s:Int)+1);unfold InR;omega,?_⟩
    conv=>whnf
    exact⟨rfl,(s+1,z,q),⟨rfl,rfl,rfl,rfl,rfl,trivial⟩,⟨hA,hm,by simp only;omega,by simp only;omega,by simp only;omega,hst⟩,by show 5-(s+1)<5-s;omega⟩
  ·have hz2:z=x+1:=by have:¬((z:Int)-(x:Int) ≥ 2):=of_decide_eq_false hc
                      omega
   have hst:Srt q x z:=Srt.one _ _ _ (by omega)
   repeat refine⟨rfl,?_⟩
   refine⟨by unfold InR;omega,?_⟩
   repeat refine⟨rfl,?_⟩
   conv=>whnf
   apply cb_split<;>intro hc
   ·refine⟨by show InR ((z:Int)+1);unfold InR;omega,?_⟩
    conv=>whnf
    refine cutX 6 (λ f' ds' Z'=>ds'=[]/\∃q:List Int,AllEq f' [(0,.slice (some ⟨b,0,none⟩) l.length cap),(1,.int .i64 x),(2,.int .i64 y),(7,.int .i64 z),(8,.int .i64 s)]/\ArrOn Z₀ b cap M₀ q Z'/\Mix x y l q/\Srt q x z) ?_ ?_ ?_
    ·generalize hc:C.seq _ _=c
     exact monoR S 142 none c (by rw [<- hc];rfl)
    ·refine⟨Nat×List Int,λ u=>[(0,.slice (some ⟨b,0,none⟩) l.length cap),(1,.int .i64 x),(2,.int .i64 y),(7,.int .i64 z),(8,.int .i64 s),(10,.int .i64 u.1)],
      λ u Z'=>ArrOn Z₀ b cap M₀ u.2 Z'/\Mix x y l u.2/\Srt u.2 x z/\z+1<=u.1/\u.1<=y,λ u=>y-u.1,(z+1,q),⟨rfl,rfl,rfl,rfl,rfl,rfl,trivial⟩,⟨hA,hm,hst,by simp only;omega,by simp only;omega⟩,?_⟩
     clear hA hm hst hql
     rintro⟨j,q⟩ f Z1 ⟨hA,hm,hst,hj0,hjy⟩
     simp only at hA hm hst hj0 hjy
     have hql:=hm.len
     repeat refine⟨rfl,?_⟩
     conv=>whnf
     apply cb_split<;>intro hc
     ·have hjy:j<y:=by have:(j:Int)<(y:Int):=of_decide_eq_true hc
                       omega
      have hjl:j<q.length:=by omega
      have hj1:j-1<q.length:=by omega
      refine⟨_,j,⟨rfl,rfl,by omega⟩,?_⟩
      refine⟨_,hA.at hjl,?_⟩
      refine⟨by show InR ((j:Int)-1);unfold InR;omega,?_⟩
      refine⟨_,j-1,⟨rfl,by show (j:Int)-1=((j-1:Nat):Int);omega,by omega⟩,?_⟩
      refine⟨_,hA.at hj1,?_⟩
      conv=>whnf
      intro Z3 h_3 _
      have hA:=hA.le h_3
      refine⟨Tryz.k143.any,(Tryz.less_ok (ga q j) (ga q (j-1))).go λ _=>?_⟩
      repeat refine⟨rfl,?_⟩
      conv=>whnf
      apply cb_split<;>intro hc
      ·conv=>whnf
       exact⟨rfl,rfl,q,⟨rfl,rfl,rfl,rfl,rfl,trivial⟩,hA,hm,hst⟩
      have hi:j<q.length:=by omega
      have hj:j-1<q.length:=by omega
      have ej:((j:Nat):Int)-1=((j-1:Nat):Int):=by omega
      have ein:InR (((j:Nat):Int)-1):=by unfold InR;omega
      refine⟨λ Z'=>ArrOn Z₀ b cap M₀ (q.set j (ga q (j-1))) Z',λ _ _ h hle=>h.le hle,?_⟩
      refine⟨ein,?_⟩
      refine⟨ein,?_⟩
      refine⟨_,j-1,⟨rfl,ej,by omega⟩,?_⟩
      refine⟨_,hA.at hj,?_⟩
      refine⟨_,j,⟨rfl,rfl,by omega⟩,?_⟩
      refine⟨_,hA.at hi,?_⟩
      refine⟨_,j,⟨rfl,rfl,by omega⟩,?_⟩
      conv=>whnf
      intro Zs hs _
      refine⟨⟨rfl,(hA.le hs).st (by omega) j _ hi λ _ h=>⟨rfl,_,.refl _,h⟩⟩,λ Zt hG=>?_⟩
      refine⟨_,j-1,⟨rfl,ej,by omega⟩,?_⟩
      refine⟨rfl,hG.st (by simpa using (by omega:q.length<=cap)) (j-1) _ (by simpa using hj) λ Zu hA=>?_⟩
      clear hG hs
      have hA:ArrOn Z₀ b cap M₀ (sw q j (j-1)) Zu:=hA
      refine⟨by show InR ((j:Int)+1);unfold InR;omega,?_⟩
      conv=>whnf
      have hmm:Mix z y q (sw q j (j-1)):=Mix.sw (by omega) (by omega) (by omega) (by omega) (by omega)
      exact⟨rfl,(j+1,sw q j (j-1)),⟨rfl,rfl,rfl,rfl,rfl,rfl,trivial⟩,⟨hA,hm.trans (hmm.widen (by omega) (Nat.le_refl _)),hst.keep hmm (.inl (Nat.le_refl _)),by simp only;omega,by simp only;omega⟩,by show _-_<_-_;omega⟩
     ·conv=>whnf
      exact⟨rfl,rfl,q,⟨rfl,rfl,rfl,rfl,rfl,trivial⟩,hA,hm,hst⟩
    clear hA hm hst hql
    rintro f' ds' Z1 ⟨rfl,q,hf,hA,hm,hst⟩
    rw [<- hf.ovr]
    clear hf
    refine⟨by show InR ((s:Int)+1);unfold InR;omega,?_⟩
    conv=>whnf
    exact⟨rfl,(s+1,z,q),⟨rfl,rfl,rfl,rfl,rfl,trivial⟩,⟨hA,hm,by simp only;omega,by simp only;omega,by simp only;omega,hst⟩,by show 5-(s+1)<5-s;omega⟩
   ·refine⟨by show InR ((s:Int)+1);unfold InR;omega,?_⟩
    conv=>whnf
    exact⟨rfl,(s+1,z,q),⟨rfl,rfl,rfl,rfl,rfl,trivial⟩,⟨hA,hm,by simp only;omega,by simp only;omega,by simp only;omega,hst⟩,by show 5-(s+1)<5-s;omega⟩
 ·repeat refine⟨rfl,?_⟩
  conv=>whnf
  exact⟨false,m,rfl,hm,λ h=>(Bool.false_ne_true h).elim,hA⟩
end Go.Proofs
namespace Go.TM
structure Piv (l:List Int) (u r v:Nat):Prop where
 lo:Low l u r r (r+1)
 hi:Low l r (r+1) (r+1) v
 across:Low l u r (r+1) v
theorem Piv.of {l:List Int} {u r v:Nat} (h1:∀k,u<=k->k<r->ga l k<=ga l r) (h2:∀k,r<k->k<v->ga l r<=ga l k):Piv l u r v:=
 ⟨λ i j k1 k2 k3 k4=>by rw [show j=r by omega];exact h1 i k1 k2,λ i j k1 k2 k3 k4=>by rw [show i=r by omega];exact h2 j (by omega) k4,
  λ i j k1 k2 k3 k4=>Int.le_trans (h1 i k1 k2) (h2 j (by omega) k4)⟩
theorem Piv.left {l m:List Int} {u r v:Nat} (h:Piv l u r v) (hm:Mix u r l m):Piv m u r v:=
 ⟨h.lo.mix_l hm (Nat.le_refl _),h.hi.keep hm (.inr (Nat.le_refl _)) (.inr (Nat.le_succ _)),h.across.mix_l hm (Nat.le_succ _)⟩
theorem Piv.right {l m:List Int} {u r v:Nat} (h:Piv l u r v) (hm:Mix (r+1) v l m):Piv m u r v:=
 ⟨h.lo.keep hm (.inl (Nat.le_succ _)) (.inl (Nat.le_refl _)),h.hi.mix_r hm (Nat.le_refl _),h.across.mix_r hm (Nat.le_succ _)⟩
theorem Piv.srt {l:List Int} {u r v:Nat} (h:Piv l u r v) (h1:Srt l u r) (h2:Srt l (r+1) v):Srt l u v:=λ i j k1 k2 k3=>by
 by_cases a:j<r
 ·exact h1 i j k1 k2 a
 by_cases b:j=r
 ·rw [b];exact h.lo i r k1 (by omega) (Nat.le_refl _) (by omega)
 by_cases c:i<r
 ·exact h.across i j k1 c (by omega) k3
 by_cases d:i=r
 ·rw [d];exact h.hi r j (Nat.le_refl _) (by omega) (by omega) k3
 ·exact h2 i j (by omega) k2 k3
theorem Piv.lr {l m m':List Int} {u r v:Nat} (h:Piv l u r v) (hm:Mix u r l m) (hs:Srt m u r) (hm':Mix (r+1) v m m') (hs':Srt m' (r+1) v):Srt m' u v:=
 ((h.left hm).right hm').srt (hs.keep hm' (.inl (Nat.le_succ _))) hs'
theorem Piv.rl {l m m':List Int} {u r v:Nat} (h:Piv l u r v) (hm:Mix (r+1) v l m) (hs:Srt m (r+1) v) (hm':Mix u r m m') (hs':Srt m' u r):Srt m' u v:=
 ((h.right hm).left hm').srt hs' (hs.keep hm' (.inr (Nat.le_succ _)))
theorem eq_first {l m:List Int} {u r v:Nat} {p:Int} (hur:u<=r) (hr:r<=v) (hlow:∀k,u<=k->k<v->p<=ga l k) (h1:∀k,u<=k->k<r->ga l k<=p) (hm:Mix r v l m) (hs:Srt m r v):Srt m u v:=λ i j k1 k2 k3=>by
 have low:∀k,u<=k->k<v->p<=ga m k:=λ k a b=>by
  by_cases c:k<r
  ·rw [hm.out k (.inl c)];exact hlow k a b
  ·obtain⟨q,q1,q2,e⟩:=hm.ins k (by omega) b
   rw [e];exact hlow q (by omega) q2
 by_cases c:i<r
 ·have:ga m i<=p:=by rw [hm.out i (.inl c)];exact h1 i k1 c
  exact Int.le_trans this (low j (by omega) k3)
 ·exact hs i j (by omega) k2 k3
end Go.TM
