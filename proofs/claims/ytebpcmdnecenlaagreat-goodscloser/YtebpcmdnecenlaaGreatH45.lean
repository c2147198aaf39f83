/- A part of the proof: lemmas that the last text uses. No conditions of its own. -/
import Derived.KernelRfl
import Derived.Test.YtebpcmdnecenlaaGreatH44
import Derived.Test.YtebpcmdnecenlaaGreatH43
import Derived.Test.YtebpcmdnecenlaaGreatH40
import Derived.Test.YtebpcmdnecenlaaGreatH41
import Derived.Test.YtebpcmdnecenlaaGreatH07
import Derived.Test.YtebpcmdnecenlaaGreatH11
set_option linter.unusedSimpArgs false
set_option linter.unusedVariables false
namespace Go.TM
variable {T:Type} {P:Program} {S:Sys P T} {fn:FuncId} {ro:Option Nat}
def preC:Nat->C->C
 | 0,_=>.skip
 | k+1,.seq a b=>.seq a (preC k b)
 | _+1,c=>c
def sufC:Nat->C->C
 | 0,c=>c
 | k+1,.seq _ b=>sufC k b
 | _+1,_=>.skip
theorem wp_cut:∀(k:Nat) (c:C) {n E:Kont T} {x:Nat->Kont T} {r:Kont T} {f:Fm} {ds:List Deferred} {Z:View T},plainC (preC k c)=true->wpC S fn ro (preC k c) E x r f ds Z->(∀f ds Z,E f ds Z->wpC S fn ro (sufC k c) n x r f ds Z)->wpC S fn ro c n x r f ds Z
 | 0,c,n,E,x,r,f,ds,Z=>λ _ h1 h2=>h2 _ _ _ h1
 | k+1,c,n,E,x,r,f,ds,Z=>by
  have other:plainC c=true->wpC S fn ro c E x r f ds Z->(∀f ds Z,E f ds Z->wpC S fn ro .skip n x r f ds Z)->wpC S fn ro c n x r f ds Z:=λ hp h1 h2=>wpC_mono c hp _ _ _ _ _ _ (λ f ds Z h=>h2 f ds Z h) (λ _ _ _ _ h=>h) (λ _ _ _ h=>h) _ _ _ h1
  cases c with
  | seq a b=>
   intro hp h1 h2
   have hp:(plainC a && plainC (preC k b))=true:=hp
   rw [Bool.and_eq_true] at hp
   exact wpC_mono a hp.1 _ _ _ _ _ _ (λ f ds Z h=>wp_cut k b hp.2 h h2) (λ _ _ _ _ h=>h) (λ _ _ _ h=>h) _ _ _ h1
  | _=>exact other
theorem cutR (S:Sys P T) (fn:FuncId) (ro:Option Nat) (c:C) (k id:Nat) {n:Kont T} {x:Nat->Kont T} {r:Kont T} {f:Fm} {ds:List Deferred} {Z:View T} (hp:plainC (preC k c)=true) (E:Kont T)
  (h1:wpC S fn ro (preC k c) E (λ i f ds Z=>bif Nat.beq i id then n f ds Z else x i f ds Z) r f ds Z) (h2:∀f ds Z,E f ds Z->wpC S fn ro (sufC k c) n (λ i f ds Z=>bif Nat.beq i id then n f ds Z else x i f ds Z) r f ds Z):C.rec (motive:=λ _=>Kont T->(Nat->Kont T)->Kont T->Kont T)
  (λ n _ _=>n)
  (λ _ _ a b n x r=>a (b n x r) x r)
  (λ c _ _ a b n x r=>iteX c (a n x r) (b n x r))
  (λ id _ b n x r=>b n (λ i f ds Z=>bif Nat.beq i id then n f ds Z else x i f ds Z) r)
  (λ _ b _ x r=>loopX b x r)
  (λ i _ x _=>x i)
  (λ _ _ r=>r)
  (λ _ b n x r=>b n x r)
  (λ l n _ _=>OpX S ro l n)
  (λ qs ts n _ _=>DX S (λ _=>False) qs (λ _=>True) (OpX S ro ts n))
  (λ qs st ts n _ _ f ds Z=>∃G,Mono G/\DX S G qs (λ _=>True) (lastX S G st (OpX S ro ts n)) f ds Z)
  (λ N mu dets c params a' bd _ _ n x r=>rngX S fn ro N mu dets c params a' bd n x r)
  (λ N c n x r=>cdX S fn ro N c n x r)
  (λ _ _ _ _ _ _=>False) (.block id c) n x r f ds Z:=wp_cut k c hp h1 h2
end Go.TM
namespace Go.Proofs
open Go.TM
set_option maxRecDepth 100000
variable {T:Type} {S:TM.Sys Tryz.prog T} {Z Z₀:View T}
attribute [local irreducible] CallsV YieldV rngX
set_option maxHeartbeats 4000000 in
theorem Tryz.pdqG_ok (b cap:Nat) (M₀:List Res) (Z₀:View T):∀(n:Nat) (l:List Int) (Z:View T) (lim:Int) (x y:Nat),ArrOn Z₀ b cap M₀ l Z->l.length<=cap->l.length<200->y-x<n->x<=y->y<=l.length->Under l x y->0<=lim->lim<2 ^ 30 ->
  CallsV S 110 #[.slice (some ⟨b,0,none⟩) l.length cap,.int .i64 x,.int .i64 y,.int .i64 lim] (λ _ Z'=>∃l',Mix x y l l'/\Srt l' x y/\ArrOn Z₀ b cap M₀ l' Z') Z:=by
 intro n
 induction n with
 | zero=>exact λ l Z lim x y _ _ _ h=>absurd h (Nat.not_lt_zero _)
 | succ n ih=>
 intro l Z lim x y hA hcap hn hlt hxy hy hu hl0 hl1
 refine CallsV.of (args:=[_,_,_,_]) Tryz.k110 Tryz.mixed (by simp) ?_
 repeat refine⟨rfl,?_⟩
 refine⟨Nat×Nat×Int×Bool×Bool×List Int,λ z=>[(0,.slice (some ⟨b,0,none⟩) l.length cap),(1,.int .i64 z.1),(2,.int .i64 z.2.1),(3,.int .i64 z.2.2.1),(8,.bool z.2.2.2.1),(9,.bool z.2.2.2.2.1)],
  λ z Z'=>ArrOn Z₀ b cap M₀ z.2.2.2.2.2 Z'/\Mix x y l z.2.2.2.2.2/\x<=z.1/\z.1<=z.2.1/\z.2.1<=y/\0<=z.2.2.1/\z.2.2.1<2 ^ 30/\Under z.2.2.2.2.2 z.1 z.2.1 /\
   (∀m',Mix z.1 z.2.1 z.2.2.2.2.2 m'->Srt m' z.1 z.2.1->Srt m' x y),λ z=>z.2.1-z.1,(x,y,lim,true,true,l),⟨rfl,rfl,rfl,rfl,rfl,rfl,trivial⟩,⟨hA,.refl ..,Nat.le_refl _,hxy,Nat.le_refl _,hl0,hl1,hu,λ m' _ h=>h⟩,?_⟩
 clear hA hl0 hl1
 rintro⟨u,v,lim,wb,wp,m⟩ f Z1 ⟨hA,hm,hxu,huv,hvy,hl0,hl1,hum,hend⟩
 simp only at hA hm hxu huv hvy hl0 hl1 hum hend
 have hml:=hm.len
 have done:∀m' Z',Mix u v m m'->Srt m' u v->ArrOn Z₀ b cap M₀ m' Z'->∃l',Mix x y l l'/\Srt l' x y/\ArrOn Z₀ b cap M₀ l' Z':=λ m' Z' h1 h2 h3=>⟨m',hm.trans (h1.widen hxu hvy),hend m' h1 h2,h3⟩
 generalize hcode:C.seq _ _=code
 refine cutR S 110 none code 7 1 (by rw [<- hcode];rfl) (λ f' ds' Z'=>ds'=[]/\∃(p:Nat) (lim':Int) (wb' wp':Bool) (q:List Int),AllEq f' [(0,.slice (some ⟨b,0,none⟩) l.length cap),(1,.int .i64 u),(2,.int .i64 v),(3,.int .i64 lim'),(8,.bool wb'),(9,.bool wp'),(10,.int .i64 ((v-u:Nat):Int)),(11,.int .i64 p)]/\ArrOn Z₀ b cap M₀ q Z'/\Mix u v m q/\u<=p/\p<v/\0<=lim'/\lim'<2 ^ 30) ?_ ?_
 ·subst hcode
  refine⟨by show InR ((v:Int)-(u:Int));unfold InR;omega,?_⟩
  rw [show (v:Int)-u=((v-u:Nat):Int) by omega]
  repeat refine⟨rfl,?_⟩
  conv=>whnf
  apply cb_split<;>intro hc
  ·have hi:=Tryz.insort_ok (S:=S) b cap m M₀ hA (by omega) (by omega) u v huv (by omega)
   rw [hml] at hi
   refine⟨Tryz.k137.any,hi.mono ?_⟩
   rintro _ Z2 ⟨m',h1,h2,h3⟩ -
   repeat refine⟨rfl,?_⟩
   conv=>whnf
   exact done m' Z2 h1 h2 h3
  have h12:12<v-u:=by have:=of_decide_eq_false hc;omega
  repeat refine⟨rfl,?_⟩
  conv=>whnf
  apply cb_split<;>intro hc
  ·have hi:=Tryz.heap_ok (S:=S) b cap m M₀ hA (by omega) (by omega) u v (by omega) (by omega)
   rw [hml] at hi
   refine⟨Tryz.k138.any,hi.mono ?_⟩
   rintro _ Z2 ⟨m',h1,h2,h3⟩ -
   repeat refine⟨rfl,?_⟩
   conv=>whnf
   exact done m' Z2 h1 h2 h3
  have hl:1<=lim:=by have:lim≠0:=by simpa using hc
                     omega
  cases wb with
  | false=>
   have hbk:=Tryz.break_ok (S:=S) b cap m M₀ hA (by omega) (by omega) u v (by omega) (by omega)
   rw [hml] at hbk
   refine⟨Tryz.k139.any,hbk.mono ?_⟩
   rintro _ Z2 ⟨q,hq,hA⟩ -
   refine⟨by show InR (lim-1);unfold InR;omega,?_⟩
   have hql0:q.length=l.length:=hq.len.trans hml
   have hpv0:=Tryz.pivot_ok (S:=S) (some ⟨b,0,none⟩) q.length cap q hA.ints (by omega) u v (by omega) (by omega)
   rw [hql0] at hpv0
   refine⟨Tryz.k140.any,hpv0.mono ?_⟩
   rintro _ Z' ⟨⟨p,k,rfl,hup,hpv⟩,hZ'⟩ -
   obtain rfl:=hZ'.symm
   repeat refine⟨rfl,?_⟩
   conv=>whnf
   apply cb_split<;>intro hc
   ·have hrv:=Tryz.reverse_ok (S:=S) b cap q M₀ hA (by omega) (by omega) u v (by omega) (by omega)
    rw [hql0] at hrv
    refine⟨Tryz.k141.any,hrv.mono ?_⟩
    rintro _ Z4 ⟨q2,hq2,hA⟩ -
    have hq:=hq.trans hq2
    clear hq2
    obtain⟨p',hp'⟩:∃p':Nat,p'=(v-1)-(p-u):=⟨_,rfl⟩
    refine⟨by show InR ((v:Int)-1);unfold InR;omega,?_⟩
    refine⟨by show InR ((p:Int)-(u:Int));unfold InR;omega,?_⟩
    refine⟨by show InR ((v:Int)-1-((p:Int)-(u:Int)));unfold InR;omega,?_⟩
    rw [show (v:Int)-1-((p:Int)-(u:Int))=(p':Int) by omega]
    have hup:u<=p':=by omega
    have hpv:p'<v:=by omega
    generalize q2=q at hA hq
    clear hql0
    have hql0:q.length=l.length:=hq.len.trans hml
    clear hp'
    generalize p'=p at hup hpv ⊢
    repeat refine⟨rfl,?_⟩
    conv=>whnf
    exact⟨p,(lim-1),false,_,q,⟨rfl,rfl,rfl,rfl,rfl,rfl,rfl,rfl,trivial⟩,hA,hq,hup,hpv,by show (0:Int)<=(lim-1);omega,by show (lim-1)<(2:Int) ^ 30;omega⟩
   repeat refine⟨rfl,?_⟩
   conv=>whnf
   exact⟨p,(lim-1),false,_,q,⟨rfl,rfl,rfl,rfl,rfl,rfl,rfl,rfl,trivial⟩,hA,hq,hup,hpv,by show (0:Int)<=(lim-1);omega,by show (lim-1)<(2:Int) ^ 30;omega⟩
  | true=>
   obtain⟨q,hqe⟩:∃q,q=m:=⟨m,rfl⟩
   rw [<- hqe] at hA
   have hq:Mix u v m q:=hqe ▸ Mix.refl u v m
   clear hqe
   have hql0:q.length=l.length:=hq.len.trans hml
   have hpv0:=Tryz.pivot_ok (S:=S) (some ⟨b,0,none⟩) q.length cap q hA.ints (by omega) u v (by omega) (by omega)
   rw [hql0] at hpv0
   refine⟨Tryz.k140.any,hpv0.mono ?_⟩
   rintro _ Z' ⟨⟨p,k,rfl,hup,hpv⟩,hZ'⟩ -
   obtain rfl:=hZ'.symm
   repeat refine⟨rfl,?_⟩
   conv=>whnf
   apply cb_split<;>intro hc
   ·have hrv:=Tryz.reverse_ok (S:=S) b cap q M₀ hA (by omega) (by omega) u v (by omega) (by omega)
    rw [hql0] at hrv
    refine⟨Tryz.k141.any,hrv.mono ?_⟩
    rintro _ Z4 ⟨q2,hq2,hA⟩ -
    have hq:=hq.trans hq2
    clear hq2
    obtain⟨p',hp'⟩:∃p':Nat,p'=(v-1)-(p-u):=⟨_,rfl⟩
    refine⟨by show InR ((v:Int)-1);unfold InR;omega,?_⟩
    refine⟨by show InR ((p:Int)-(u:Int));unfold InR;omega,?_⟩
    refine⟨by show InR ((v:Int)-1-((p:Int)-(u:Int)));unfold InR;omega,?_⟩
    rw [show (v:Int)-1-((p:Int)-(u:Int))=(p':Int) by omega]
    have hup:u<=p':=by omega
    have hpv:p'<v:=by omega
    generalize q2=q at hA hq
    clear hql0
    have hql0:q.length=l.length:=hq.len.trans hml
    clear hp'
    generalize p'=p at hup hpv ⊢
    cases wp with
    | false=>
     repeat refine⟨rfl,?_⟩
     conv=>whnf
     exact⟨p,lim,true,_,q,⟨rfl,rfl,rfl,rfl,rfl,rfl,rfl,rfl,trivial⟩,hA,hq,hup,hpv,by show (0:Int)<=lim;omega,by show lim<(2:Int) ^ 30;omega⟩
    | true=>
     refine⟨rfl,?_⟩
     have hpi:=Tryz.partIns_ok (S:=S) b cap q M₀ hA (by omega) (by omega) u v (by omega) (by omega) (hum.mix hq)
     rw [hql0] at hpi
     refine⟨Tryz.k142.any,hpi.mono ?_⟩
     rintro _ Z5 ⟨B1,q3,rfl,hq3,hB1,hA⟩ -
     cases B1 with
     | true=>
      repeat refine⟨rfl,?_⟩
      conv=>whnf
      exact done q3 Z5 (hq.trans hq3) (hB1 rfl) hA
     | false=>
     have hq:=hq.trans hq3
     clear hq3 hB1 hpi hql0
     generalize q3=q at hA hq
     repeat refine⟨rfl,?_⟩
     conv=>whnf
     exact⟨p,lim,true,_,q,⟨rfl,rfl,rfl,rfl,rfl,rfl,rfl,rfl,trivial⟩,hA,hq,hup,hpv,by show (0:Int)<=lim;omega,by show lim<(2:Int) ^ 30;omega⟩
   cases wp with
   | false=>
    repeat refine⟨rfl,?_⟩
    conv=>whnf
    exact⟨p,lim,true,_,q,⟨rfl,rfl,rfl,rfl,rfl,rfl,rfl,rfl,trivial⟩,hA,hq,hup,hpv,by show (0:Int)<=lim;omega,by show lim<(2:Int) ^ 30;omega⟩
   | true=>
    repeat refine⟨rfl,?_⟩
    conv=>whnf
    by_cases hk1:k=1
    ·subst hk1
     have hpi:=Tryz.partIns_ok (S:=S) b cap q M₀ hA (by omega) (by omega) u v (by omega) (by omega) (hum.mix hq)
     rw [hql0] at hpi
     refine⟨Tryz.k142.any,hpi.mono ?_⟩
     rintro _ Z5 ⟨B1,q3,rfl,hq3,hB1,hA⟩ -
     cases B1 with
     | true=>
      repeat refine⟨rfl,?_⟩
      conv=>whnf
      exact done q3 Z5 (hq.trans hq3) (hB1 rfl) hA
     | false=>
     have hq:=hq.trans hq3
     clear hq3 hB1 hpi hql0
     generalize q3=q at hA hq
     repeat refine⟨rfl,?_⟩
     conv=>whnf
     exact⟨p,lim,true,_,q,⟨rfl,rfl,rfl,rfl,rfl,rfl,rfl,rfl,trivial⟩,hA,hq,hup,hpv,by show (0:Int)<=lim;omega,by show lim<(2:Int) ^ 30;omega⟩
    ·rw [show (k == 1)=false by simp [hk1]]
     repeat refine⟨rfl,?_⟩
     conv=>whnf
     exact⟨p,lim,true,_,q,⟨rfl,rfl,rfl,rfl,rfl,rfl,rfl,rfl,trivial⟩,hA,hq,hup,hpv,by show (0:Int)<=lim;omega,by show lim<(2:Int) ^ 30;omega⟩
 subst hcode
 clear hA hl0 hl1
 rintro f' ds' Z1 ⟨rfl,p,lim,wb',wp',q,hfr,hA,hq,hup,hpv,hl0,hl1⟩
 rw [<- hfr.ovr]
 clear hfr
 have hqu:=hum.mix hq
 have hqL:q.length=l.length:=hq.len.trans hml
 have hpq:p<q.length:=by omega
 repeat refine⟨rfl,?_⟩
 conv=>whnf
 by_cases h0:0<u
 ·rw [show decide ((u:Int) > 0)=true from decide_eq_true (by omega)]
  have hu1:u-1<q.length:=by omega
  refine⟨by show InR ((u:Int)-1);unfold InR;omega,?_⟩
  refine⟨_,u-1,⟨rfl,by show (u:Int)-1=((u-1:Nat):Int);omega,by omega⟩,?_⟩
  refine⟨_,hA.at hu1,?_⟩
  refine⟨_,p,⟨rfl,rfl,by omega⟩,?_⟩
  refine⟨_,hA.at hpq,?_⟩
  conv=>whnf
  intro Z3 h_3 _
  have hA:=hA.le h_3
  refine⟨Tryz.k143.any,(Tryz.less_ok (ga q (u-1)) (ga q p)).go λ _=>?_⟩
  repeat refine⟨rfl,?_⟩
  conv=>whnf
  apply cb_split<;>intro hc
  ·have hge:¬ga q (u-1)<ga q p:=by simpa using hc
   have he:=Tryz.partEq_ok (S:=S) b cap q M₀ hA (by omega) (by omega) u v p hup hpv (by omega)
   rw [hqL] at he
   refine⟨Tryz.k144.any,he.mono ?_⟩
   rintro _ Z5 ⟨r,q',rfl,hq',r1,r2,lo,hi,hA⟩ -
   have low:∀k,u<=k->k<v->ga q p<=ga q' k:=λ k a b=>by
    obtain⟨c,c1,c2,e⟩:=hq'.ins k a b
    have:=hqu c h0 c1 c2
    rw [e];omega
   conv=>whnf
   exact⟨rfl,(r,v,lim,wb',_,q'),⟨rfl,rfl,rfl,rfl,rfl,rfl,trivial⟩,⟨hA,hm.trans ((hq.trans hq').widen hxu hvy),by show x<=r;omega,r2,hvy,by show (0:Int)<=lim;omega,by show lim<(2:Int) ^ 30;omega,
    λ k h1 h2 h3=>Int.le_trans (lo (r-1) (by omega) (by omega)) (Int.le_of_lt (hi k h2 h3)),λ m' h8 s8=>hend m' ((hq.trans hq').trans (h8.widen (by omega) (Nat.le_refl _))) (eq_first (by omega) r2 low lo h8 s8)⟩,by show v-r<v-u;omega⟩
  have hpt:=Tryz.part_ok (S:=S) b cap q M₀ hA (by omega) (by omega) u v p hup hpv (by omega)
  rw [hqL] at hpt
  refine⟨Tryz.k145.any,hpt.mono ?_⟩
  rintro _ Z6 ⟨r,q',B,rfl,hq',r1,r2,⟨lo,hi⟩,hA⟩ -
  have hqL':=hq'.len
  have piv:=Piv.of lo hi
  have huq:=hqu.mix hq'
  repeat refine⟨rfl,?_⟩
  refine⟨by show InR ((r:Int)-(u:Int));unfold InR;omega,?_⟩
  refine⟨by show InR ((v:Int)-(r:Int));unfold InR;omega,?_⟩
  repeat refine⟨rfl,?_⟩
  refine⟨by decide,?_⟩
  repeat refine⟨rfl,?_⟩
  conv=>whnf
  apply cb_split<;>intro hc
  ·have hc:=of_decide_eq_true hc
   have hi1:=ih q' Z6 (lim) u r hA (by omega) (by omega) (by omega) r1 (by omega) (λ k h0 h1 h2=>huq k h0 h1 (by omega)) (by omega) (by omega)
   rw [hqL',hqL] at hi1
   refine⟨rfl,?_⟩
   refine⟨Tryz.k110.any,hi1.mono ?_⟩
   rintro _ Z7 ⟨l',h7,s7,hA⟩ -
   refine⟨by show InR ((r:Int)+1);unfold InR;omega,?_⟩
   conv=>whnf
   exact⟨rfl,(r+1,v,lim,_,B,l'),⟨rfl,rfl,rfl,rfl,rfl,rfl,trivial⟩,⟨hA,hm.trans (((hq.trans hq').trans (h7.widen (Nat.le_refl _) (by omega))).widen hxu hvy),by show x<=r+1;omega,by show r+1<=v;omega,hvy,by show (0:Int)<=lim;omega,by show lim<(2:Int) ^ 30;omega,
    λ k h0 h1 h2=>(piv.left h7).hi r k (Nat.le_refl _) (Nat.lt_succ_self _) h1 h2,λ m' h8 s8=>hend m' (((hq.trans hq').trans (h7.widen (Nat.le_refl _) (by omega))).trans (h8.widen (by omega) (Nat.le_refl _))) (piv.lr h7 s7 h8 s8)⟩,by show v-(r+1)<v-u;omega⟩
  ·have hc:=of_decide_eq_false hc
   repeat refine⟨rfl,?_⟩
   refine⟨by show InR ((r:Int)+1);unfold InR;omega,?_⟩
   have hi1:=ih q' Z6 (lim) (r+1) v hA (by omega) (by omega) (by omega) (by omega) (by omega) (λ k h0 h1 h2=>piv.hi r k (Nat.le_refl _) (Nat.lt_succ_self _) h1 h2) (by omega) (by omega)
   rw [hqL',hqL] at hi1
   refine⟨Tryz.k110.any,hi1.mono ?_⟩
   rintro _ Z7 ⟨l',h7,s7,hA⟩ -
   conv=>whnf
   have w7:Mix u v q' l':=h7.widen (by omega) (Nat.le_refl _)
   have under:Under l' u r:=λ k h0 h1 h2=>(huq.mix w7) k h0 h1 (by omega)
   have hend2:∀m',Mix u r l' m'->Srt m' u r->Srt m' x y:=λ m' h8 s8=>hend m' (((hq.trans hq').trans w7).trans (h8.widen (Nat.le_refl _) (by omega))) (piv.rl h7 s7 h8 s8)
   exact⟨rfl,(u,r,lim,_,B,l'),⟨rfl,rfl,rfl,rfl,rfl,rfl,trivial⟩,⟨hA,hm.trans (((hq.trans hq').trans w7).widen hxu hvy),hxu,r1,by show r<=y;omega,by show (0:Int)<=lim;omega,by show lim<(2:Int) ^ 30;omega,
    under,hend2⟩,by show r-u<v-u;omega⟩
 ·rw [show decide ((u:Int) > 0)=false from decide_eq_false (by omega)]
  conv=>whnf
  intro Z3 h_3 _
  have hA:=hA.le h_3
  have hpt:=Tryz.part_ok (S:=S) b cap q M₀ hA (by omega) (by omega) u v p hup hpv (by omega)
  rw [hqL] at hpt
  refine⟨Tryz.k145.any,hpt.mono ?_⟩
  rintro _ Z6 ⟨r,q',B,rfl,hq',r1,r2,⟨lo,hi⟩,hA⟩ -
  have hqL':=hq'.len
  have piv:=Piv.of lo hi
  have huq:=hqu.mix hq'
  repeat refine⟨rfl,?_⟩
  refine⟨by show InR ((r:Int)-(u:Int));unfold InR;omega,?_⟩
  refine⟨by show InR ((v:Int)-(r:Int));unfold InR;omega,?_⟩
  repeat refine⟨rfl,?_⟩
  refine⟨by decide,?_⟩
  repeat refine⟨rfl,?_⟩
  conv=>whnf
  apply cb_split<;>intro hc
  ·have hc:=of_decide_eq_true hc
   have hi1:=ih q' Z6 (lim) u r hA (by omega) (by omega) (by omega) r1 (by omega) (λ k h0 h1 h2=>huq k h0 h1 (by omega)) (by omega) (by omega)
   rw [hqL',hqL] at hi1
   refine⟨rfl,?_⟩
   refine⟨Tryz.k110.any,hi1.mono ?_⟩
   rintro _ Z7 ⟨l',h7,s7,hA⟩ -
   refine⟨by show InR ((r:Int)+1);unfold InR;omega,?_⟩
   conv=>whnf
   exact⟨rfl,(r+1,v,lim,_,B,l'),⟨rfl,rfl,rfl,rfl,rfl,rfl,trivial⟩,⟨hA,hm.trans (((hq.trans hq').trans (h7.widen (Nat.le_refl _) (by omega))).widen hxu hvy),by show x<=r+1;omega,by show r+1<=v;omega,hvy,by show (0:Int)<=lim;omega,by show lim<(2:Int) ^ 30;omega,
    λ k h0 h1 h2=>(piv.left h7).hi r k (Nat.le_refl _) (Nat.lt_succ_self _) h1 h2,λ m' h8 s8=>hend m' (((hq.trans hq').trans (h7.widen (Nat.le_refl _) (by omega))).trans (h8.widen (by omega) (Nat.le_refl _))) (piv.lr h7 s7 h8 s8)⟩,by show v-(r+1)<v-u;omega⟩
  ·have hc:=of_decide_eq_false hc
   repeat refine⟨rfl,?_⟩
   refine⟨by show InR ((r:Int)+1);unfold InR;omega,?_⟩
   have hi1:=ih q' Z6 (lim) (r+1) v hA (by omega) (by omega) (by omega) (by omega) (by omega) (λ k h0 h1 h2=>piv.hi r k (Nat.le_refl _) (Nat.lt_succ_self _) h1 h2) (by omega) (by omega)
   rw [hqL',hqL] at hi1
   refine⟨Tryz.k110.any,hi1.mono ?_⟩
   rintro _ Z7 ⟨l',h7,s7,hA⟩ -
   conv=>whnf
   have w7:Mix u v q' l':=h7.widen (by omega) (Nat.le_refl _)
   have under:Under l' u r:=λ k h0 h1 h2=>(huq.mix w7) k h0 h1 (by omega)
   have hend2:∀m',Mix u r l' m'->Srt m' u r->Srt m' x y:=λ m' h8 s8=>hend m' (((hq.trans hq').trans w7).trans (h8.widen (Nat.le_refl _) (by omega))) (piv.rl h7 s7 h8 s8)
   exact⟨rfl,(u,r,lim,_,B,l'),⟨rfl,rfl,rfl,rfl,rfl,rfl,trivial⟩,⟨hA,hm.trans (((hq.trans hq').trans w7).widen hxu hvy),hxu,r1,by show r<=y;omega,by show (0:Int)<=lim;omega,by show lim<(2:Int) ^ 30;omega,
    under,hend2⟩,by show r-u<v-u;omega⟩
end Go.Proofs
namespace Go.Proofs
open Go.TM
set_option maxRecDepth 100000
variable {T:Type} {S:TM.Sys Tryz.prog T} {Z:View T}
attribute [local irreducible] CallsV YieldV rngX
theorem Tryz.sortG_ok (v:Value) (l:List Int) (M₀:List Res) (ha:Acc 3 1 v (l.map λ n=>.int .i64 n) Z.M M₀) (hlen:l.length<200) :
  CallsV S 66 #[v] (λ _ Z'=>(∀x o,Z.I x=some o->Z'.I x=some o)/\Z'.tok=Z.tok/\∃l',l'.Perm l/\SrtTo l' l.length/\Acc 3 1 v (l'.map λ n=>.int .i64 n) Z'.M M₀) Z:=by
 by_cases h12:l.length<=12
 ·exact Tryz.sort_ok v l M₀ ha h12
 rcases ha with⟨h1,h2,hM⟩ | ⟨b,c,len,cap,h1,h2,h3,h4,hM,h5⟩
 ·rw [List.map_eq_nil_iff] at h2
  subst h2
  simp at h12
 have hlenE:len=l.length:=by simpa using h2.symm
 subst hlenE
 subst h1
 have hA:ArrOn Z b cap M₀ l Z:=⟨λ _ _ h=>h,rfl,c,hM,by omega,λ k x hx=>h5 k _ (by simp [hx])⟩
 refine CallsV.of (args:=[_]) Tryz.k66 Tryz.mixed (by simp) ?_
 have hw:IntKind.wrap .u64 (l.length:Int)=l.length:=wrapU (by omega)
 conv=>whnf
 rw [hw]
 refine⟨Tryz.k111.any,(Tryz.bitlen2_ok l.length (by omega) (by omega)).mono ?_⟩
 rintro _ Z' ⟨⟨m,rfl,hm8,-⟩,hZ'⟩ -
 obtain rfl:=hZ'.symm
 have hp:=Tryz.pdqG_ok (S:=S) b cap M₀ Z (l.length+1) l Z m 0 l.length hA h3 hlen (by omega) (Nat.zero_le _) (Nat.le_refl _) (λ k h0=>absurd h0 (Nat.lt_irrefl _)) (by omega) (by omega)
 refine⟨Tryz.k110.any,hp.mono ?_⟩
 rintro _ Z2 ⟨l',hmx,hst,hA'⟩ -
 repeat refine⟨rfl,?_⟩
 conv=>whnf
 obtain⟨c',hM',hsz,hcc⟩:=hA'.mem
 refine⟨hA'.imm,hA'.tok,l',hmx.perm,λ p q x y h1 h2 hx hy=>?_,.inr ⟨b,c',l.length,cap,rfl,by simp [hmx.len],h3,by omega,hM',λ k x hx=>?_⟩⟩
 ·have:=hst p q (Nat.zero_le _) h1 h2
  rwa [ga_of hx,ga_of hy] at this
 ·rw [List.getElem?_map] at hx
  cases hy:l'[k]? with
  | none=>rw [hy] at hx;cases hx
  | some y=>rw [hy] at hx;cases hx;exact hcc k y hy
end Go.Proofs
namespace Go.TM
variable {T:Type} {P:Program} {S:Sys P T} {Z:View T}
theorem updobj_mid {b:Nat} {o o':Obj} {M:List Res}:∀X:List Res,UpdObj b o' o (X++.obj b o::M) (X++.obj b o'::M)
 | []=>.here
 | _::X=>.there (updobj_mid X)
def IntsN (Z:View T) (v:Value) (l:List Int):Prop:=∃a cap,v=.slice a l.length cap/\(a=none↔l=[])/\Ints Z a l.length l
theorem IntsN.lg {Z':View T} {v:Value} {l:List Int} (h:IntsN Z v l) (hl:Z.lg Z'):IntsN Z' v l:=let ⟨a,c,e,k,h⟩:=h;⟨a,c,e,k,h.lg hl⟩
theorem IntsN.nil:IntsN Z (.slice none 0 0) []:=⟨none,0,rfl,⟨λ _=>rfl,λ _=>rfl⟩,rfl,by simp⟩
theorem Acc.intsN {Z':View T} {v:Value} {l:List Int} (hs:Sep Z') (h:Acc 3 1 v (l.map λ n=>.int .i64 n) Z'.M Z.M) (h0:l=[]->v=.slice none 0 0) (hI:∀x ox,Z.I x=some ox->Z'.I x=some ox) (ht:Z'.tok=Z.tok):∃Z'',Shift Z' Z''/\Z.le Z''/\IntsN Z''.frz v l:=by
 obtain⟨Z'',k1,k2,a,len,cap,rfl,hl,hsrc,hsp,_⟩:=h.freeze hs hI ht
 have hl:l.length=len*1:=by simpa using hl
 obtain rfl:len=l.length:=by omega
 refine⟨Z'',k1,k2,a,cap,rfl,⟨λ e=>?_,λ e=>?_⟩,ints_src hsrc hsp⟩
 ·subst e
  rcases hsrc with⟨_,h⟩ | ⟨ad,h,_⟩
  ·simpa using h
  ·cases h
 ·have:=h0 e
  simp at this
  exact this.1
def Tbl.LeftOut (t:Tbl) (tk:Talk) (x out:List Int):Prop:=∃l',l'.Perm ((t.reach tk x []).map Prod.snd)/\SrtTo l' l'.length/\out=cpt none l'
end Go.TM
namespace Go.Proofs
open Go.TM
set_option maxRecDepth 100000
variable {T:Type} {S:TM.Sys Tryz.prog T} {Z:View T}
attribute [local irreducible] CallsV YieldV rngX
theorem Tryz.compact_nil:CallsV S 67 #[.slice none 0 0] (λ v Z'=>v=.slice none 0 0/\Z'=Z) Z:=by
 refine CallsV.of (args:=[_]) Tryz.k67 Tryz.mixed (by simp) ?_
 repeat refine⟨rfl,?_⟩
 conv=>whnf
def encT (q:Int×Int):Value:=.int .i64 q.2
theorem Tryz.left_ok (h:TH) (t:Tbl) (ht:TabV Z.frz h t) (k:KH) (tk:Talk) (ha:Ints Z.frz k.aa k.al tk.a) (hb:Ints Z.frz k.ba k.bl tk.b) (hal:k.al<=8) (hbl:k.bl<=8) (xa:Option Addr) (xl xc:Nat) (x:List Int) (hx:Ints Z.frz xa xl x) (hxl:xl<2 ^ 60) (h12:(t.reach tk x []).length<=64) :
  CallsV S 96 #[KH.v h k tk,.slice xa xl xc] (λ v Z'=>(∃out,t.LeftOut tk x out/\IntsN Z'.frz v out)/\Z.le Z') Z:=by
 refine CallsV.sep (R:=λ v Z'=>∃out,t.LeftOut tk x out/\(out=[]->v=.slice none 0 0)/\(∃A Y,Z'.M.Perm (Y++(A++Z.M))/\AccIn 3 1 v (out.map λ n=>.int .i64 n) A)/\(∀x o,Z.I x=some o->Z'.I x=some o)/\Z'.tok=Z.tok) ?_ ?_
 rotate_left
 ·rintro v Z' hs ⟨out,hout,h0,⟨A,Y,hM,hacc⟩,hI,htk⟩
  let Z1:View T:={ Z' with M:=A++Z.M }
  have hsh:Shift Z' Z1:=(shift_perm hM).trans (shift_drop (Z:={ Z' with M:=Y++(A++Z.M) }) (M':=A++Z.M) (List.sublist_append_right ..))
  have hs_1:Sep Z1:=λ r hr=>hs r (hM.mem_iff.2 (List.mem_append_right _ hr))
  obtain⟨Z'',k1,k2,k3⟩:=Acc.intsN (Z':=Z1) hs_1 (hacc Z.M) h0 hI htk
  exact⟨Z'',hsh.trans k1,⟨out,hout,k3⟩,k2⟩
 refine CallsV.of (args:=[_,_]) Tryz.k96 Tryz.mixed (by simp) ?_
 repeat refine⟨rfl,?_⟩
 conv=>whnf
 intro b2 Z1 h_1 hb_2
 have hb_2:Blk Z1 b2 (KH.cs h k tk).toArray:=hb_2
 conv=>whnf
 intro b5 hf5
 refine⟨_,.refl _,?_⟩
 refine⟨KH.cs h k tk,⟨rfl,Blk.rdI hb_2 (λ _ _ h=>h)⟩,?_⟩
 refine⟨Tryz.k92.any,(Tryz.pairs_ok h k tk xa none xl xc 0 0).mono ?_⟩
 rintro _ Z2 ⟨⟨p3,p4,p5,rfl,hp3,hp4,hp5⟩,h_2⟩ -
 have hM2:Z2.M=.obj b5 (.cells #[.slice none 0 0] 27 (0,0))::Z.M:=by rw [h_2.own];show _::Z1.M=_;rw [h_1.own]
 have hf_2:Z.frz.lg Z2:=⟨λ x o h=>h_2.imm x o (h_1.imm x o h),⟨_,(List.append_nil _).symm⟩,h_2.tok.trans h_1.tok⟩
 have hit:∀l Z3,Z2.frz.lg Z3->IterV S 129 #[.func (.yield l) #[] #[],.pointer (some ⟨p3,0,none⟩),.pointer (some ⟨p4,0,none⟩),.pointer (some ⟨p5,0,none⟩)] l ((t.reach tk x []).map encA) Z3:=λ l Z3 hl=>by
  have hl':=hl.frz2
  have hf:=hf_2.frz2.trans hl'
  exact Tryz.pairsIt_ok h t (ht.lg hf) k tk (ha.lg hf) (hb.lg hf) xa none xl xc 0 0 x [] (hx.lg hf) ⟨rfl,by simp⟩ (by omega) (by omega) hxl (by omega) p3 p4 p5 l (hp3.imI hl.imm) (hp4.imI hl.imm) (hp5.imI hl.imm)
 generalize hps:t.reach tk x []=ps at hit h12
 conv=>whnf
 let Inv:Nat->View T->Prop:=λ k Z'=>Z2.frz.lg Z'/\∃v A,Z'.M=A++.obj b5 (.cells #[v] 27 (0,0))::Z.M/\AccIn 3 1 v ((ps.take k).map encT) A/\(k=0->v=.slice none 0 0)
 refine rngX_iter Tryz.mixed (ps.map encA) Inv (λ _ _=>False) (λ _=>False) rfl rfl Tryz.k129.any (λ l Z1 hl=>hit l Z1 ⟨hl.imm,⟨_,(List.append_nil _).symm⟩,hl.tok⟩) ?_ ⟨?_,?_⟩ ?_ ?_ ?_ ?_ ?_
 ·intro p hp
  obtain⟨q,_,rfl⟩:=List.mem_map.1 hp
  rfl
 ·rintro k Z' Z'' hle ⟨hl,v,A,hM,ha,h0⟩
  exact⟨frz_le hl hle,v,A,hle.own.trans hM,ha,h0⟩
 ·rintro k Z' ⟨hl,_⟩
  exact⟨hl.imm,⟨_,(List.append_nil _).symm⟩,hl.tok⟩
 ·exact⟨⟨λ _ _ h=>h,⟨_,(List.append_nil _).symm⟩,rfl⟩,.slice none 0 0,[],hM2,.nil,λ _=>rfl⟩
 ·intro l A' B D k p Z₀ KN KX KR KA hp ⟨hl,v,A,hM,ha,h0⟩ hKN hKX hKR hKA
  obtain⟨q,hq,rfl⟩:∃q,ps[k]?=some q/\p=encA q:=by
   rw [List.getElem?_map] at hp
   cases hq:ps[k]? with
   | none=>rw [hq] at hp;cases hp
   | some q=>rw [hq] at hp;cases hp;exact⟨q,rfl,rfl⟩
  have hk:k<ps.length:=(List.getElem?_eq_some_iff.1 hq).1
  obtain⟨sa,sl,sc,rfl,hsl⟩:=ha.src
  conv=>whnf
  intro b6 hf6
  refine⟨_,.refl _,?_⟩
  refine⟨rfl,st_new (vs:=encII q) hf6 rfl (by simp [encII,Value.single]) λ Z1 h_1 hb6=>?_⟩
  conv=>whnf
  have e1:Z1=({ Z1 with M:=Z₀.M }:View T).on A' D:=by
   have:=h_1.own
   obtain⟨i1,m1,t1⟩:=Z1
   simp only [View.on] at this ⊢
   rw [this]
  rw [e1]
  refine hKA _ _ ?_
  have hM1:(({ Z1 with M:=Z₀.M }:View T).on B D).M=B::D::(A++.obj b5 (.cells #[.slice sa sl sc] 27 (0,0))::Z.M):=by show B::D::Z₀.M=_;rw [hM]
  have hI1:∀x o,Z₀.I x=some o->Z1.I x=some o:=λ x o h=>h_1.imm x o h
  have hb6':Blk (({ Z1 with M:=Z₀.M }:View T).on B D) b6 #[.int .i64 q.1,.int .i64 q.2]:=hb6
  generalize hZ_2:(({ Z1 with M:=Z₀.M }:View T).on B D)=Z3 at hM1 hb6' ⊢
  have hI2:∀x o,Z2.I x=some o->Z3.I x=some o:=λ x o h=>by rw [<- hZ_2];exact hI1 x o (hl.imm x o h)
  have ht2:Z3.tok=Z2.tok:=by rw [<- hZ_2];exact h_1.tok.trans hl.tok
  clear hZ_2 e1 h_1 hb6 hf6
  refine⟨_,reads_at (B::D::A) hM1 0 _ rfl,?_⟩
  refine⟨_,hb6'.sees3 (o:=1) rfl,?_⟩
  conv=>whnf
  intro bn hfn
  refine put_new_perm (M':=A++B::D::.obj b5 (.cells #[.slice sa sl sc] 27 (0,0))::Z.M) hfn (by rw [hM1];exact perm_in B D A _) λ Z4 hI4 ht4 hM4 hbn=>?_
  have hbn:Blk Z4 bn #[encT q]:=hbn
  conv=>whnf
  refine raw_app (v:=.slice sa sl sc) (cs:=(ps.take k).map encT) (new:=[encT q]) (M₀:=B::D::.obj b5 (.cells #[.slice sa sl sc] 27 (0,0))::Z.M) Tryz.sl27 rfl rfl (by rw [hM4];exact ha _) (.inr ⟨_,rfl,Blk.rdI (vs:=[encT q]) hbn (λ _ _ h=>h)⟩) rfl (by simp [encT,Value.single]) (by simp;omega) λ v' M' ha' hnil=>?_
  have ha':Acc 3 1 v' ((ps.take (k+1)).map encT) M' (B::D::.obj b5 (.cells #[.slice sa sl sc] 27 (0,0))::Z.M):=by rw [take_at hq];simpa using ha'
  obtain⟨A2,hM',ha2⟩:=ha'.split
  obtain⟨ta,tl,tc,rfl,-⟩:=ha2.src
  refine⟨rfl,?_⟩
  refine stv_mid (M₀:=Z.M) (e:=27) (A2++[B,D]) [.slice ta tl tc] 0 #[.slice sa sl sc] _ (by show M'=_;rw [hM'];simp) (by simp [Value.single]) (by simp) ?_
  refine⟨({ Z4 with M:=A2++.obj b5 (.cells #[.slice ta tl tc] 27 (0,0))::Z.M }:View T).on B D,?_,?_⟩
  ·refine shift_perm ?_
   show List.Perm ((A2++[B,D])++.obj b5 _::Z.M) (B::D::(A2++_))
   simpa [layAt] using (perm_in B D A2 (.obj b5 (.cells #[.slice ta tl tc] 27 (0,0))::Z.M)).symm
  conv=>whnf
  exact hKN _ _ _ ⟨⟨λ x o h=>hI4 x o (hI2 x o h),⟨_,(List.append_nil _).symm⟩,ht4.trans ht2⟩,_,A2,rfl,ha2,λ h=>absurd h (Nat.succ_ne_zero _)⟩
 ·rintro d l OA Z3 ⟨hl,v,A1,hM,ha,h0⟩
  rw [List.take_of_length_le (by simp)] at ha
  rw [List.length_map] at h0
  obtain⟨sa,sl,sc,rfl,hsl⟩:=ha.src
  have hM3:(Z3.on (.obj l OA) (.obj d (.deferred (some [])))).M=.obj l OA::.obj d (.deferred (some []))::(A1++.obj b5 (.cells #[.slice sa sl sc] 27 (0,0))::Z.M):=by show _::_::Z3.M=_;rw [hM]
  have hI3:∀x o,Z.I x=some o->(Z3.on (.obj l OA) (.obj d (.deferred (some [])))).I x=some o:=λ x o h=>hl.imm x o (hf_2.imm x o h)
  have ht3:(Z3.on (.obj l OA) (.obj d (.deferred (some [])))).tok=Z.tok:=hl.tok.trans hf_2.tok
  generalize hZ:Z3.on (.obj l OA) (.obj d (.deferred (some [])))=Z4 at hM3 hI3 ht3 ⊢
  clear hZ
  refine⟨_,reads_at (.obj l OA::.obj d (.deferred (some []))::A1) hM3 0 _ rfl,?_⟩
  have ha':AccIn 3 1 (.slice sa sl sc) ((ps.map Prod.snd).map λ n=>.int .i64 n) A1:=by rw [List.map_map];exact ha
  by_cases hnil:ps=[]
  ·have h0:=h0 (by rw [hnil];rfl)
   simp only [Value.slice.injEq] at h0
   obtain⟨rfl,rfl,rfl⟩:=h0
   subst hnil
   have hA1:A1=[]:=by
    rcases ha [] with⟨_,_,h⟩ | ⟨b,c,len,cap,h,_⟩
    ·simpa using h
    ·cases h
   subst hA1
   refine⟨Tryz.k66.any,(Tryz.sortG_ok (.slice none 0 0) [] _ .nil (by simp)).mono ?_⟩
   rintro v5 Z5 ⟨hI5,ht5,l',hp,hs',ha5⟩ -
   obtain rfl:=hp.eq_nil
   have hM_5:Z5.M=.obj l OA::.obj d (.deferred (some []))::.obj b5 (.cells #[.slice none 0 0] 27 (0,0))::Z.M:=by
    rcases ha5 with⟨_,_,h⟩ | ⟨b,c,len,cap,h,_⟩
    ·exact h.trans hM3
    ·cases h
   refine⟨_,reads_at [.obj l OA,.obj d (.deferred (some []))] hM_5 0 _ rfl,?_⟩
   refine⟨Tryz.k67.any,(Tryz.compact_nil).go λ _=>?_⟩
   refine⟨.obj l OA::.obj d (.deferred none)::.obj b5 (.cells #[.slice none 0 0] 27 (0,0))::Z.M,by rw [hM_5];exact .there .here,?_⟩
   refine⟨[],⟨[],by rw [hps];exact .nil,by simp [SrtTo],rfl⟩,λ _=>rfl,⟨[],[.obj l OA,.obj d (.deferred none),.obj b5 (.cells #[.slice none 0 0] 27 (0,0))],.refl _,.nil⟩,λ x o h=>hI5 x o (hI3 x o h),ht5.trans ht3⟩
  ·refine⟨Tryz.k66.any,CallsV.shift (shift_perm (M':=A1++.obj l OA::.obj d (.deferred (some []))::.obj b5 (.cells #[.slice sa sl sc] 27 (0,0))::Z.M) (by rw [hM3];exact perm_in _ _ A1 _)) ((Tryz.sortG_ok (.slice sa sl sc) (ps.map Prod.snd) (.obj l OA::.obj d (.deferred (some []))::.obj b5 (.cells #[.slice sa sl sc] 27 (0,0))::Z.M) (ha' _) (by rw [List.length_map];omega)).mono ?_)⟩
   rintro v5 Z5 ⟨hI5,ht5,l',hp,hs',ha5⟩ -
   obtain⟨A5,hM_5,ha5'⟩:=ha5.split
   have hM5':Z5.M=(A5++[.obj l OA,.obj d (.deferred (some []))])++.obj b5 (.cells #[.slice sa sl sc] 27 (0,0))::Z.M:=by rw [hM_5];simp
   refine⟨_,reads_at _ hM5' 0 _ rfl,?_⟩
   have hlp:=hp.length_eq
   rw [List.length_map] at hlp
   refine⟨Tryz.k67.any,(Tryz.compact_ok (.slice sa sl sc) l' _ ha5 (by omega)).mono ?_⟩
   rintro v6 Z6 ⟨ha6,hI_6,ht6⟩ -
   obtain⟨A6,hM_6,ha6'⟩:=ha6.split
   obtain⟨ta,tl,tc,rfl,htl⟩:=ha6'.src
   refine⟨A6++.obj l OA::.obj d (.deferred none)::.obj b5 (.cells #[.slice sa sl sc] 27 (0,0))::Z.M,by rw [hM_6];have:=updobj_mid (b:=d) (o:=.deferred (some [])) (o':=.deferred none) (M:=.obj b5 (.cells #[.slice sa sl sc] 27 (0,0))::Z.M) (A6++[.obj l OA]);rwa [List.append_assoc,List.append_assoc] at this,?_⟩
   refine⟨cpt none l',⟨l',by rw [hps];exact hp,by rw [hlp,<- List.length_map (f:=Prod.snd)];exact hs',rfl⟩,λ h=>?_,⟨A6,[.obj l OA,.obj d (.deferred none),.obj b5 (.cells #[.slice sa sl sc] 27 (0,0))],?_,ha6'⟩,λ x o h=>hI_6 x o (hI5 x o (hI3 x o h)),ht6.trans (ht5.trans ht3)⟩
   ·exfalso
    cases l' with
    | nil=>simp at hlp;exact hnil (List.length_eq_zero_iff.1 hlp.symm)
    | cons a r=>cases h
   ·show List.Perm (A6++.obj l OA::.obj d (.deferred none)::.obj b5 (.cells #[.slice sa sl sc] 27 (0,0))::Z.M) _
    refine ((perm_in (.obj l OA) (.obj d (.deferred none)) A6 (.obj b5 (.cells #[.slice sa sl sc] 27 (0,0))::Z.M)).symm).trans ?_
    exact List.Perm.cons _ (List.Perm.cons _ List.perm_middle)
 ·exact λ d l A i Z3 h=>h.elim
 ·exact λ d l A Z3 h=>h.elim
end Go.Proofs
namespace Go.TM
def subA (s:Nat):Nat->List Int->List Int
 | _,[]=>[]
 | i,x::r=>if s.testBit i then x::subA s (i+1) r else subA s (i+1) r
theorem subA_snoc (s:Nat) (x:Int):∀(l:List Int) (i:Nat),subA s i (l++[x])=subA s i l++(if s.testBit (i+l.length) then [x] else [])
 | [],i=>by simp only [List.nil_append,subA,List.length_nil,Nat.add_zero]
 | a::l,i=>by
  simp only [List.cons_append,subA,subA_snoc s x l (i+1),List.length_cons]
  rw [show i+1+l.length=i+(l.length+1) by omega]
  by_cases h:s.testBit i <;> simp [h]
theorem subA_len (s:Nat):∀(l:List Int) (i:Nat),(subA s i l).length<=l.length
 | [],i=>by simp [subA]
 | a::l,i=>by
  have:=subA_len s l (i+1)
  simp only [subA]
  split <;> simp <;> omega
def Tbl.leftF (t:Tbl) (tk:Talk) (x:List Int):List Int:=tk.b.filter λ y=>(t.reach tk x []).any λ p=>p.2 == y
def agStep (many:Nat) (lf:List Int->List Int) (a:List Int) (st:List Int×List Int) (s:Nat):List Int×List Int:=
 if (subA s 0 a).length+(lf (subA s 0 a)).length=many/\(s=0\/(st.1=[]/\st.2=[])\/cmpL (subA s 0 a) st.1<0) then (subA s 0 a,lf (subA s 0 a)) else st
def agAll (many:Nat) (lf:List Int->List Int) (a:List Int):List Int×List Int:=(List.range (2 ^ a.length)).foldl (agStep many lf a) ([],[])
def Asc (l:List Int):Prop:=l.Pairwise (· < ·)
theorem asc_ext:∀{l l':List Int},Asc l->Asc l'->(∀x,x∈l↔x∈l')->l=l'
 | [],[],_,_,_=>rfl
 | [],a::l',_,_,h=>absurd ((h a).2 (List.mem_cons_self ..)) (by simp)
 | a::l,[],_,_,h=>absurd ((h a).1 (List.mem_cons_self ..)) (by simp)
 | a::l,b::l',h1,h2,h=>by
  have h1':=List.pairwise_cons.1 h1
  have h2':=List.pairwise_cons.1 h2
  have hab:a=b:=by
   rcases List.mem_cons.1 ((h a).1 (List.mem_cons_self ..)) with e | e
   ·exact e
   ·rcases List.mem_cons.1 ((h b).2 (List.mem_cons_self ..)) with e' | e'
    ·exact e'.symm
    ·have:=h1'.1 b e';have:=h2'.1 a e;omega
  subst hab
  congr 1
  refine asc_ext h1'.2 h2'.2 λ x=>⟨λ hx=>?_,λ hx=>?_⟩
  ·rcases List.mem_cons.1 ((h x).1 (List.mem_cons_of_mem _ hx)) with e | e
   ·have:=h1'.1 x hx;omega
   ·exact e
  ·rcases List.mem_cons.1 ((h x).2 (List.mem_cons_of_mem _ hx)) with e | e
   ·have:=h2'.1 x hx;omega
   ·exact e
theorem Asc.filter {l:List Int} (h:Asc l) (p:Int->Bool):Asc (l.filter p):=List.Pairwise.filter _ h
theorem srt_pw {l:List Int} (h:SrtTo l l.length):l.Pairwise (·<=·):=by
 rw [List.pairwise_iff_getElem]
 intro i j hi hj hij
 exact h i j _ _ hij hj (by simp) (by simp)
theorem cpt_mem:∀(l:List Int) (p:Option Int) (x:Int),x∈cpt p l->x∈l
 | [],_,_,h=>by simp [cpt] at h
 | a::l,p,x,h=>by
  simp only [cpt] at h
  split at h
  ·exact List.mem_cons_of_mem _ (cpt_mem l _ x h)
  ·rcases List.mem_cons.1 h with h | h
   ·rw [h];exact List.mem_cons_self ..
   ·exact List.mem_cons_of_mem _ (cpt_mem l _ x h)
theorem cpt_mem':∀(l:List Int) (p:Option Int) (x:Int),x∈l->x∈cpt p l\/p=some x
 | [],_,_,h=>by simp at h
 | a::l,p,x,h=>by
  simp only [cpt]
  split
  ·rename_i e
   rcases List.mem_cons.1 h with h | h
   ·subst h;exact .inr e
   ·rcases cpt_mem' l (some a) x h with h | h
    ·exact .inl h
    ·cases h;exact .inr e
  ·rcases List.mem_cons.1 h with h | h
   ·subst h;exact .inl (List.mem_cons_self ..)
   ·rcases cpt_mem' l (some a) x h with h | h
    ·exact .inl (List.mem_cons_of_mem _ h)
    ·cases h;exact .inl (List.mem_cons_self ..)
theorem cpt_asc:∀(l:List Int) (p:Option Int),l.Pairwise (·<=·)->(∀m,p=some m->∀x∈l,m<=x)->Asc (cpt p l)/\∀m,p=some m->∀x∈cpt p l,m<x
 | [],_,_,_=>⟨List.Pairwise.nil,λ _ _ x h=>by simp [cpt] at h⟩
 | a::l,p,h,hp=>by
  have h':=List.pairwise_cons.1 h
  obtain⟨k1,k2⟩:=cpt_asc l (some a) h'.2 (λ m e x hx=>by cases e;exact h'.1 x hx)
  simp only [cpt]
  split
  ·rename_i e
   exact⟨k1,λ m hm x hx=>by rw [e] at hm;cases hm;exact k2 a rfl x hx⟩
  ·rename_i e
   refine⟨List.pairwise_cons.2 ⟨λ x hx=>k2 a rfl x hx,k1⟩,λ m hm x hx=>?_⟩
   have ha:=hp m hm a (List.mem_cons_self ..)
   have hne:m≠a:=λ e'=>e (by rw [hm,e'])
   rcases List.mem_cons.1 hx with rfl | hx
   ·omega
   ·have:=k2 a rfl x hx;omega
theorem Tbl.chk_asc {t:Tbl} {e:Int}:∀{l:List Int} {p:Option Int},t.chk e p l=0->Asc l/\∀m,p=some m->∀x∈l,m<x
 | [],_,_=>⟨List.Pairwise.nil,λ _ _ x h=>by simp at h⟩
 | a::l,p,h=>by
  rw [Tbl.chk_cons] at h
  split at h
  ·have key:t.chk e (some a) l=0->Asc (a::l):=λ h=>by
    obtain⟨k1,k2⟩:=Tbl.chk_asc h
    exact List.pairwise_cons.2 ⟨λ x hx=>k2 a rfl x hx,k1⟩
   cases p with
   | none=>exact⟨key h,λ m hm=>by cases hm⟩
   | some m=>
    simp only at h
    split at h
    ·cases h
    ·rename_i hlt
     have hk:=key h
     refine⟨hk,λ m' hm x hx=>?_⟩
     cases hm
     rcases List.mem_cons.1 hx with rfl | hx
     ·omega
     ·have:=(List.pairwise_cons.1 hk).1 x hx;omega
  ·cases h
theorem Tbl.reach_snd {t:Tbl} {tk:Talk} {x y:List Int} {p:Int×Int} (h:p∈t.reach tk x y):p.1∈tk.a/\p.2∈tk.b:=by
 unfold Tbl.reach at h
 obtain⟨one,h1,h2⟩:=List.mem_flatMap.1 h
 unfold Tbl.reachRow at h2
 obtain⟨two,h3,rfl⟩:=List.mem_map.1 h2
 exact⟨h1,(List.mem_filter.1 h3).1⟩
theorem Tbl.left_eq {t:Tbl} {tk:Talk} {x out:List Int} (hb:Asc tk.b) (h:t.LeftOut tk x out):out=t.leftF tk x:=by
 obtain⟨l',hp,hs,rfl⟩:=h
 refine asc_ext (cpt_asc l' none (srt_pw hs) (λ m hm=>by cases hm)).1 (hb.filter _) λ y=>?_
 have hm:y∈l'↔∃p,p∈t.reach tk x []/\p.2=y:=by rw [hp.mem_iff,List.mem_map]
 constructor
 ·intro hy
  obtain⟨p,h1,rfl⟩:=hm.1 (cpt_mem _ _ _ hy)
  exact List.mem_filter.2 ⟨(Tbl.reach_snd h1).2,List.any_eq_true.2 ⟨p,h1,by simp⟩⟩
 ·intro hy
  obtain⟨p,h1,h2⟩:=List.any_eq_true.1 (List.mem_filter.1 hy).2
  rcases cpt_mem' l' none y (hm.2 ⟨p,h1,by simpa using h2⟩) with h | h
  ·exact h
  ·cases h
theorem bit_and (s i:Nat) (hs:s<2 ^ 32) (hi:i<64):IntKind.wrap .i64 (BitVec.ofInt (IntKind.bits .i64) ((s:Int).fdiv (2 ^ (min (i:Int).toNat (IntKind.bits .i64)))) &&& BitVec.ofInt (IntKind.bits .i64) 1).toNat=if s.testBit i then 1 else 0:=by
 show IntKind.wrap .i64 (BitVec.ofInt 64 ((s:Int).fdiv (2 ^ (min (i:Int).toNat 64))) &&& BitVec.ofInt 64 1).toNat=_
 have e1:min (i:Int).toNat 64=i:=by simp;omega
 have e2:(s:Int).fdiv (2 ^ i)=((s / 2 ^ i:Nat):Int):=by
  rw [Int.fdiv_eq_ediv_of_nonneg _ (by exact Int.pow_nonneg (by decide))]
  simp
 rw [e1,e2,BitVec.ofInt_natCast,show (BitVec.ofInt 64 1)=BitVec.ofNat 64 1 from rfl]
 have hlt:s / 2 ^ i<2 ^ 64:=Nat.lt_of_le_of_lt (Nat.div_le_self ..) (by omega)
 have e3:(BitVec.ofNat 64 (s / 2 ^ i) &&& BitVec.ofNat 64 1).toNat=s / 2 ^ i % 2:=by
  rw [BitVec.toNat_and,BitVec.toNat_ofNat,BitVec.toNat_ofNat,Nat.mod_eq_of_lt hlt,show 1 % 2 ^ 64=1 from rfl,Nat.and_one_is_mod]
 rw [e3,wrap_inR (by unfold InR;omega),Nat.testBit_eq_decide_div_mod_eq]
 by_cases h:s / 2 ^ i % 2=1
 ·simp [h]
 ·have:s / 2 ^ i % 2=0:=by omega
  simp [this]
theorem shl_pow (n:Nat) (h:n<=32):IntKind.wrap .i64 (1*2 ^ (min (n:Int).toNat (IntKind.bits .i64)))=((2 ^ n:Nat):Int):=by
 show IntKind.wrap .i64 (1*2 ^ (min (n:Int).toNat 64))=_
 have e1:min (n:Int).toNat 64=n:=by simp;omega
 rw [e1,Int.one_mul]
 have h2:2 ^ n<=2 ^ 32:=Nat.pow_le_pow_right (by decide) h
 have e2:((2:Int) ^ n)=((2 ^ n:Nat):Int):=by simp
 rw [e2]
 generalize 2 ^ n=m at h2 ⊢
 exact wrap_inR (by unfold InR;omega)
variable {T:Type} {P:Program} {S:Sys P T} {Z:View T}
theorem Acc.nilOf {e n:Nat} {v:Value} {cs:List Value} {M M₀:List Res} (h:Acc e n v cs M M₀) (hn:isNilS v=true):v=.slice none 0 0:=by
 rcases h with⟨rfl,_⟩ | ⟨b,c,len,cap,rfl,_⟩
 ·rfl
 ·cases hn
theorem st_allG {T:Type} {Z:View T} {b:Nat} {e:TypeId} {c:Array Value} {vs:List Value} {M₀:List Res} {Q:View T->Prop} (X:List Res) (hM:Z.M=X++.obj b (.cells c e (0,0))::M₀) (hsz:c.size=vs.length) (hs:∀v∈vs,v.single=true)
  (h:∀Z':View T,(∀x o,Z.I x=some o->Z'.I x=some o)->Z'.tok=Z.tok->Z'.M=X++.obj b (.cells vs.toArray e (0,0))::M₀->Q Z'):StV ⟨b,0,none⟩ vs 0 (λ Z'=>∃Z1,Shift Z' Z1/\Q Z1) Z:=st_all X hM hsz hs (h _ (λ _ _ h=>h) rfl rfl)
theorem most_le (la:List Int) (ps:List (Int×Int)):most la ps<=la.length:=by
 have key:∀(la:List Int) (st:Nat×List (Int×Int)),(la.foldl (mostStep ps) st).1<=st.1+la.length:=by
  intro la
  induction la with
  | nil=>intro st;simp
  | cons a la ih=>
   intro st
   have h1:=ih (mostStep ps st a)
   have h2:(mostStep ps st a).1<=st.1+1:=by rw [mostStep_eq];simp only;split <;> omega
   simp only [List.foldl_cons,List.length_cons]
   omega
 simpa [most] using key la (0,[])
theorem PairsN.nil:PairsN Z (.slice none 0 0) []:=⟨none,0,rfl,Nat.le_refl _,rfl,by simp⟩
end Go.TM
namespace Go.TM
open Go.Proofs
def Tbl.mostT (t:Tbl) (tk:Talk):Nat:=most tk.a (t.reach tk [] [])
def Tbl.agr (t:Tbl) (tk:Talk):List Int×List Int:=agAll (t.mostT tk) (t.leftF tk) tk.a
end Go.TM
namespace Go.Proofs
open Go.TM
set_option maxRecDepth 100000
variable {T:Type} {S:TM.Sys Tryz.prog T} {Z:View T}
attribute [local irreducible] CallsV YieldV rngX
theorem Tryz.Agree_ok (h:TH) (t:Tbl) (ht:TabV Z.frz h t) (e lv:Int) (a a':Option Addr) (len cap len' cap':Nat) (l l':List Int) (hl:Ints Z.frz a len l) (hl':Ints Z.frz a' len' l') (hlen:len<2 ^ 60) (hlen':len'<2 ^ 60)
  (hL:t.talkF e l l' lv=0->(proofL l (t.mostT ⟨e,lv,l,l'⟩) (t.reach ⟨e,lv,l,l'⟩ [] [])).isSome=true) (h12:t.talkF e l l' lv=0->∀x,(t.reach ⟨e,lv,l,l'⟩ x []).length<=64) :
  CallsV S 46 #[h.v,.int .i64 e,.slice a len cap,.slice a' len' cap',.int .i64 lv] (λ v Z'=>(∃va vb vp la lb lp,v=.tuple #[va,vb,vp,.int .i64 (t.talkF e l l' lv)]/\IntsN Z'.frz va la/\IntsN Z'.frz vb lb/\PairsN Z'.frz vp lp /\
   (if t.talkF e l l' lv=0 then (la,lb)=t.agr ⟨e,lv,l,l'⟩/\proofL l (t.mostT ⟨e,lv,l,l'⟩) (t.reach ⟨e,lv,l,l'⟩ [] [])=some lp else la=[]/\lb=[]/\lp=[]))/\Z.le Z') Z:=by
 refine CallsV.sep (R:=λ v Z'=>∃va vb vp la lb lp,v=.tuple #[va,vb,vp,.int .i64 (t.talkF e l l' lv)]/\IntsN Z'.frz va la/\IntsN Z'.frz vb lb/\Acc 80 2 vp (lp.flatMap encII) Z'.M Z.M/\(∀x o,Z.I x=some o->Z'.I x=some o)/\Z'.tok=Z.tok /\
   (if t.talkF e l l' lv=0 then (la,lb)=t.agr ⟨e,lv,l,l'⟩/\proofL l (t.mostT ⟨e,lv,l,l'⟩) (t.reach ⟨e,lv,l,l'⟩ [] [])=some lp else la=[]/\lb=[]/\lp=[])) (CallsV.of (args:=[_,_,_,_,_]) Tryz.k46 Tryz.mixed (by simp) ?_) ?_
 rotate_left
 ·rintro v Z' hs ⟨va,vb,vp,la,lb,lp,rfl,h1,h2,h3,h4,h5,h6⟩
  obtain⟨Z'',k1,k2,k3⟩:=Acc.pairsN (Z:={ Z' with M:=Z.M }) hs h3 (λ _ _ h=>h) rfl
  have hle:Z'.frz.lg Z''.frz:=⟨k2.imm,⟨[],rfl⟩,k2.tok⟩
  exact⟨Z'',k1,⟨va,vb,vp,la,lb,lp,rfl,h1.lg hle,h2.lg hle,k3,h6⟩,⟨λ b o hb=>k2.imm b o (h4 b o hb),k2.own,k2.tok.trans h5⟩⟩
 repeat refine⟨rfl,?_⟩
 conv=>whnf
 intro b5 Z1 h_1 hb_5
 refine⟨_,⟨rfl,hb_5.rdT λ _ _ h=>h⟩,?_⟩
 have hf_1:Z.frz.lg Z1:=frz_self.trans h_1.lg
 refine⟨Tryz.k90.any,(Tryz.talk_ok h t (ht.lg hf_1) e lv a a' len cap len' cap' l l' (hl.lg hf_1) (hl'.lg hf_1) hlen hlen').go λ _=>?_⟩
 conv=>whnf
 intro b14 hf14
 refine⟨_,.refl _,?_⟩
 refine⟨rfl,st_new (vs:=KH.cs h ⟨a,len,cap,a',len',cap'⟩ ⟨e,lv,l,l'⟩) hf14 rfl (by simp [KH.cs,Value.single]) λ Z2 h_2 hb_14=>?_⟩
 have hle:=h_1.trans h_2
 have hf_2:Z.frz.lg Z2:=frz_self.trans hle.lg
 repeat refine⟨rfl,?_⟩
 conv=>whnf
 apply cb_split<;>intro hc
 ·have hf:t.talkF e l l' lv≠0:=by simpa using hc
  repeat refine⟨rfl,?_⟩
  conv=>whnf
  exact⟨_,_,_,[],[],[],rfl,.nil,.nil,by rw [hle.own];exact .nil,hle.imm,hle.tok,by rw [if_neg hf];exact⟨rfl,rfl,rfl⟩⟩
 have hf:t.talkF e l l' lv=0:=by simpa using hc
 obtain⟨hfl,hed,hc1,hc2,hlv⟩:=Tbl.talk_two hf
 have l8:l.length<=8:=chk_len8 hfl hc1
 have l8':l'.length<=8:=chk_len8 hfl hc2
 have hasc:=(Tbl.chk_asc hc2).1
 have hll:=hl.1
 have hll':=hl'.1
 generalize htk:(⟨e,lv,l,l'⟩:Talk)=tk at *
 have e1:tk.a=l:=by rw [<- htk]
 have e2:tk.b=l':=by rw [<- htk]
 let kh:KH:=⟨a,len,cap,a',len',cap'⟩
 refine⟨KH.cs h kh tk,⟨rfl,Blk.rdI hb_14 (λ _ _ h=>h)⟩,?_⟩
 refine⟨Tryz.k92.any,(Tryz.pairs_ok h kh tk none none 0 0 0 0).mono ?_⟩
 rintro _ Z3 ⟨⟨b3,b4,b5',rfl,hb3,hb4,hb5⟩,h_3⟩ -
 have hle_3:=hle.trans h_3
 have hf_3:Z.frz.lg Z3.frz:=(hf_2.trans h_3.lg).frz2
 have hla:Ints Z.frz kh.aa kh.al tk.a:=by rw [e1];exact hl
 have hlb:Ints Z.frz kh.ba kh.bl tk.b:=by rw [e2];exact hl'
 have hka:kh.al<=8:=by show len<=8;omega
 have hkb:kh.bl<=8:=by show len'<=8;omega
 refine⟨Tryz.k91.any,((Tryz.talkPairs_ok h t (ht.lg hf_3) kh tk (hla.lg hf_3) (hlb.lg hf_3) hka hkb b3 b4 b5' none 0 0 [] ⟨rfl,by simp⟩ (by omega) hb3 hb4 hb5).sep (R':=λ v Z''=>Z3.le Z''/\PairsN Z''.frz v (t.reach tk [] [])) λ v Z' hs ⟨h1,h2,h3⟩=>by
  obtain⟨Z'',k1,k2,k3⟩:=h1.pairsN hs h2 h3
  exact⟨Z'',k1,k2,k3⟩).mono ?_⟩
 rintro _ Z4 ⟨h_4,pa,pc,rfl,hpcap,hprows⟩ -
 have hle_4:=hle_3.trans h_4
 have hf_4:Z.frz.lg Z4.frz:=(hf_3.trans (⟨h_4.imm,⟨[],rfl⟩,h_4.tok⟩:Z3.frz.lg Z4.frz))
 have hb₁₄4:Blk Z4 b14 (KH.cs h kh tk).toArray:=hb_14.le (h_3.trans h_4)
 have hplen:(t.reach tk [] []).length<=64:=h12 hf []
 refine⟨KH.cs h kh tk,⟨rfl,Blk.rdI hb₁₄4 (λ _ _ h=>h)⟩,?_⟩
 refine⟨Tryz.k95.any,(Tryz.most_ok h kh tk (hla.lg hf_4) (by omega) pa _ pc (t.reach tk [] []) hprows (by omega)).go λ _=>?_⟩
 have hmost:most tk.a (t.reach tk [] [])=t.mostT tk:=rfl
 rw [hmost]
 have hml:t.mostT tk<=8:=by
  have:=most_le tk.a (t.reach tk [] [])
  rw [e1] at this
  unfold Tbl.mostT
  rw [e1];omega
 refine⟨by omega,?_⟩
 rw [shl_pow len (by omega)]
 conv=>whnf
 have hasc':Asc tk.b:=by rw [e2];exact hasc
 refine⟨Nat×Value×Value×List Int×List Int,λ y=>[(2,.slice a len cap),(10,y.2.1),(11,y.2.2.1),(14,.pointer (some ⟨b14,0,none⟩)),(15,.slice pa (t.reach tk [] []).length pc),(16,.int .i64 (t.mostT tk)),(42,.int .i64 ((2 ^ len:Nat):Int)),(43,.int .i64 y.1)],
  λ y Z'=>Z4.le Z'/\IntsN Z'.frz y.2.1 y.2.2.2.1/\IntsN Z'.frz y.2.2.1 y.2.2.2.2/\y.1<=2 ^ len/\y.2.2.2.1.length<=8/\(y.2.2.2.1,y.2.2.2.2)=(List.range y.1).foldl (agStep (t.mostT tk) (t.leftF tk) tk.a) ([],[]),
  λ y=>2 ^ len-y.1,(0,.slice none 0 0,.slice none 0 0,[],[]),⟨rfl,rfl,rfl,rfl,rfl,rfl,rfl,rfl,trivial⟩,⟨.refl _,.nil,.nil,Nat.zero_le _,by simp,rfl⟩,?_⟩
 have h2len:2 ^ len<=256:=by
  have:2 ^ len<=2 ^ 8:=Nat.pow_le_pow_right (by decide) (by omega)
  omega
 rintro⟨s,fa,fb,la,lb⟩ f Z5 ⟨h_5,hfa,hfb,hs,hlal,hst⟩
 simp only at hfa hfb hs hlal hst
 obtain⟨faa,fac,rfl,hfan,hfai⟩:=hfa
 obtain⟨fba,fbc,rfl,hfbn,hfbi⟩:=hfb
 have hle_5:=hle_4.trans h_5
 have hf_5:Z.frz.lg Z5:=frz_self.trans hle_5.lg
 repeat refine⟨rfl,?_⟩
 conv=>whnf
 apply cb_split<;>intro hc
 ·have hlt:s<2 ^ len:=by
   have h:=of_decide_eq_true hc
   exact Int.ofNat_lt.1 h
  have hsn:InR (s+1):=by unfold InR;omega
  refine⟨Nat×Value,λ y=>[(2,.slice a len cap),(10,.slice faa la.length fac),(11,.slice fba lb.length fbc),(14,.pointer (some ⟨b14,0,none⟩)),(15,.slice pa (t.reach tk [] []).length pc),(16,.int .i64 (t.mostT tk)),(17,.int .i64 s),(18,y.2),(42,.int .i64 ((2 ^ len:Nat):Int)),(43,.int .i64 s),(46,.slice a len cap),(47,.int .i64 len),(48,.int .i64 y.1)],
   λ y Z'=>(∀x o,Z5.I x=some o->Z'.I x=some o)/\Z'.tok=Z.tok/\Acc 3 1 y.2 ((subA s 0 (l.take y.1)).map λ n=>.int .i64 n) Z'.M Z.M/\isNilS y.2=(subA s 0 (l.take y.1)).isEmpty/\y.1<=len,
   λ y=>len-y.1,(0,.slice none 0 0),⟨rfl,rfl,rfl,rfl,rfl,rfl,rfl,rfl,rfl,rfl,rfl,rfl,rfl,trivial⟩,⟨λ _ _ h=>h,hle_5.tok,by rw [hle_5.own];exact .nil,rfl,by omega⟩,?_⟩
  rintro⟨i,v⟩ f Z6 ⟨hI_6,ht6,hacc,hnil,hi⟩
  simp only at hacc hnil hi
  have hf_6:Z.frz.lg Z6:=⟨λ x o h=>hI_6 x o (hf_5.imm x o h),⟨_,(List.append_nil _).symm⟩,ht6⟩
  obtain⟨sa,sc,rfl,-⟩:=src_ints hacc
  repeat refine⟨rfl,?_⟩
  conv=>whnf
  apply cb_split<;>intro hc
  ·have hlti:i<len:=by simpa using hc
   obtain⟨ad,n,hx,hae,-,hrd⟩:=(hl.lg hf_6).at hlti
   have hin:InR (i+1):=by unfold InR;omega
   have hsub:subA s 0 (l.take (i+1))=subA s 0 (l.take i)++(if s.testBit i then [n] else []):=by
    rw [take_at hx,subA_snoc,List.length_take,Nat.zero_add,Nat.min_eq_left (by omega)]
   refine⟨ad,i,⟨hae,rfl,hlti⟩,?_⟩
   refine⟨_,hrd,?_⟩
   refine⟨by omega,?_⟩
   refine⟨rfl,?_⟩
   rw [bit_and s i (by omega) (by omega)]
   by_cases hbit:s.testBit i
   ·rw [if_pos hbit] at hsub ⊢
    repeat refine⟨rfl,?_⟩
    conv=>whnf
    intro bn hfn
    refine put_new hfn λ Z7 h_7 hbn=>?_
    have hbn:Blk Z7 bn #[.int .i64 n]:=hbn
    conv=>whnf
    refine raw_app (v:=.slice sa _ sc) (cs:=(subA s 0 (l.take i)).map λ n=>.int .i64 n) (new:=[.int .i64 n]) (M₀:=Z.M) Tryz.sl27 rfl rfl (by rw [h_7.own];exact hacc) (.inr ⟨_,rfl,Blk.rdI (vs:=[.int .i64 n]) hbn (λ _ _ h=>h)⟩) rfl (by simp [Value.single]) (by have:=subA_len s (l.take i) 0;simp;simp at this;omega) λ v' M' ha' hn'=>?_
    have ha':Acc 3 1 v' ((subA s 0 (l.take (i+1))).map λ n=>.int .i64 n) M' Z.M:=by rw [hsub];simpa using ha'
    obtain⟨ta,tc,rfl,-⟩:=src_ints (Z:={ Z7 with M:=M' }) ha'
    refine⟨hin,?_⟩
    refine⟨rfl,(i+1,.slice ta _ tc),⟨rfl,rfl,rfl,rfl,rfl,rfl,rfl,rfl,rfl,rfl,rfl,rfl,rfl,trivial⟩,⟨λ x o h=>h_7.imm x o (hI_6 x o h),h_7.tok.trans ht6,ha',?_,by simp only;omega⟩,by show _-_<_-_;omega⟩
    show isNilS (.slice ta _ tc)=_
    rw [hn',hsub];simp
   ·rw [if_neg hbit] at hsub ⊢
    rw [List.append_nil] at hsub
    repeat refine⟨rfl,?_⟩
    refine⟨hin,?_⟩
    refine⟨rfl,(i+1,.slice sa (subA s 0 (l.take i)).length sc),⟨rfl,rfl,rfl,rfl,rfl,rfl,rfl,rfl,rfl,rfl,rfl,rfl,rfl,trivial⟩,⟨hI_6,ht6,by simp only [hsub];exact hacc,by simp only [hsub];exact hnil,by simp only;omega⟩,by show _-_<_-_;omega⟩
  ·have hge:i=len:=by simp at hc;omega
   subst hge
   rw [List.take_of_length_le (by omega)] at hacc hnil
   rw [List.take_of_length_le (by omega)]
   have hb₁₄6:Blk Z6 b14 (KH.cs h kh tk).toArray:=hb₁₄4.imI λ x o h=>hI_6 x o (h_5.imm x o h)
   refine⟨KH.cs h kh tk,⟨rfl,Blk.rdI hb₁₄6 (λ _ _ h=>h)⟩,?_⟩
   refine⟨Tryz.k96.any,CallsV.sep0 λ hsep=>?_⟩
   obtain⟨Z7,k1,k2,na,nc,e3,hnn,hni⟩:=Acc.intsN (Z:={ Z6 with M:=Z.M }) hsep hacc (λ e=>hacc.nilOf (by rw [hnil,e];rfl)) (λ _ _ h=>h) rfl
   cases e3
   have hf_7:Z.frz.lg Z7.frz:=⟨λ x o h=>k2.imm x o (hf_6.imm x o h),⟨[],rfl⟩,k2.tok.trans ht6⟩
   have hslen:(subA s 0 l).length<=8:=by have:=subA_len s l 0;omega
   refine CallsV.shift k1 ((Tryz.left_ok h t (ht.lg hf_7) kh tk (hla.lg hf_7) (hlb.lg hf_7) hka hkb sa (subA s 0 l).length sc (subA s 0 l) hni (by omega) (h12 hf _)).mono ?_)
   rintro _ Z8 ⟨⟨out,hout,ra,rc,rfl,hrn,hri⟩,h_8⟩ -
   obtain rfl:=Tbl.left_eq hasc' hout
   have hI_8:∀x o,Z5.I x=some o->Z8.I x=some o:=λ x o h=>h_8.imm x o (k2.imm x o (hI_6 x o h))
   have hM_8:Z8.M=Z.M:=h_8.own.trans k2.own
   have ht8:Z8.tok=Z.tok:=h_8.tok.trans (k2.tok.trans ht6)
   have hle8:Z4.le Z8:=⟨λ x o h=>hI_8 x o (h_5.imm x o h),hM_8.trans hle_4.own.symm,ht8.trans hle_4.tok.symm⟩
   have hf58:Z5.frz.lg Z8.frz:=⟨hI_8,⟨[],rfl⟩,ht8.trans hle_5.tok.symm⟩
   have hfai8:=hfai.lg hf58
   have hfbi8:=hfbi.lg hf58
   have hni8:Ints Z8.frz sa (subA s 0 l).length (subA s 0 l):=hni.lg (⟨h_8.imm,⟨[],rfl⟩,h_8.tok⟩:Z7.frz.lg Z8.frz)
   have hrlen:(t.leftF tk (subA s 0 l)).length<=8:=by
    have h1:=List.length_filter_le (λ y=>(t.reach tk (subA s 0 l) []).any λ p=>p.2 == y) tk.b
    rw [e2] at h1
    unfold Tbl.leftF;rw [e2];omega
   have hst':(List.range (s+1)).foldl (agStep (t.mostT tk) (t.leftF tk) tk.a) ([],[])=agStep (t.mostT tk) (t.leftF tk) tk.a (la,lb) s:=by rw [List.range_succ,List.foldl_append,<- hst];rfl
   refine⟨by unfold InR;omega,?_⟩
   repeat refine⟨rfl,?_⟩
   conv=>whnf
   apply gb_split<;>intro hc
   ·have hsum:(subA s 0 l).length+(t.leftF tk (subA s 0 l)).length=t.mostT tk:=by
     have h:=eq_of_beq hc
     omega
    repeat refine⟨rfl,?_⟩
    conv=>whnf
    apply gb_split<;>intro hc
    ·have hs0:s≠0:=by simpa using hc
     conv=>whnf
     refine raw_eqNil Tryz.u27 rfl ?_
     conv=>whnf
     apply gb_split<;>intro hc
     ·have hfa0:la=[]:=hfan.1 (by cases faa with | none=>rfl | some x=>simp at hc)
      conv=>whnf
      refine raw_eqNil Tryz.u27 rfl ?_
      repeat refine⟨rfl,?_⟩
      conv=>whnf
      apply gb_split<;>intro hc
      ·have hnb:¬((la,lb).1=[]/\(la,lb).2=[]):=λ h=>by
        have h2:=hfbn.2 h.2
        rw [h2] at hc
        cases hc
       refine⟨Tryz.k97.any,(Tryz.compare_ok sa faa _ sc _ fac (subA s 0 l) la (hni8.lg frz_self) (hfai8.lg frz_self) (by omega) (by omega)).go λ _=>?_⟩
       repeat refine⟨rfl,?_⟩
       conv=>whnf
       apply cb_split<;>intro hc
       ·have hcmp:cmpL (subA s 0 l) la<0:=by simpa using hc
        have hag:agStep (t.mostT tk) (t.leftF tk) tk.a (la,lb) s=(subA s 0 l,t.leftF tk (subA s 0 l)):=by unfold agStep;rw [e1,if_pos ⟨hsum,.inr (.inr hcmp)⟩]
        rw [hag] at hst'
        repeat refine⟨rfl,?_⟩
        refine⟨hsn,?_⟩
        conv=>whnf
        exact⟨rfl,(s+1,.slice sa (subA s 0 l).length sc,.slice ra (t.leftF tk (subA s 0 l)).length rc,subA s 0 l,t.leftF tk (subA s 0 l)),⟨rfl,rfl,rfl,rfl,rfl,rfl,rfl,rfl,trivial⟩,⟨hle8,⟨sa,sc,rfl,hnn,hni8⟩,⟨ra,rc,rfl,hrn,hri⟩,by simp only;omega,by simp only;omega,hst'.symm⟩,by show _-_<_-_;omega⟩
       ·have hcmp:¬cmpL (subA s 0 l) la<0:=by simpa using hc
        have hag:agStep (t.mostT tk) (t.leftF tk) tk.a (la,lb) s=(la,lb):=by unfold agStep;rw [e1,if_neg (by rintro⟨_,h | h | h⟩;exact hs0 h;exact hnb h;exact hcmp h)]
        rw [hag] at hst'
        repeat refine⟨rfl,?_⟩
        refine⟨hsn,?_⟩
        conv=>whnf
        exact⟨rfl,(s+1,.slice faa la.length fac,.slice fba lb.length fbc,la,lb),⟨rfl,rfl,rfl,rfl,rfl,rfl,rfl,rfl,trivial⟩,⟨hle8,⟨faa,fac,rfl,hfan,hfai8⟩,⟨fba,fbc,rfl,hfbn,hfbi8⟩,by simp only;omega,by simp only;omega,hst'.symm⟩,by show _-_<_-_;omega⟩
      ·have hfb0:lb=[]:=hfbn.1 (by cases fba with | none=>rfl | some x=>simp at hc)
       have hag:agStep (t.mostT tk) (t.leftF tk) tk.a (la,lb) s=(subA s 0 l,t.leftF tk (subA s 0 l)):=by unfold agStep;rw [e1,if_pos ⟨hsum,.inr (.inl ⟨hfa0,hfb0⟩)⟩]
       rw [hag] at hst'
       repeat refine⟨rfl,?_⟩
       refine⟨hsn,?_⟩
       conv=>whnf
       exact⟨rfl,(s+1,.slice sa (subA s 0 l).length sc,.slice ra (t.leftF tk (subA s 0 l)).length rc,subA s 0 l,t.leftF tk (subA s 0 l)),⟨rfl,rfl,rfl,rfl,rfl,rfl,rfl,rfl,trivial⟩,⟨hle8,⟨sa,sc,rfl,hnn,hni8⟩,⟨ra,rc,rfl,hrn,hri⟩,by simp only;omega,by simp only;omega,hst'.symm⟩,by show _-_<_-_;omega⟩
     ·have hnb:¬((la,lb).1=[]/\(la,lb).2=[]):=λ h=>by
       have h2:=hfan.2 h.1
       rw [h2] at hc
       cases hc
      refine⟨Tryz.k97.any,(Tryz.compare_ok sa faa _ sc _ fac (subA s 0 l) la (hni8.lg frz_self) (hfai8.lg frz_self) (by omega) (by omega)).go λ _=>?_⟩
      repeat refine⟨rfl,?_⟩
      conv=>whnf
      apply cb_split<;>intro hc
      ·have hcmp:cmpL (subA s 0 l) la<0:=by simpa using hc
       have hag:agStep (t.mostT tk) (t.leftF tk) tk.a (la,lb) s=(subA s 0 l,t.leftF tk (subA s 0 l)):=by unfold agStep;rw [e1,if_pos ⟨hsum,.inr (.inr hcmp)⟩]
       rw [hag] at hst'
       repeat refine⟨rfl,?_⟩
       refine⟨hsn,?_⟩
       conv=>whnf
       exact⟨rfl,(s+1,.slice sa (subA s 0 l).length sc,.slice ra (t.leftF tk (subA s 0 l)).length rc,subA s 0 l,t.leftF tk (subA s 0 l)),⟨rfl,rfl,rfl,rfl,rfl,rfl,rfl,rfl,trivial⟩,⟨hle8,⟨sa,sc,rfl,hnn,hni8⟩,⟨ra,rc,rfl,hrn,hri⟩,by simp only;omega,by simp only;omega,hst'.symm⟩,by show _-_<_-_;omega⟩
      ·have hcmp:¬cmpL (subA s 0 l) la<0:=by simpa using hc
       have hag:agStep (t.mostT tk) (t.leftF tk) tk.a (la,lb) s=(la,lb):=by unfold agStep;rw [e1,if_neg (by rintro⟨_,h | h | h⟩;exact hs0 h;exact hnb h;exact hcmp h)]
       rw [hag] at hst'
       repeat refine⟨rfl,?_⟩
       refine⟨hsn,?_⟩
       conv=>whnf
       exact⟨rfl,(s+1,.slice faa la.length fac,.slice fba lb.length fbc,la,lb),⟨rfl,rfl,rfl,rfl,rfl,rfl,rfl,rfl,trivial⟩,⟨hle8,⟨faa,fac,rfl,hfan,hfai8⟩,⟨fba,fbc,rfl,hfbn,hfbi8⟩,by simp only;omega,by simp only;omega,hst'.symm⟩,by show _-_<_-_;omega⟩
    ·have hs0:s=0:=by simpa using hc
     have hag:agStep (t.mostT tk) (t.leftF tk) tk.a (la,lb) s=(subA s 0 l,t.leftF tk (subA s 0 l)):=by unfold agStep;rw [e1,if_pos ⟨hsum,.inl hs0⟩]
     rw [hag] at hst'
     repeat refine⟨rfl,?_⟩
     refine⟨hsn,?_⟩
     conv=>whnf
     exact⟨rfl,(s+1,.slice sa (subA s 0 l).length sc,.slice ra (t.leftF tk (subA s 0 l)).length rc,subA s 0 l,t.leftF tk (subA s 0 l)),⟨rfl,rfl,rfl,rfl,rfl,rfl,rfl,rfl,trivial⟩,⟨hle8,⟨sa,sc,rfl,hnn,hni8⟩,⟨ra,rc,rfl,hrn,hri⟩,by simp only;omega,by simp only;omega,hst'.symm⟩,by show _-_<_-_;omega⟩
   ·have hsum:¬(subA s 0 l).length+(t.leftF tk (subA s 0 l)).length=t.mostT tk:=λ h=>by
     have hc:=ne_of_beq_false hc
     exact hc (by omega)
    have hag:agStep (t.mostT tk) (t.leftF tk) tk.a (la,lb) s=(la,lb):=by unfold agStep;rw [e1,if_neg (λ h=>hsum h.1)]
    rw [hag] at hst'
    repeat refine⟨rfl,?_⟩
    refine⟨hsn,?_⟩
    conv=>whnf
    exact⟨rfl,(s+1,.slice faa la.length fac,.slice fba lb.length fbc,la,lb),⟨rfl,rfl,rfl,rfl,rfl,rfl,rfl,rfl,trivial⟩,⟨hle8,⟨faa,fac,rfl,hfan,hfai8⟩,⟨fba,fbc,rfl,hfbn,hfbi8⟩,by simp only;omega,by simp only;omega,hst'.symm⟩,by show _-_<_-_;omega⟩
 ·have hge:s=2 ^ len:=by
   have h:=of_decide_eq_false hc
   have h':¬s<2 ^ len:=λ x=>h (Int.ofNat_lt.2 x)
   omega
  obtain⟨L,hL'⟩:=Option.isSome_iff_exists.1 (hL hf)
  have hb₁₄5:Blk Z5 b14 (KH.cs h kh tk).toArray:=hb₁₄4.imI h_5.imm
  have hf45:Z4.frz.lg Z5.frz:=⟨h_5.imm,⟨[],rfl⟩,h_5.tok⟩
  refine⟨KH.cs h kh tk,⟨rfl,Blk.rdI hb₁₄5 (λ _ _ h=>h)⟩,?_⟩
  refine⟨Tryz.k98.any,(Tryz.proof_ok h kh tk (hla.lg hf_5.frz2) (by omega) (.slice pa (t.reach tk [] []).length pc) (t.reach tk [] []) ⟨pa,pc,rfl,hpcap,hprows.lg hf45 λ _ _ h=>h⟩ (by omega) (t.mostT tk) (by omega) L (by rw [e1];exact hL')).mono ?_⟩
  rintro v Z6 ⟨ha,hI,htk6⟩ -
  obtain⟨qa,qc,rfl,-⟩:=src_pairs ha
  have hf56:Z5.frz.lg Z6.frz:=⟨hI,⟨[],rfl⟩,htk6⟩
  repeat refine⟨rfl,?_⟩
  refine⟨_,_,_,la,lb,L,by rw [hf];rfl,⟨faa,fac,rfl,hfan,hfai.lg hf56⟩,⟨fba,fbc,rfl,hfbn,hfbi.lg hf56⟩,by rw [hle_5.own] at ha;exact ha,λ x o h=>hI x o (hf_5.imm x o h),htk6.trans hle_5.tok,?_⟩
  rw [if_pos hf]
  refine⟨?_,hL'⟩
  rw [hst,hge]
  unfold Tbl.agr agAll
  rw [e1,hll]
end Go.Proofs
namespace Go.TM
variable {T:Type} {P:Program} {S:Sys P T}
theorem FnOk.code {g:FuncId} {N:Nat} {cc:C} {rl:List RV} (k:FnOk P g N cc rl) (hm:P.follows .mixedOrders=true) {args:List Value} (hn:args.length<=N) {Z:View T} {n:Kont T} {x:Nat->Kont T} {r:Kont T}
  (h:wpC S g none cc n x r (fm args) [] Z):∃fd:Func,P.funcs[g]?=some fd/\fd.body=some (fd.body.getD .skip)/\fd.ntmps=N/\CodeV S g none (fd.body.getD .skip) (PostC N n x r) { tmps:=args.toArray++Array.replicate (fd.ntmps-args.toArray.size) undef,defers:=[] } Z:=by
 obtain⟨fd,mu,dets,hf,hb,hc,rfl,hr,-⟩:=k.ok
 refine⟨fd,hf,hb,rfl,?_⟩
 have hfr:FR fd.ntmps { tmps:=args.toArray++Array.replicate (fd.ntmps-args.toArray.size) undef,defers:=[] } (fm args) []:=by
  refine⟨rfl,by simp;omega,λ t=>?_⟩
  simp only [fm,Array.getD_eq_getD_getElem?,List.getD_eq_getElem?_getD,Array.getElem?_append,List.size_toArray,List.getElem?_toArray]
  split
  ·rfl
  ·rename_i hlt
   rw [List.getElem?_eq_none (by omega),Array.getElem?_replicate]
   split <;> rfl
 subst hc
 exact wpC_sound hm _ hfr h
theorem upd_cell1 {LB i n:Nat} {e:TypeId} {u v:Value} {M:List Res}:Upd (((Addr.mk LB 0 none).add (i*1)).add 0) v (.cell LB i u e n::M) (.cell LB i v e n::M):=by
 rw [add_none,add_none]
 simp only [Nat.zero_add,Nat.mul_one,Nat.add_zero]
 exact Upd.cell (a:=⟨LB,i,none⟩) rfl
theorem sees_cell1 {Z:View T} {LB i n:Nat} {e:TypeId} {v:Value} (h:Res.cell LB i v e n∈Z.M):Z.sees ((Addr.mk LB 0 none).add (i*1)) v:=by
 rw [add_none]
 simp only [Nat.zero_add,Nat.mul_one]
 exact⟨rfl,.inr ⟨e,n,h⟩⟩
def Tbl.rowMax (t:Tbl) (e x:Int) (ys:List Int):Int:=ys.foldl (λ m y=>max m (t.lev e x y)) 0
def maxL:List Int->Int
 | []=>0
 | x::r=>r.foldl max x
def Tbl.near (t:Tbl) (e:Int) (xs ys:List Int):Int:=maxL (xs.map λ x=>t.rowMax e x ys)
end Go.TM
namespace Go.Proofs
open Go.TM
set_option maxRecDepth 100000
attribute [local irreducible] CallsV YieldV
theorem Tryz.max_ok {T:Type} {S:TM.Sys Tryz.prog T} {Z:View T} (a:Option Addr) (len cap:Nat) (l:List Int) (hl:Ints Z a len l) (hlen:len<2 ^ 60) (hne:len≠0):CallsV S 126 #[.slice a len cap] (λ v Z'=>v=.int .i64 (maxL l)/\Z'=Z) Z:=by
 refine CallsV.of (args:=[_]) Tryz.k126 Tryz.mixed (by simp) ?_
 have hll:=hl.1
 repeat refine⟨rfl,?_⟩
 conv=>whnf
 apply cb_split<;>intro hc
 ·simp at hc;omega
 obtain⟨ad,x,hx,rfl,hsp,hs⟩:=hl.at (show 0<len by omega)
 obtain⟨r,rfl⟩:∃r,l=x::r:=by
  cases l with
  | nil=>simp at hx
  | cons y r=>simp at hx;subst hx;exact⟨r,rfl⟩
 refine⟨ad,0,⟨rfl,rfl,by omega⟩,?_⟩
 refine⟨_,hs,?_⟩
 refine⟨Nat,λ i=>[(0,.slice (some ad) len cap),(3,.int .i64 ((r.take (i-1)).foldl max x)),(4,.int .i64 i)],λ i Z'=>Z'=Z/\1<=i/\i<=len,λ i=>len-i,1,⟨rfl,rfl,rfl,trivial⟩,⟨rfl,by omega,by omega⟩,?_⟩
 rintro i f _ ⟨rfl,h1,hi⟩
 repeat refine⟨rfl,?_⟩
 conv=>whnf
 apply cb_split<;>intro hc
 ·have hlt:i<len:=by simpa using hc
  obtain⟨ad',y,hy,e,hsp',hs'⟩:=hl.at hlt
  cases e
  refine⟨ad,i,⟨rfl,rfl,hlt⟩,?_⟩
  refine⟨_,hs',?_⟩
  conv=>whnf
  refine raw_max rfl rfl ?_
  refine⟨by unfold InR;omega,?_⟩
  refine⟨rfl,i+1,⟨rfl,?_,rfl,trivial⟩,⟨rfl,by omega,by omega⟩,by show _-_<_-_;omega⟩
  obtain⟨k,rfl⟩:∃k,i=k+1:=⟨i-1,by omega⟩
  have hy':r[k]?=some y:=by simpa using hy
  show Value.int .i64 (max _ y)=Value.int .i64 ((r.take (k+1+1-1)).foldl max x)
  rw [show k+1+1-1=k+1 by omega,take_at hy',List.foldl_append]
  rfl
 ·have hge:i=len:=by simp at hc;omega
  subst hge
  repeat refine⟨rfl,?_⟩
  refine⟨?_,rfl⟩
  rw [List.take_of_length_le (by simp at hll;omega)]
  rfl
section
variable (b bb lvb ib tb eb xb:Nat) (T:Array Value) (todo:List Go.Item)
def wkArgs:List Value:=[.pointer (some ⟨b,0,none⟩),.pointer (some ⟨bb,0,none⟩),.pointer (some ⟨lvb,0,none⟩),.pointer (some ⟨ib,0,none⟩),.pointer (some ⟨tb,0,none⟩),.pointer (some ⟨eb,0,none⟩),.pointer (some ⟨xb,0,none⟩)]
def wkD:Deferred:={ target:=.fn (.func 122) (wkArgs b bb lvb ib tb eb xb).toArray,args:=#[]++#[] }
def wkB:Frame:={ (default:Frame) with fn:=122,kind:=.deferred }
def doneD:Deferred:={ target:=.fn (.func 123) #[],args:=#[]++#[.pointer (some ⟨b,0,none⟩)] }
theorem Tryz.wk_c:calmB Tryz.prog 164 false 1 (childE Tryz.prog (wkD b bb lvb ib tb eb xb))=some []:=by kernel_rfl
theorem Tryz.wk_e:calmG Tryz.prog 164 false 1 (childE Tryz.prog (wkD b bb lvb ib tb eb xb))=R wkB { tmps:=(wkArgs b bb lvb ib tb eb xb).toArray++Array.replicate (Tryz.f122.ntmps-(wkArgs b bb lvb ib tb eb xb).toArray.size) undef,defers:=[] } [.code (Tryz.f122.body.getD .skip)] [Tryz.wroot]:=by kernel_rfl
theorem Tryz.wd_c:calmB Tryz.prog 164 false 1 (Rf { fr wkB ⟨T,[doneD b]⟩ todo with mode:=.returning } [Tryz.wroot])=some []:=by kernel_rfl
theorem Tryz.wd_e:calmG Tryz.prog 164 false 1 (Rf { fr wkB ⟨T,[doneD b]⟩ todo with mode:=.returning } [Tryz.wroot])=Tryz.dn0 b T todo:=by kernel_rfl
end
theorem Tryz.wkEnd (b:Nat) (D:TM.Spec) (T:Array Value) (todo:List Go.Item) {Z:View Tk} (ht:Z.tok=⟨0,.wrk b D⟩) (hD:D Z.M) {Stop:Stp Tk}:J (SysG Tryz.prog 164 8) Stop false (Rf { fr wkB ⟨T,[doneD b]⟩ todo with mode:=.returning } [Tryz.wroot]) Z:=by
 refine J.calm0 (Tryz.wd_c b T todo) ?_
 rw [Tryz.wd_e]
 refine J.calm (b:=b) (by rw [ht];rfl) (Tryz.dn0_calm b T todo) allB_two ?_
 show J _ Stop false (Tryz.dn1 b T todo) Z
 exact .syn (Syn.lay (stepE_running (SE.of_info (g:=Tryz.dn1 b T todo) (Tryz.dn1_info b T todo))) ht hD allB_nil (info_all (Tryz.dn1_info b T todo) rfl) (Tryz.tlDone b T todo))
theorem Tryz.worker_w {b bb lvb ib tb eb xb LB n i ya' yl yc:Nat} {Z:View Tk} {ya:Option Addr} {h:TH} {t:Tbl} {e x:Int} {ys:List Int} {K:List Deferred->View Tk->Prop}
  (hM:Z.M=[.cell LB i (.int .i64 0) 3 n]) (hbb:Blk Z bb #[.slice ya yl yc]) (hlv:Blk Z lvb #[.slice (some ⟨LB,0,none⟩) n n]) (hib:Blk Z ib #[.int .i64 i]) (htb:Blk Z tb #[.slice h.ea h.el h.ec,.slice h.ma h.ml h.mc,.slice h.ka h.kl h.kc])
  (heb:Blk Z eb #[.int .i64 e]) (hxb:Blk Z xb #[.int .i64 x]) (hin:i<n) (ht:TabV Z.base h t) (hys:Ints Z.base ya yl ys) (hyl:yl<2 ^ 60)
  (hK:∀Z':View Tk,Z.sub Z'->Z'.tok=Z.tok->Z'.M=[.cell LB i (.int .i64 (t.rowMax e x ys)) 3 n]->K [doneD b] Z') :
  wpC (SysG Tryz.prog 164 8) 122 none Tryz.c122 (λ _ ds Z=>K ds Z) (λ _ _ _ _=>False) (λ _ _ _=>False) (fm (wkArgs b bb lvb ib tb eb xb)) [] Z:=by
 have hylen:=hys.1
 repeat refine⟨rfl,?_⟩
 refine⟨_,hbb.sees rfl,?_⟩
 refine⟨Nat,λ j=>[(2,.pointer (some ⟨lvb,0,none⟩)),(3,.pointer (some ⟨ib,0,none⟩)),(4,.pointer (some ⟨tb,0,none⟩)),(5,.pointer (some ⟨eb,0,none⟩)),(6,.pointer (some ⟨xb,0,none⟩)),(9,.slice ya yl yc),(10,.int .i64 yl),(11,.int .i64 j)],
  λ j Z'=>Z.sub Z'/\Z'.tok=Z.tok/\j<=yl/\Z'.M=[.cell LB i (.int .i64 (t.rowMax e x (ys.take j))) 3 n],λ j=>yl-j,0,⟨rfl,rfl,rfl,rfl,rfl,rfl,rfl,rfl,trivial⟩,⟨λ _ _ h=>h,rfl,by omega,hM⟩,?_⟩
 rintro j f Z1 ⟨hsub,htok,hj,hM_1⟩
 have bl:∀{q:Nat} {c:Array Value},Blk Z q c->Blk Z1 q c:=λ⟨t,fr,h⟩=>⟨t,fr,hsub _ _ h⟩
 repeat refine⟨rfl,?_⟩
 conv=>whnf
 apply cb_split<;>intro hc
 ·have hlt:j<yl:=by simpa using hc
  obtain⟨ad,y,hy,rfl,hsp,hs⟩:=(hys.ofBase hsub).at hlt
  refine⟨ad,j,⟨rfl,rfl,hlt⟩,?_⟩
  refine⟨_,hs,?_⟩
  refine⟨_,(bl hlv).sees rfl,?_⟩
  refine⟨_,(bl hib).sees rfl,?_⟩
  refine⟨_,(bl hlv).sees rfl,?_⟩
  refine⟨_,(bl hib).sees rfl,?_⟩
  refine⟨⟨LB,0,none⟩,i,⟨rfl,rfl,hin⟩,?_⟩
  refine⟨_,sees_cell1 (by rw [hM_1];exact List.mem_cons_self ..),?_⟩
  refine⟨[.slice h.ea h.el h.ec,.slice h.ma h.ml h.mc,.slice h.ka h.kl h.kc],⟨rfl,(bl htb).reads (λ k v hv=>by simpa using hv)⟩,?_⟩
  refine⟨_,(bl heb).sees rfl,?_⟩
  refine⟨_,(bl hxb).sees rfl,?_⟩
  refine⟨.int .i64 (t.lev e x y),λ Z' hle _=>?_,?_⟩
  ·refine⟨Tryz.k124.any,(Tryz.level_ok h t (ht.ofBase λ q o hq=>hle.imm _ _ (hsub q o hq)) e x y).mono ?_⟩
   rintro v Z'' ⟨rfl,rfl⟩ -
   exact⟨rfl,_,.refl _,.refl _⟩
  refine⟨.int .i64 (max (t.rowMax e x (ys.take j)) (t.lev e x y)),λ Z' hle _=>raw_max rfl rfl ⟨rfl,Z',.refl _,.refl _⟩,?_⟩
  conv=>whnf
  intro Z2 hle _
  have hM2:Z2.M=_:=hle.own.trans hM_1
  refine⟨⟨LB,0,none⟩,i,⟨rfl,rfl,hin⟩,?_⟩
  refine⟨rfl,rfl,_,by rw [hM2];exact upd_cell1,?_⟩
  refine⟨_,.refl _,?_⟩
  refine⟨by unfold InR;omega,?_⟩
  refine⟨rfl,j+1,⟨rfl,rfl,rfl,rfl,rfl,rfl,rfl,rfl,trivial⟩,⟨λ q o hq=>hle.imm _ _ (hsub q o hq),hle.tok.trans htok,by omega,?_⟩,by show _-_<_-_;omega⟩
  have:t.rowMax e x (ys.take (j+1))=max (t.rowMax e x (ys.take j)) (t.lev e x y):=by
   unfold Tbl.rowMax
   rw [take_at hy,List.foldl_append];rfl
  rw [this]
  rfl
 ·have hge:j=yl:=by simp at hc;omega
  subst hge
  repeat refine⟨rfl,?_⟩
  conv=>whnf
  have hh:K [doneD b] Z1:=hK Z1 hsub htok (by rw [hM_1,List.take_of_length_le (by omega)])
  have ee:(#[]++Array.map (evl (fm (wkArgs b bb lvb ib tb eb xb))) #[Operand.tmp 0]:Array Value)=#[]++#[.pointer (some ⟨b,0,none⟩)]:=by simp [evl,fm,wkArgs]
  rw [ee]
  exact hh
theorem Tryz.worker_j {b bb lvb ib tb eb xb LB n i yl yc:Nat} {Z:View Tk} {ya:Option Addr} {h:TH} {t:Tbl} {e x:Int} {ys:List Int} (D:TM.Spec) (htok:Z.tok=⟨0,.wrk b D⟩)
  (hM:Z.M=[.cell LB i (.int .i64 0) 3 n]) (hbb:Blk Z bb #[.slice ya yl yc]) (hlv:Blk Z lvb #[.slice (some ⟨LB,0,none⟩) n n]) (hib:Blk Z ib #[.int .i64 i]) (htb:Blk Z tb #[.slice h.ea h.el h.ec,.slice h.ma h.ml h.mc,.slice h.ka h.kl h.kc])
  (heb:Blk Z eb #[.int .i64 e]) (hxb:Blk Z xb #[.int .i64 x]) (hin:i<n) (ht:TabV Z.base h t) (hys:Ints Z.base ya yl ys) (hyl:yl<2 ^ 60) (hD:D [.cell LB i (.int .i64 (t.rowMax e x ys)) 3 n]) (Stop:Stp Tk) :
  J (SysG Tryz.prog 164 8) Stop false (childE Tryz.prog (wkD b bb lvb ib tb eb xb)) Z:=by
 refine J.calm0 (Tryz.wk_c ..) ?_
 rw [Tryz.wk_e]
 obtain⟨fd,hfd,hbd,hN,hcode⟩:=Tryz.k122.code (S:=SysG Tryz.prog 164 8) Tryz.mixed (args:=wkArgs b bb lvb ib tb eb xb) (by simp [wkArgs])
  (Tryz.worker_w (K:=λ ds Z'=>ds=[doneD b]/\Z'.tok=Z.tok/\D Z'.M) (ya':=0) hM hbb hlv hib htb heb hxb hin ht hys hyl λ Z' _ h2 h3=>⟨rfl,h2,by rw [h3];exact hD⟩)
 have:fd=Tryz.f122:=Option.some.inj (hfd.symm.trans Tryz.func122)
 subst this
 refine J.body (fn:=122) (Q:=_) ⟨rfl,rfl,by simp [wkB],by simp⟩ hcode λ e' a' Z' hq=>?_
 obtain⟨f',ds',hf',hq⟩:=hq
 cases e' with
 | normal=>
  obtain⟨rfl,h2,h3⟩:=hq
  refine⟨.inl rfl,λ todo=>?_⟩
  obtain⟨T,dd⟩:=a'
  have hdd:dd=[doneD b]:=hf'.ds
  subst hdd
  exact Tryz.wkEnd b D T todo (h2.trans htok) h3
 | exit i=>exact hq.elim
 | ret=>exact hq.elim
end Go.Proofs
namespace Go.TM
def specsT (LB n:Nat) (t:Tbl) (e:Int) (xs ys:List Int):Nat->List Spec
 | 0=>[]
 | i+1=>(λ M=>M=[.cell LB i (.int .i64 (t.rowMax e (xs.getD i 0) ys)) 3 n])::specsT LB n t e xs ys i
theorem specsT_len (LB n:Nat) (t:Tbl) (e:Int) (xs ys:List Int):∀i,(specsT LB n t e xs ys i).length=i
 | 0=>rfl
 | i+1=>by simp [specsT,specsT_len LB n t e xs ys i]
theorem deps_mem {LB n:Nat} {t:Tbl} {e:Int} {xs ys:List Int}:∀{i:Nat} {Ms:List (List Res)},Deps (specsT LB n t e xs ys i) Ms->∀k,k<i->Res.cell LB k (.int .i64 (t.rowMax e (xs.getD k 0) ys)) 3 n∈Ms.flatten
 | 0,_,_,k,hk=>absurd hk (Nat.not_lt_zero _)
 | i+1,[],h,_,_=>h.elim
 | i+1,M::Ms,h,k,hk=>by
  obtain⟨h1,h2⟩:=h
  simp only [List.flatten_cons,List.mem_append]
  by_cases e:k=i
  ·subst e;rw [h1];exact .inl (List.mem_singleton.2 rfl)
  ·exact .inr (deps_mem h2 k (by omega))
theorem cellsFrom_drop {LB n:Nat} {e:TypeId} {z:Value} {i:Nat} (h:i<n):cellsFrom LB e n ((List.replicate n z).drop i) i=.cell LB i z e n::cellsFrom LB e n ((List.replicate n z).drop (i+1)) (i+1):=by
 rw [List.drop_eq_getElem_cons (by simpa using h)]
 simp [cellsFrom]
end Go.TM
namespace Go.Proofs
open Go.TM
set_option maxRecDepth 100000
attribute [local irreducible] CallsV YieldV
theorem Tryz.nearest_ok {Z:View Tk} (htok:Z.tok=⟨0,.out⟩) (h:TH) (t:Tbl) (ht:TabV Z.base h t) (e:Int) (aa ya:Option Addr) (al ac yl yc:Nat) (xs ys:List Int) (hxs:Ints Z.base aa al xs) (hys:Ints Z.base ya yl ys) (hal:al<=8) (hyl:yl<2 ^ 60) :
  CallsV (SysG Tryz.prog 164 8) 88 #[h.v,.int .i64 e,.slice aa al ac,.slice ya yl yc] (λ v Z'=>v=.int .i64 (t.near e xs ys)/\Z'=Z) Z:=by
 refine CallsV.post (R:=λ v Z'=>v=.int .i64 (t.near e xs ys)/\Z.sub Z'/\Z'.tok=⟨0,.out⟩/\Z.M.Sublist Z'.M) (CallsV.of (args:=[_,_,_,_]) Tryz.k88 Tryz.mixed (by simp) ?_) ?_
 rotate_left
 ·rintro v Z' ⟨rfl,h1,h2,h3⟩
  refine⟨Z,(shift_drop h3).trans (shift_le (Z:=Z) (Z':={ Z' with M:=Z.M }) ⟨h1,rfl,h2.trans htok.symm⟩),rfl,rfl⟩
 have hxl:=hxs.1
 conv=>whnf
 intro b_1 Z1 h_1 hb_1
 conv=>whnf
 intro b_2 Z2 h_2 hb_2
 conv=>whnf
 intro b_3 Z3 h_3 hb_3
 conv=>whnf
 obtain⟨inf,hi1,hi2,hi3,hi4⟩:=Tryz.i3
 refine raw_makeInts (n:=al) Tryz.u27 hi1 hi2 rfl hi3 (by omega) rfl rfl (by omega) λ LB hLB=>?_
 conv=>whnf
 intro lvb hlvb
 refine⟨_,.refl _,?_⟩
 refine⟨rfl,st_new (vs:=[.slice (some ⟨LB,0,none⟩) al al]) hlvb rfl (by simp [Value.single]) λ Z4 h_4 hb_4=>?_⟩
 conv=>whnf
 intro wb hwb
 have h03:=(h_1.trans h_2).trans h_3
 have hM4:Z4.M=.obj LB (.cells (List.replicate al (.int .i64 0)).toArray 3)::Z.M:=by rw [h_4.own];show _::Z3.M=_;rw [h03.own]
 refine⟨⟨Z4.I,.obj wb (.cells #[stV 0 0,smV 0] 164 (0,0))::(cellsFrom LB 3 al (List.replicate al (.int .i64 0)) 0++Z.M),Z4.tok⟩,?_,?_⟩
 ·refine Shift.trans (shift_perm (M':=.obj LB (.cells (List.replicate al (.int .i64 0)).toArray 3)::.obj wb (.cells #[stV 0 0,smV 0] 164 (0,0))::Z.M) ?_) ?_
  ·show List.Perm (.obj wb _::Z4.M) _
   rw [hM4];exact List.Perm.swap ..
  ·refine Shift.trans (shift_split (b:=LB) (e:=3) (vs:=List.replicate al (.int .i64 0)) (M₀:=.obj wb (.cells #[stV 0 0,smV 0] 164 (0,0))::Z.M) rfl) (shift_perm ?_)
   rw [List.length_replicate]
   exact List.perm_middle
 have hsub4:Z.sub Z4:=λ q o hq=>h_4.imm _ _ (h03.imm _ _ hq)
 have htok4:Z4.tok=⟨0,.out⟩:=(h_4.tok.trans h03.tok).trans htok
 have up:∀q o,Z3.I q=some o->Z4.I q=some o:=λ q o hq=>h_4.imm _ _ hq
 have bl:∀{q:Nat} {c:Array Value},Blk Z3 q c->Blk Z4 q c:=λ⟨t,fr,h⟩=>⟨t,fr,up _ _ h⟩
 have hb_1:=bl (hb_1.le (h_2.trans h_3))
 have hb_2:=bl (hb_2.le h_3)
 have hb_3:=bl hb_3
 have hb_4:Blk Z4 lvb #[.slice (some ⟨LB,0,none⟩) al al]:=hb_4
 refine⟨Nat,λ i=>[(4,.pointer (some ⟨b_1,0,none⟩)),(5,.pointer (some ⟨b_2,0,none⟩)),(7,.pointer (some ⟨b_3,0,none⟩)),(9,.pointer (some ⟨lvb,0,none⟩)),(10,.pointer (some ⟨wb,0,none⟩)),(16,.slice aa al ac),(17,.int .i64 al),(18,.int .i64 i)],
  λ i Z'=>Z4.sub Z'/\i<=al/\((i=0/\Z'.tok=⟨0,.out⟩/\Z'.M=.obj wb (.cells #[stV 0 0,smV 0] 164 (0,0))::(cellsFrom LB 3 al (List.replicate al (.int .i64 0)) 0++Z.M)) \/
   (0<i/\Z'.tok=⟨0,.par wb (specsT LB al t e xs ys i) false .run⟩/\Z'.M=cellsFrom LB 3 al ((List.replicate al (.int .i64 0)).drop i) i++Z.M)),λ i=>al-i,0,
  ⟨rfl,rfl,rfl,rfl,rfl,rfl,rfl,rfl,trivial⟩,⟨λ _ _ h=>h,by omega,.inl ⟨rfl,htok4,rfl⟩⟩,?_⟩
 rintro i f Z5 ⟨hs5,hi,hst⟩
 have bl5:∀{q:Nat} {c:Array Value},Blk Z4 q c->Blk Z5 q c:=λ⟨t,fr,h⟩=>⟨t,fr,hs5 _ _ h⟩
 repeat refine⟨rfl,?_⟩
 conv=>whnf
 apply cb_split<;>intro hc
 ·have hlt:i<al:=by simpa using hc
  obtain⟨ad,x,hx,rfl,hsp,hs⟩:=(hxs.ofBase (Z':=Z5) λ q o hq=>hs5 _ _ (hsub4 q o hq)).at hlt
  have hgx:xs.getD i 0=x:=by simp [List.getD_eq_getElem?_getD,hx]
  refine⟨ad,i,⟨rfl,rfl,hlt⟩,?_⟩
  refine⟨_,hs,?_⟩
  conv=>whnf
  intro b11 hf11
  refine⟨_,.refl _,?_⟩
  conv=>whnf
  intro b12 hf12
  refine⟨_,.refl _,?_⟩
  refine⟨rfl,st_under (v:=.int .i64 i) hf11 hf12 rfl rfl λ Z6 h_6 hb11 hf12'=>?_⟩
  refine⟨rfl,st_new (vs:=[.int .i64 x]) hf12' rfl (by simp [Value.single]) λ Z7 h_7 hb12=>?_⟩
  have hb11:=hb11.le h_7
  have h57:=h_6.trans h_7
  have hs7:Z4.sub Z7:=λ q o hq=>h57.imm _ _ (hs5 q o hq)
  conv=>whnf
  have hadd:CallsV (SysG Tryz.prog 164 8) 121 #[.pointer (some ⟨wb,0,none⟩),.int .i64 1] (λ v Z'=>Z'.I=Z7.I/\Z'.tok=⟨0,.par wb (specsT LB al t e xs ys i) true .run⟩/\Z'.M=cellsFrom LB 3 al ((List.replicate al (.int .i64 0)).drop i) i++Z.M) Z7:=by
   rcases hst with⟨rfl,htk,hM5⟩ | ⟨hpos,htk,hM5⟩
   ·refine CallsV.make (M₁:=[]) (M₂:=cellsFrom LB 3 al (List.replicate al (.int .i64 0)) 0++Z.M) (h57.tok.trans htk) (h57.own.trans hM5) ?_
    exact Tryz.addV (ds:=[]) (by simp) rfl ⟨rfl,rfl,rfl⟩
   ·exact Tryz.addV (ds:=specsT LB al t e xs ys i) (by rw [specsT_len];omega) (h57.tok.trans htk) ⟨rfl,rfl,h57.own.trans hM5⟩
  refine⟨Tryz.any121,hadd.mono ?_⟩
  rintro v Z8 ⟨hI8,htk8,hM8⟩ -
  have hs8:Z4.sub Z8:=λ q o hq=>by rw [hI8];exact hs7 q o hq
  have bl8:∀{q:Nat} {c:Array Value},Blk Z7 q c->Blk Z8 q c:=λ⟨t,fr,h⟩=>⟨t,fr,by rw [hI8];exact h⟩
  conv=>whnf
  intro a ha
  rw [Tryz.go88_eq]
  refine cv_region ?_
  rw [Tryz.go88_r]
  refine ov_con λ⟨w,hw⟩=>?_
  refine ov_cons Tryz.o88_0 (wanted_none Tryz.o88_g0) (.inl rfl) ?_
  unfold OpV
  have e10:a.eval (.tmp 10)=.pointer (some ⟨wb,0,none⟩):=ha.get 10
  have e7:a.eval (.tmp 7)=.pointer (some ⟨b_3,0,none⟩):=ha.get 7
  have e9:a.eval (.tmp 9)=.pointer (some ⟨lvb,0,none⟩):=ha.get 9
  have e11:a.eval (.tmp 11)=.pointer (some ⟨b11,0,none⟩):=ha.get 11
  have e4:a.eval (.tmp 4)=.pointer (some ⟨b_1,0,none⟩):=ha.get 4
  have e5:a.eval (.tmp 5)=.pointer (some ⟨b_2,0,none⟩):=ha.get 5
  have e12:a.eval (.tmp 12)=.pointer (some ⟨b12,0,none⟩):=ha.get 12
  have hmap:(#[Operand.tmp 10,.tmp 7,.tmp 9,.tmp 11,.tmp 4,.tmp 5,.tmp 12].map a.eval:Array Value)=(wkArgs wb b_3 lvb b11 b_1 b_2 b12).toArray:=by simp [e10,e7,e9,e11,e4,e5,e12,wkArgs]
  have hmap0:(#[].map a.eval:Array Value)=#[]:=by simp
  simp only [execOp,Tryz.o88_op0,Instr.makeFunc,sv_bind,sv_pure,NextV,hmap,hmap0]
  rw [Tryz.o88_d0]
  have ha':=ha.put (some 24) (.func (.func 122) #[] (wkArgs wb b_3 lvb b11 b_1 b_2 b12).toArray) (by intro d hd;cases hd;decide)
  have h24:(a.put (some 24) (.func (.func 122) #[] (wkArgs wb b_3 lvb b11 b_1 b_2 b12).toArray)).eval (.tmp 24)=.func (.func 122) #[] (wkArgs wb b_3 lvb b11 b_1 b_2 b12).toArray:=by rw [ha'.eval];rfl
  have hperm:List.Perm Z8.M ([.cell LB i (.int .i64 0) 3 al]++(cellsFrom LB 3 al ((List.replicate al (.int .i64 0)).drop (i+1)) (i+1)++Z.M)):=by rw [hM8,cellsFrom_drop hlt];exact List.Perm.refl _
  refine ov_go (D:=λ M=>M=[.cell LB i (.int .i64 (t.rowMax e (xs.getD i 0) ys)) 3 al]) (ds:=specsT LB al t e xs ys i) (Zp:=⟨Z8.I,cellsFrom LB 3 al ((List.replicate al (.int .i64 0)).drop (i+1)) (i+1)++Z.M,⟨0,.par wb (specsT LB al t e xs ys (i+1)) false .run⟩⟩)
   (Zc:=⟨Z8.I,[.cell LB i (.int .i64 0) 3 al],⟨0,.wrk wb λ M=>M=[.cell LB i (.int .i64 (t.rowMax e (xs.getD i 0) ys)) 3 al]⟩⟩) Tryz.o88_1 (wanted_none Tryz.o88_g1) Tryz.o88_op1 h24 htk8 (fork_part hw hperm) rfl rfl (λ Stop=>?_) ?_
  ·refine Tryz.worker_j (Z:=⟨Z8.I,[.cell LB i (.int .i64 0) 3 al],⟨0,.wrk wb λ M=>M=[.cell LB i (.int .i64 (t.rowMax e (xs.getD i 0) ys)) 3 al]⟩⟩) (ya:=ya) (yl:=yl) (yc:=yc) (h:=h) (t:=t) (e:=e) (x:=x) (ys:=ys) (n:=al) (i:=i) (LB:=LB) _ rfl rfl (bl8 ((hb_3.imm' hs7))) (bl8 (hb_4.imm' hs7)) (bl8 hb11) (bl8 (hb_1.imm' hs7)) (bl8 (hb_2.imm' hs7)) (bl8 hb12) hlt ?_ ?_ hyl ?_ Stop
   ·exact TabV.ofBase ht λ q o hq=>hs8 _ _ (hsub4 q o hq)
   ·exact Ints.ofBase hys λ q o hq=>hs8 _ _ (hsub4 q o hq)
   ·rw [hgx]
  ·refine ov_nil ?_
   rw [Tryz.o88_d1]
   refine⟨by simp [Act.put],_,ha'.get,?_⟩
   refine⟨by unfold InR;omega,?_⟩
   refine⟨by simpa [Act.put] using ha.ds,i+1,⟨rfl,rfl,rfl,rfl,rfl,rfl,rfl,rfl,trivial⟩,⟨hs8,by omega,.inr ⟨by omega,rfl,rfl⟩⟩,by show _-_<_-_;omega⟩
 ·have hge:i=al:=by simp at hc;omega
  subst hge
  conv=>whnf
  have hwait:CallsV (SysG Tryz.prog 164 8) 125 #[.pointer (some ⟨wb,0,none⟩)] (λ v Z'=>Z'.I=Z5.I/\Z'.tok=⟨0,.out⟩/\∃Ms,Deps (specsT LB i t e xs ys i) Ms/\Z'.M=Z.M++Ms.flatten) Z5:=by
   rcases hst with⟨rfl,htk,hM5⟩ | ⟨hpos,htk,hM5⟩
   ·refine CallsV.make (M₁:=[]) (M₂:=cellsFrom LB 3 0 (List.replicate 0 (.int .i64 0)) 0++Z.M) htk hM5 ?_
    exact Tryz.waitV (ds:=[]) (by simp) rfl λ Ms hMs=>⟨rfl,rfl,Ms,hMs,rfl⟩
   ·refine Tryz.waitV (ds:=specsT LB i t e xs ys i) (by rw [specsT_len];exact hal) htk λ Ms hMs=>⟨rfl,rfl,Ms,hMs,?_⟩
    show Z5.M++Ms.flatten=_
    rw [hM5,List.drop_eq_nil_of_le (by simp)]
    rfl
  refine⟨Tryz.any125,hwait.mono ?_⟩
  rintro v Z6 ⟨hI6,htk6,Ms,hMs,hM6⟩ -
  have bl6:∀{q:Nat} {c:Array Value},Blk Z4 q c->Blk Z6 q c:=λ⟨t,fr,h⟩=>⟨t,fr,by rw [hI6];exact hs5 _ _ h⟩
  have hsub6:Z.sub Z6:=λ q o hq=>by rw [hI6];exact hs5 _ _ (hsub4 q o hq)
  have hMsub:Z.M.Sublist Z6.M:=by rw [hM6];exact List.sublist_append_left ..
  refine⟨_,(bl6 hb_4).sees rfl,?_⟩
  repeat refine⟨rfl,?_⟩
  conv=>whnf
  apply cb_split<;>intro hc
  ·have h0:i=0:=by simp at hc;omega
   subst h0
   repeat refine⟨rfl,?_⟩
   refine⟨?_,hsub6,htk6,hMsub⟩
   have:xs=[]:=by simpa using hxl
   subst this
   rfl
  ·have h0:i≠0:=by simp at hc;omega
   refine⟨_,(bl6 hb_4).sees rfl,?_⟩
   refine⟨Tryz.k126.any,(Tryz.max_ok (some ⟨LB,0,none⟩) i i (xs.map λ x=>t.rowMax e x ys) ⟨by rw [List.length_map];exact hxl,λ k y hk=>⟨_,rfl,rfl,?_⟩⟩ (by omega) h0).mono ?_⟩
   ·have hkl:k<i:=by have:=(List.getElem?_eq_some_iff.1 hk).1;simp at this;omega
    have hm:=deps_mem hMs k hkl
    have hy:t.rowMax e (xs.getD k 0) ys=y:=by
     rw [List.getElem?_map] at hk
     cases hx:xs[k]? with
     | none=>rw [hx] at hk;cases hk
     | some x=>rw [hx] at hk;simp at hk;rw [<- hk,List.getD_eq_getElem?_getD,hx];rfl
    rw [hy] at hm
    exact sees_cell1 (by rw [hM6];exact List.mem_append_right _ hm)
   rintro v Z' ⟨rfl,rfl⟩ -
   repeat refine⟨rfl,?_⟩
   conv=>whnf
   exact⟨hsub6,htk6,hMsub⟩
end Go.Proofs
namespace Go.TM
def Tbl.kinF (t:Tbl) (one two:Int) (a b:List Int):Int:=if t.openF one [a]=0 then t.openF two [b] else t.openF one [a]
def Tbl.kinA (t:Tbl) (one two:Int) (a:List Int):SC:=t.moved one (max one two) a
def Tbl.kinB (t:Tbl) (one two:Int) (b:List Int):SC:=t.moved two (max one two) b
def Tbl.kinS (t:Tbl) (one two:Int) (a b:List Int):Int×Int:=
 if t.kinF one two a b=0 then (t.near (max one two) (listS (t.kinA one two a).s) (listS (t.kinB one two b).s),t.near (max one two) (listS (t.kinA one two a).c) (listS (t.kinB one two b).c)) else (0,0)
theorem listS_len (s:Nat->Bool):(listS s).length<=8:=by
 unfold listS
 rw [List.length_map]
 have:=List.length_filter_le s (List.range 8)
 simpa using this
theorem View.frz_base {Z:View Tk} (h:Z.tok=⟨0,.out⟩):Z.frz=Z.base:=by unfold View.frz View.base;rw [h]
end Go.TM
namespace Go.Proofs
open Go.TM
set_option maxRecDepth 100000
attribute [local irreducible] CallsV YieldV rngX
theorem Tryz.Kin_ok {Z:View Tk} (htok:Z.tok=⟨0,.out⟩) (h:TH) (t:Tbl) (ht:TabV Z.frz h t) (one two:Int) (a a':Option Addr) (len cap len' cap':Nat) (l l':List Int) (hl:Ints Z a len l) (hl':Ints Z a' len' l') (hlen:len<2 ^ 60) (hlen':len'<2 ^ 60)
  (hN:t.kinF one two l l'=0->(listS (t.kinA one two l).s).length<=8/\(listS (t.kinA one two l).c).length<=8) :
  CallsV (SysG Tryz.prog 164 8) 41 #[h.v,.int .i64 one,.slice a len cap,.int .i64 two,.slice a' len' cap'] (λ v Z'=>v=.tuple #[.agg #[.int .i64 (t.kinS one two l l').1,.int .i64 (t.kinS one two l l').2],.int .i64 (t.kinF one two l l')]/\Z'=Z) Z:=by
 refine CallsV.pure' (CallsV.of (args:=[_,_,_,_,_]) Tryz.k41 Tryz.mixed (by simp) ?_)
 have htZ:=ht.lg frz_self
 repeat refine⟨rfl,?_⟩
 conv=>whnf
 intro b5 Z1 h_1 hb_5
 have hb_5:Blk Z1 b5 #[.slice h.ea h.el h.ec,.slice h.ma h.ml h.mc,.slice h.ka h.kl h.kc]:=hb_5
 conv=>whnf
 intro b10 hf10
 refine⟨_,.refl _,?_⟩
 have hlg:Z.lg (Z1.put b10 (.cells #[.int .i64 0,.int .i64 0] 49)):=h_1.lg.trans (lg_put b10 _)
 have hM:(Z1.put b10 (.cells #[.int .i64 0,.int .i64 0] 49)).M=.obj b10 (.cells #[.int .i64 0,.int .i64 0] 49 (0,0))::Z.M:=by show _::Z1.M=_;rw [h_1.own]
 have hb5':Blk (Z1.put b10 (.cells #[.int .i64 0,.int .i64 0] 49)) b5 #[.slice h.ea h.el h.ec,.slice h.ma h.ml h.mc,.slice h.ka h.kl h.kc]:=hb_5
 generalize Z1.put b10 (.cells #[.int .i64 0,.int .i64 0] 49)=Z2 at hlg hM hb5' ⊢
 clear hb_5 hf10 h_1
 refine⟨_,⟨rfl,hb5'.rdT λ _ _ h=>h⟩,?_⟩
 refine⟨Tryz.k31.any,(Tryz.checkListG_ok h t (htZ.lg hlg) one a len cap l (hl.lg hlg) hlen).go λ _=>?_⟩
 repeat refine⟨rfl,?_⟩
 conv=>whnf
 apply cb_split<;>intro hc
 ·have hf:t.openF one [l]≠0:=by simpa using hc
  have hF:t.kinF one two l l'=t.openF one [l]:=by unfold Tbl.kinF;rw [if_neg hf]
  have hS:t.kinS one two l l'=(0,0):=by unfold Tbl.kinS;rw [hF,if_neg hf]
  rw [hS,hF]
  refine⟨rfl,st_all (vs:=[.int .i64 0,.int .i64 0]) [] hM rfl (by simp [Value.single]) ?_⟩
  refine⟨[.int .i64 0,.int .i64 0],⟨rfl,reads_at [] rfl⟩,?_⟩
  conv=>whnf
  exact⟨rfl,hlg.imm,⟨[_],rfl⟩,hlg.tok⟩
 have hf1:t.openF one [l]=0:=by simpa using hc
 refine⟨_,⟨rfl,hb5'.rdT λ _ _ h=>h⟩,?_⟩
 refine⟨Tryz.k31.any,(Tryz.checkListG_ok h t (htZ.lg hlg) two a' len' cap' l' (hl'.lg hlg) hlen').go λ _=>?_⟩
 have hF:t.kinF one two l l'=t.openF two [l']:=by unfold Tbl.kinF;rw [if_pos hf1]
 repeat refine⟨rfl,?_⟩
 conv=>whnf
 apply cb_split<;>intro hc
 ·have hf:t.openF two [l']≠0:=by simpa using hc
  have hS:t.kinS one two l l'=(0,0):=by unfold Tbl.kinS;rw [hF,if_neg hf]
  rw [hS,hF]
  refine⟨rfl,st_all (vs:=[.int .i64 0,.int .i64 0]) [] hM rfl (by simp [Value.single]) ?_⟩
  refine⟨[.int .i64 0,.int .i64 0],⟨rfl,reads_at [] rfl⟩,?_⟩
  conv=>whnf
  exact⟨rfl,hlg.imm,⟨[_],rfl⟩,hlg.tok⟩
 have hf2:t.openF two [l']=0:=by simpa using hc
 rw [hf2] at hF
 obtain⟨hfl,hed1,hc1⟩:=Tbl.open_one hf1
 obtain⟨-,hed2,hc2⟩:=Tbl.open_one hf2
 have h1b:=Tbl.isEd_100 hfl hed1
 have h2b:=Tbl.isEd_100 hfl hed2
 have hmv:=Tbl.mv8 hfl
 have hmax:0<=max one two/\max one two<100:=by omega
 obtain⟨hN1,hN2⟩:=hN hF
 refine⟨_,⟨rfl,hb5'.rdT λ _ _ h=>h⟩,?_⟩
 conv=>whnf
 refine raw_max rfl rfl ?_
 conv=>whnf
 intro b14 hf14
 refine⟨_,.refl _,?_⟩
 refine⟨rfl,st_new (vs:=[.slice h.ea h.el h.ec,.slice h.ma h.ml h.mc,.slice h.ka h.kl h.kc]) hf14 rfl (by simp [Value.single]) λ Z3 h_3 hb_14=>?_⟩
 have hb_14:Blk Z3 b14 #[.slice h.ea h.el h.ec,.slice h.ma h.ml h.mc,.slice h.ka h.kl h.kc]:=hb_14
 have hlg3:=hlg.trans h_3.lg
 have hM3:=h_3.own.trans hM
 have hf_3:Z.frz.lg Z3.frz:=hlg3.frz2
 refine⟨_,⟨rfl,hb_14.rdT λ _ _ h=>h⟩,?_⟩
 refine⟨Tryz.k79.any,(Tryz.move_ok h t (ht.lg hf_3) hmv one (max one two) h1b hmax a len cap l (hl.lg hlg3) hlen λ n hn=>Tbl.item_lt hfl (chk_items hc1 n hn)).go λ _=>?_⟩
 conv=>whnf
 intro b16 hf16
 refine⟨_,.refl _,?_⟩
 conv=>whnf
 intro b17 hf17
 refine⟨_,.refl _,?_⟩
 have hM5:((Z3.put b16 (.cells noC 105)).put b17 (.cells noC 105)).M=.obj b17 (.cells noC 105 (0,0))::.obj b16 (.cells noC 105 (0,0))::.obj b10 (.cells #[.int .i64 0,.int .i64 0] 49 (0,0))::Z.M:=by show _::_::Z3.M=_;rw [hM3]
 refine⟨rfl,st_all (vs:=setC (t.kinA one two l).s) [_] hM5 rfl (setC_single _) ?_⟩
 refine⟨rfl,st_allG (vs:=setC (t.kinA one two l).c) [] rfl rfl (setC_single _) λ Z4 hI4 ht4 hM4=>?_⟩
 have hM4:Z4.M=.obj b17 (.cells (setC (t.kinA one two l).c).toArray 105 (0,0))::.obj b16 (.cells (setC (t.kinA one two l).s).toArray 105 (0,0))::.obj b10 (.cells #[.int .i64 0,.int .i64 0] 49 (0,0))::Z.M:=hM4
 have hI4:∀x o,Z3.I x=some o->Z4.I x=some o:=hI4
 have ht4:Z4.tok=Z3.tok:=ht4
 have hlg4:Z.lg Z4:=⟨λ x o h=>hI4 x o (hlg3.imm x o h),⟨[_,_,_],hM4⟩,ht4.trans hlg3.tok⟩
 have hb₁₄4:=hb_14.imI hI4
 refine⟨_,⟨rfl,hb₁₄4.rdT λ _ _ h=>h⟩,?_⟩
 refine⟨Tryz.k79.any,(Tryz.move_ok h t (ht.lg hlg4.frz2) hmv two (max one two) h2b hmax a' len' cap' l' (hl'.lg hlg4) hlen' λ n hn=>Tbl.item_lt hfl (chk_items hc2 n hn)).go λ _=>?_⟩
 conv=>whnf
 intro b18 hf18
 refine⟨_,.refl _,?_⟩
 conv=>whnf
 intro b19 hf19
 refine⟨_,.refl _,?_⟩
 have hM6:((Z4.put b18 (.cells noC 105)).put b19 (.cells noC 105)).M=.obj b19 (.cells noC 105 (0,0))::.obj b18 (.cells noC 105 (0,0))::Z4.M:=rfl
 refine⟨rfl,st_all (vs:=setC (t.kinB one two l').s) [_] hM6 rfl (setC_single _) ?_⟩
 refine⟨rfl,st_allG (vs:=setC (t.kinB one two l').c) [] rfl rfl (setC_single _) λ Z5 hI5 ht5 hM_5=>?_⟩
 have hM_5:Z5.M=.obj b19 (.cells (setC (t.kinB one two l').c).toArray 105 (0,0))::.obj b18 (.cells (setC (t.kinB one two l').s).toArray 105 (0,0))::.obj b17 (.cells (setC (t.kinA one two l).c).toArray 105 (0,0))::.obj b16 (.cells (setC (t.kinA one two l).s).toArray 105 (0,0))::.obj b10 (.cells #[.int .i64 0,.int .i64 0] 49 (0,0))::Z.M:=by rw [hM_5];show _::_::Z4.M=_;rw [hM4]
 have hI5:∀x o,Z4.I x=some o->Z5.I x=some o:=hI5
 have ht5:Z5.tok=Z4.tok:=ht5
 have hlg5:Z.lg Z5:=⟨λ x o h=>hI5 x o (hlg4.imm x o h),⟨[_,_,_,_,_],hM_5⟩,ht5.trans hlg4.tok⟩
 have hb₁₄5:=hb₁₄4.imI hI5
 have hto5:Z5.tok=⟨0,.out⟩:=hlg5.tok.trans htok
 have htab:∀Z':View Tk,Z5.le Z'->TabV Z'.base h t:=λ Z' hle=>by
  have h1:Z'.tok=⟨0,.out⟩:=hle.tok.trans hto5
  rw [<- View.frz_base h1]
  exact ht.lg (hlg5.trans hle.lg).frz2
 have hbase:∀(Z':View Tk),Z5.le Z'->Z'.frz=Z'.base:=λ Z' hle=>View.frz_base (hle.tok.trans hto5)
 clear hM4 hM6 hf18 hf19 hM5 hf16 hf17
 refine⟨_,⟨rfl,hb₁₄5.rdT λ _ _ h=>h⟩,?_⟩
 refine⟨setC (t.kinA one two l).s,⟨rfl,reads_at [_,_,_] hM_5⟩,?_⟩
 refine⟨setC (t.kinB one two l').s,⟨rfl,reads_at [_] hM_5⟩,?_⟩
 refine⟨_,⟨rfl,hb₁₄5.rdT λ _ _ h=>h⟩,?_⟩
 refine⟨setC (t.kinA one two l).c,⟨rfl,reads_at [_,_] hM_5⟩,?_⟩
 refine⟨setC (t.kinB one two l').c,⟨rfl,reads_at [] hM_5⟩,?_⟩
 conv=>whnf
 have listF:∀(s:Nat->Bool) (Z':View Tk),Z5.le Z'->CallsV (SysG Tryz.prog 164 8) 80 #[setA s] (λ v Z2=>∃Z1,Shift Z2 Z1/\IntsV Z1.frz v (listS s)/\Z'.le Z1) Z':=λ s Z' _=>(Tryz.list_ok (Z:=Z') s).mono λ v Z2 ⟨h1,h2⟩=>⟨Z2,.refl _,h1,h2⟩
 have monoF:∀(L:List Int) (v:Value),Mono (T:=Tk) (λ Z'=>IntsV Z'.frz v L):=λ L v Z1 Z2 h hle=>h.lg (⟨hle.imm,⟨[],rfl⟩,hle.tok⟩:Z1.frz.lg Z2.frz)
 refine⟨λ v Z'=>IntsV Z'.frz v (listS (t.kinA one two l).s),monoF _,λ Z' hle _=>?_,λ v60 _=>?_⟩
 ·refine⟨Tryz.k80.any,(listF _ Z' hle).mono ?_⟩
  rintro v Z'' ⟨Z1,a1,a2,a3⟩ -
  exact⟨Z1,a1,a2,a3⟩
 refine⟨λ v Z'=>IntsV Z'.frz v (listS (t.kinB one two l').s),monoF _,λ Z' hle _=>?_,λ v62 _=>?_⟩
 ·refine⟨Tryz.k80.any,(listF _ Z' hle).mono ?_⟩
  rintro v Z'' ⟨Z1,a1,a2,a3⟩ -
  exact⟨Z1,a1,a2,a3⟩
 refine⟨.int .i64 (t.near (max one two) (listS (t.kinA one two l).s) (listS (t.kinB one two l').s)),λ Z' hle hC=>?_,?_⟩
 ·obtain⟨⟨-,h1⟩,h2⟩:=hC
  have hb:=hbase Z' hle
  rw [hb] at h1 h2
  obtain⟨xa,xc,rfl,hxi⟩:=h1
  obtain⟨ya,yc,rfl,hyi⟩:=h2
  have hl8:=listS_len (t.kinB one two l').s
  refine⟨Tryz.k88.any,(Tryz.nearest_ok (hle.tok.trans hto5) h t (htab Z' hle) (max one two) xa ya _ xc _ yc _ _ hxi hyi hN1 (by omega)).mono ?_⟩
  rintro _ Z'' ⟨rfl,hZ⟩ -
  exact⟨rfl,_,.refl _,hZ ▸ .refl _⟩
 refine⟨λ v Z'=>IntsV Z'.frz v (listS (t.kinA one two l).c),monoF _,λ Z' hle _=>?_,λ v67 _=>?_⟩
 ·refine⟨Tryz.k80.any,(listF _ Z' hle).mono ?_⟩
  rintro v Z'' ⟨Z1,a1,a2,a3⟩ -
  exact⟨Z1,a1,a2,a3⟩
 refine⟨λ v Z'=>IntsV Z'.frz v (listS (t.kinB one two l').c),monoF _,λ Z' hle _=>?_,λ v69 _=>?_⟩
 ·refine⟨Tryz.k80.any,(listF _ Z' hle).mono ?_⟩
  rintro v Z'' ⟨Z1,a1,a2,a3⟩ -
  exact⟨Z1,a1,a2,a3⟩
 conv=>whnf
 intro Z6 hle_6 hC
 obtain⟨⟨-,h1⟩,h2⟩:=hC
 have hb:=hbase Z6 hle_6
 rw [hb] at h1 h2
 obtain⟨xa,xc,rfl,hxi⟩:=h1
 obtain⟨ya,yc,rfl,hyi⟩:=h2
 have hl8:=listS_len (t.kinB one two l').c
 refine⟨Tryz.k88.any,(Tryz.nearest_ok (hle_6.tok.trans hto5) h t (htab Z6 hle_6) (max one two) xa ya _ xc _ yc _ _ hxi hyi hN2 (by omega)).go λ _=>?_⟩
 refine⟨rfl,st_all (vs:=[.int .i64 _,.int .i64 _]) [_,_,_,_] (hle_6.own.trans hM_5) rfl (by simp [Value.single]) ?_⟩
 refine⟨_,⟨rfl,reads_at [_,_,_,_] rfl⟩,?_⟩
 refine⟨?_,λ x o h=>hle_6.imm x o (hlg5.imm x o h),⟨[_,_,_,_,_],rfl⟩,hle_6.tok.trans hlg5.tok⟩
 rw [hF]
 unfold Tbl.kinS
 rw [if_pos hF]
 rfl
end Go.Proofs
namespace Go.TM
variable {T:Type} {P:Program} {S:Sys P T} {Z:View T}
def exTbl:Tbl:=
 ⟨[[⟨⟨#[119,105,110,101]⟩,33⟩,⟨⟨#[98,101,101,114]⟩,32⟩,⟨⟨#[103,108,97,115,115]⟩,21⟩],[⟨⟨#[115,116,105,108,108]⟩,33⟩,⟨⟨#[102,105,122,122]⟩,33⟩,⟨⟨#[97,108,101]⟩,32⟩,⟨⟨#[119,97,114,101]⟩,21⟩]],
  [⟨0,0,0⟩,⟨0,0,1⟩,⟨0,1,1⟩,⟨0,1,2⟩,⟨0,2,3⟩],[⟨0,0,1,3⟩,⟨0,0,2,1⟩,⟨1,0,1,4⟩,⟨1,1,2,2⟩]⟩
def encItem (it:GItem):List Value:=[.string it.name,.int .i64 it.cls]
def encMv (m:GMv):List Value:=[.int .i64 m.ed,.int .i64 m.fr,.int .i64 m.to]
def encKn (k:GKn):List Value:=[.int .i64 k.ed,.int .i64 k.one,.int .i64 k.two,.int .i64 k.lev]
theorem rows_blk {α:Type} {enc:α->List Value} {n b:Nat} (hn:∀x,(enc x).length=n) (hpos:0<n) {l:List α} (h:Blk Z b (l.flatMap enc).toArray):RowsV Z (some ⟨b,0,none⟩) l.length n l λ x vs=>vs=enc x:=
 rows_src hn (.inr ⟨_,rfl,Blk.rdI h λ _ _ h=>h⟩) (by rintro _ ⟨⟩;rfl) hpos
theorem ints_blk {b:Nat} {l:List Int} (h:Blk Z b (l.map λ n=>Value.int .i64 n).toArray):Ints Z (some ⟨b,0,none⟩) l.length l:=
 ints_src (.inr ⟨_,rfl,Blk.rdI h λ _ _ h=>h⟩) (by rintro _ ⟨⟩;rfl)
end Go.TM
namespace Go.Proofs
open Go.TM
set_option maxRecDepth 100000
attribute [local irreducible] CallsV YieldV rngX
set_option maxHeartbeats 1000000 in
theorem Tryz.example_ok {T:Type} {S:TM.Sys Tryz.prog T} {Z:View T}:CallsV S 63 #[] (λ v Z'=>(∃h:TH,v=h.v/\TabV Z'.frz h exTbl)/\Z.le Z') Z:=by
 refine CallsV.sep (R:=λ v Z'=>(∃h:TH,v=h.v/\TabV Z'.frz h exTbl)/\Z.lg Z') (CallsV.of (args:=[]) Tryz.k63 Tryz.mixed (by simp) ?_) ?_
 rotate_left
 ·rintro v Z' _ ⟨⟨h,rfl,ht⟩,hl⟩
  obtain⟨Z'',h1,h2,h3⟩:=hl.shift
  exact⟨Z'',h1,⟨h,rfl,ht.lg ⟨λ b o hb=>by show Z''.I b=some o;rw [h3];exact hb,⟨[],rfl⟩,h2.tok.trans hl.tok.symm⟩⟩,h2⟩
 conv=>whnf
 intro b0 hf0
 refine⟨_,.refl _,?_⟩
 conv=>whnf
 intro b4 hf4
 refine put_new hf4 λ Z1 h_1 hb_4=>?_
 conv=>whnf
 intro b10 hf10
 refine put_new hf10 λ Z2 h_2 hb_10=>?_
 conv=>whnf
 intro b12 hf12
 refine put_new hf12 λ Z3 h_3 hb_12=>?_
 conv=>whnf
 intro b18 hf18
 refine put_new hf18 λ Z4 h_4 hb18=>?_
 conv=>whnf
 intro b23 hf23
 refine put_new hf23 λ Z5 h_5 hb_23=>?_
 have hlg:Z.lg Z5:=(lg_put b0 _).trans (h_1.trans (h_2.trans (h_3.trans (h_4.trans h_5)))).lg
 have hM:Z5.M=.obj b0 (.cells #[.slice none 0 0,.slice none 0 0,.slice none 0 0] 26 (0,0))::Z.M:=by rw [h_5.own,h_4.own,h_3.own,h_2.own,h_1.own];rfl
 have hb_4:=hb_4.le (h_2.trans (h_3.trans (h_4.trans h_5)))
 have hb_10:=hb_10.le (h_3.trans (h_4.trans h_5))
 have hb_12:=hb_12.le (h_4.trans h_5)
 have hb18:=hb18.le h_5
 refine⟨rfl,st_allG (vs:=[.slice (some ⟨b12,0,none⟩) 2 2,.slice (some ⟨b18,0,none⟩) 5 5,.slice (some ⟨b23,0,none⟩) 4 4]) [] hM rfl (by simp [Value.single]) λ Z6 hI_6 ht6 hM_6=>?_⟩
 refine⟨_,⟨rfl,reads_at [] hM_6⟩,?_⟩
 conv=>whnf
 have hl:Z5.frz.lg Z6.frz:=⟨hI_6,⟨[],rfl⟩,ht6⟩
 refine⟨⟨⟨some ⟨b12,0,none⟩,2,2,some ⟨b18,0,none⟩,5,5,some ⟨b23,0,none⟩,4,4⟩,rfl,TabV.lg (Z:=Z5.frz) ?_ hl⟩,λ x o h=>hI_6 x o (hlg.imm x o h),⟨[_],hM_6⟩,ht6.trans hlg.tok⟩
 have e1:RowsV Z5.frz (some ⟨b4,0,none⟩) 3 2 [⟨⟨#[119,105,110,101]⟩,33⟩,⟨⟨#[98,101,101,114]⟩,32⟩,⟨⟨#[103,108,97,115,115]⟩,21⟩] λ it vs=>vs=encItem it:=rows_blk (enc:=encItem) (n:=2) (λ _=>rfl) (by decide) hb_4
 have e2:RowsV Z5.frz (some ⟨b10,0,none⟩) 4 2 [⟨⟨#[115,116,105,108,108]⟩,33⟩,⟨⟨#[102,105,122,122]⟩,33⟩,⟨⟨#[97,108,101]⟩,32⟩,⟨⟨#[119,97,114,101]⟩,21⟩] λ it vs=>vs=encItem it:=rows_blk (enc:=encItem) (n:=2) (λ _=>rfl) (by decide) hb_10
 refine⟨⟨rfl,λ i x hx=>?_⟩,?_,?_,by decide,by decide,by decide,?_,?_⟩
 ·have h0:RowsV Z5.frz (some ⟨b12,0,none⟩) 2 1 [Value.slice (some ⟨b4,0,none⟩) 3 3,.slice (some ⟨b10,0,none⟩) 4 4] λ v vs=>vs=[v]:=rows_blk (enc:=λ v=>[v]) (λ _=>rfl) (by decide) hb_12
  match i,hx with
  | 0,hx=>
   obtain⟨ad,vs,h1,h2,rfl,h4,h5⟩:=h0.2 0 _ rfl
   cases hx
   exact⟨ad,_,h1,h2,⟨_,rfl,_,_,_,rfl,e1⟩,h4,h5⟩
  | 1,hx=>
   obtain⟨ad,vs,h1,h2,rfl,h4,h5⟩:=h0.2 1 _ rfl
   cases hx
   exact⟨ad,_,h1,h2,⟨_,rfl,_,_,_,rfl,e2⟩,h4,h5⟩
  | n+2,hx=>simp [exTbl] at hx
 ·exact rows_blk (enc:=encMv) (λ _=>rfl) (by decide) hb18
 ·exact rows_blk (enc:=encKn) (λ _=>rfl) (by decide) hb_23
 ·intro l hl;simp [exTbl] at hl;rcases hl with rfl | rfl <;> decide
 ·intro l hl it hit;simp [exTbl] at hl;rcases hl with rfl | rfl <;> (simp at hit;rcases hit with rfl | rfl | rfl | rfl <;> decide)
end Go.Proofs
namespace Go.TM
theorem ex2:exTbl.openF 0 [[0,1]]=0:=by kernel_rfl
theorem ex2a:[(0:Int),1].map (exTbl.clsAt 0)=[33,32]:=by kernel_rfl
theorem ex3:(exTbl.moveF 0 1 [0],exTbl.moveS 0 1 [0],exTbl.moveC 0 1 [0])=(0,[0],[0,1]):=by kernel_rfl
theorem ex4:(exTbl.moveF 1 0 [0,1],exTbl.moveS 1 0 [0,1],exTbl.moveC 1 0 [0,1])=(0,[0],[0,1]):=by kernel_rfl
theorem ex5:(exTbl.cutF 1 [0,1,3] [⟨[1],false⟩,⟨[1,3],true⟩],exTbl.cutL 1 [0,1,3] [⟨[1],false⟩,⟨[1,3],true⟩])=(0,[3]):=by kernel_rfl
theorem ex6:(exTbl.growF 0 [0] [0,2],exTbl.growN 0 [0] [0,2])=(0,2):=by kernel_rfl
theorem ex8:(exTbl.talkF 0 [0,1] [1,2] 3,exTbl.pairsL 0 [0,1] [1,2] 3)=(0,[(0,1),(1,1)]):=by kernel_rfl
def tkX:Talk:=⟨0,3,[0,1],[1,2]⟩
theorem exR:exTbl.reach tkX [] []=[(0,1),(1,1)]:=by kernel_rfl
theorem ex9a:exTbl.mostT tkX=1:=by kernel_rfl
theorem ex10:proofL [0,1] 1 [(0,1),(1,1)]=some [(0,1)]:=by kernel_rfl
theorem ex9:exTbl.agr tkX=([],[1]):=by kernel_rfl
end Go.TM
