/- A part of the proof: lemmas that the last text uses. No conditions of its own. -/
import Derived.Test.YtebpcmdnecenlaaGreatH41
import Derived.Test.YtebpcmdnecenlaaGreatH11
set_option linter.unusedSimpArgs false
set_option linter.unusedVariables false
namespace Go.TM
variable {T:Type} {Z:View T}
theorem Tbl.flaw_0 {t:Tbl} (h:t.flaw=0):t.chkItems=0/\t.chkMoves=0/\t.chkKins=0:=by
 unfold Tbl.flaw at h
 split at h
 ·split at h
  ·exact⟨‹_›,‹_›,h⟩
  ·exact absurd h ‹_›
 ·exact absurd h ‹_›
theorem chkEds_len:∀{ls:List (List GItem)} {e:Int} {s:List (Int×ByteArray)},chkEds e ls s=0->∀l∈ls,l.length<=8
 | [],_,_,_,_,h=>by cases h
 | l::r,e,s,h,x,hx=>by
  unfold chkEds at h
  split at h
  ·cases h
  ·split at h
   ·rcases List.mem_cons.1 hx with rfl | hx
    ·omega
    ·exact chkEds_len h x hx
   ·exact absurd h ‹_›
theorem Tbl.flaw_eds {t:Tbl} (h:t.flaw=0):1<=t.eds.length/\t.eds.length<=3/\∀l∈t.eds,l.length<=8:=by
 have:=(Tbl.flaw_0 h).1
 unfold Tbl.chkItems at this
 split at this
 ·rename_i hb
  unfold btw at hb
  simp only [Bool.and_eq_true,decide_eq_true_eq] at hb
  exact⟨by omega,by omega,chkEds_len this⟩
 ·cases this
theorem Tbl.item_lt {t:Tbl} (h:t.flaw=0) {e n:Int} (hn:t.isItem e n=true):0<=n/\n<8:=by
 unfold Tbl.isItem btw at hn
 simp only [Bool.and_eq_true,decide_eq_true_eq] at hn
 have:(t.items e).length<=8:=by
  unfold Tbl.items
  split
  ·rw [List.getD_eq_getElem?_getD]
   cases hx:t.eds[e.toNat]? with
   | none=>simp
   | some l=>exact (Tbl.flaw_eds h).2.2 l (List.mem_of_getElem? hx)
  ·simp
 omega
theorem chkMvs_ok {t:Tbl}:∀{ms:List GMv} {s:List (Int×Int×Int)},t.chkMvs ms s=0->∀m∈ms,t.mvOk m=true
 | [],_,_,_,h=>by cases h
 | m::r,s,h,x,hx=>by
  unfold Tbl.chkMvs at h
  split at h
  ·rename_i h0
   rcases List.mem_cons.1 hx with rfl | hx
   ·unfold Tbl.chkMv at h0
    split at h0
    ·assumption
    ·cases h0
   ·exact chkMvs_ok h x hx
  ·exact absurd h ‹_›
theorem Tbl.mv_ok {t:Tbl} (h:t.flaw=0):∀m∈t.mvs,t.mvOk m=true:=by
 have:=(Tbl.flaw_0 h).2.1
 unfold Tbl.chkMoves at this
 split at this
 ·cases this
 ·exact chkMvs_ok this
theorem Tbl.mv8 {t:Tbl} (h:t.flaw=0):∀m∈t.mvs,0<=m.fr/\m.fr<8/\0<=m.to/\m.to<8:=λ m hm=>by
 have:=Tbl.mv_ok h m hm
 unfold Tbl.mvOk at this
 simp only [Bool.and_eq_true] at this
 obtain⟨_,_,h1,h2⟩:=this
 have a:=Tbl.item_lt h h1
 have b:=Tbl.item_lt h h2
 exact⟨a.1,a.2,b.1,b.2⟩
def Tbl.mv8P (t:Tbl):Prop:=∀m∈t.mvs,0<=m.fr/\m.fr<8/\0<=m.to/\m.to<8
theorem Tbl.fwd8 {t:Tbl} (h:t.mv8P) (e:Int):∀p∈t.fwdP e,0<=p.1/\p.1<8/\0<=p.2/\p.2<8:=by
 intro p hp
 obtain⟨m,hm,rfl⟩:=List.mem_map.1 hp
 exact h m (List.mem_filter.1 hm).1
theorem Tbl.bck8 {t:Tbl} (h:t.mv8P) (e:Int):∀p∈t.bckP e,0<=p.1/\p.1<8/\0<=p.2/\p.2<8:=by
 intro p hp
 obtain⟨m,hm,rfl⟩:=List.mem_map.1 hp
 have:=h m (List.mem_filter.1 hm).1
 exact⟨this.2.2.1,this.2.2.2,this.1,this.2.1⟩
theorem chk_items {t:Tbl} {e:Int}:∀{l:List Int} {p:Option Int},t.chk e p l=0->∀n∈l,t.isItem e n=true
 | [],_,_,_,h=>by cases h
 | a::l,p,h,n,hn=>by
  rw [Tbl.chk_cons] at h
  split at h
  ·rename_i hi
   have:∀n∈l,t.isItem e n=true:=by
    cases p with
    | none=>exact chk_items h
    | some m=>
     simp only at h
     split at h
     ·cases h
     ·exact chk_items h
   rcases List.mem_cons.1 hn with rfl | hn
   ·exact hi
   ·exact this n hn
  ·cases h
structure SC where
 s:Nat->Bool
 c:Nat->Bool
def SC.by (p:SC) (ps:List (Int×Int)):SC:=⟨(cov p.s p.c ps).sure,(cov p.s p.c ps).re⟩
def Tbl.goF (t:Tbl):Nat->Int->SC->SC
 | 0,_,p=>p
 | n+1,e,p=>t.goF n (e+1) (p.by (t.fwdP e))
def Tbl.goB (t:Tbl):Nat->Int->SC->SC
 | 0,_,p=>p
 | n+1,e,p=>t.goB n (e + -1) (p.by (t.bckP e))
def Tbl.moved (t:Tbl) (fr to:Int) (l:List Int):SC:=if to<fr then t.goB (fr-to).toNat fr ⟨memS l,memS l⟩ else t.goF (to-fr).toNat fr ⟨memS l,memS l⟩
end Go.TM
namespace Go.Proofs
open Go.TM
set_option maxRecDepth 100000
variable {T:Type} {S:TM.Sys Tryz.prog T} {Z:View T}
attribute [local irreducible] CallsV YieldV rngX
theorem Tryz.move_ok (h:TH) (t:Tbl) (ht:TabV Z.frz h t) (h8:t.mv8P) (fr to:Int) (hfr:0<=fr/\fr<100) (hto:0<=to/\to<100) (a:Option Addr) (len cap:Nat) (l:List Int) (hl:Ints Z a len l) (hlen:len<2 ^ 60) (hl8:∀n∈l,0<=n/\n<8) :
  CallsV S 79 #[h.v,.int .i64 fr,.int .i64 to,.slice a len cap] (λ v Z'=>v=.tuple #[setA (t.moved fr to l).s,setA (t.moved fr to l).c]/\Z'=Z) Z:=by
 refine CallsV.pure' (CallsV.of (args:=[_,_,_,_]) Tryz.k79 Tryz.mixed (by simp) ?_)
 repeat refine⟨rfl,?_⟩
 conv=>whnf
 intro b4 Z1 h_1 hb_4
 conv=>whnf
 intro b8 hf8
 refine⟨_,.refl _,?_⟩
 conv=>whnf
 intro b9 hf9
 refine⟨_,.refl _,?_⟩
 have hlg:Z.lg ((Z1.put b8 (.cells noC 105)).put b9 (.cells noC 105)):=h_1.lg.trans ((lg_put b8 _).trans (lg_put b9 _))
 refine⟨Tryz.k115.any,(Tryz.setOf_ok a len cap l (hl.lg hlg) hlen hl8).mono ?_⟩
 rintro v Z' ⟨rfl,rfl⟩ -
 refine⟨Tryz.k115.any,(Tryz.setOf_ok a len cap l (hl.lg hlg) hlen hl8).mono ?_⟩
 rintro v Z' ⟨rfl,rfl⟩ -
 refine⟨rfl,st_all [_] rfl rfl (setC_single _) ?_⟩
 refine⟨rfl,st_all [] rfl rfl (setC_single _) ?_⟩
 refine⟨[.slice h.ea h.el h.ec,.slice h.ma h.ml h.mc,.slice h.ka h.kl h.kc],⟨rfl,hb_4.rdT λ _ _ h=>h⟩,?_⟩
 repeat refine⟨rfl,?_⟩
 conv=>whnf
 apply cb_split<;>intro hc
 ·have hlt:to<fr:=by simpa using hc
  refine⟨[.slice h.ea h.el h.ec,.slice h.ma h.ml h.mc,.slice h.ka h.kl h.kc],⟨rfl,hb_4.rdT λ _ _ h=>h⟩,?_⟩
  refine⟨Nat×Int×SC,λ y=>[(2,.int .i64 to),(8,.pointer (some ⟨b8,0,none⟩)),(9,.pointer (some ⟨b9,0,none⟩)),(10,.func (.func 117) #[h.v] #[]),(11,.int .i64 (-1)),(12,.int .i64 y.2.1)],
   λ y Z'=>Z1.frz.lg Z'/\Z'.M=.obj b9 (.cells (setC y.2.2.c).toArray 105 (0,0))::.obj b8 (.cells (setC y.2.2.s).toArray 105 (0,0))::Z1.M/\y.2.1=to+y.1/\t.goB y.1 y.2.1 y.2.2=t.moved fr to l/\0<=y.2.1/\y.2.1<100,
   λ y=>y.1,((fr-to).toNat,fr,⟨memS l,memS l⟩),⟨rfl,rfl,rfl,rfl,rfl,rfl,trivial⟩,⟨⟨λ _ _ h=>h,⟨_,(List.append_nil _).symm⟩,rfl⟩,rfl,by simp only;omega,by rw [show t.moved fr to l=_ from if_pos hlt],by simp only;omega,by simp only;omega⟩,?_⟩
  rintro⟨n,e,p⟩ f Z2 ⟨hl_2,hM,hn,hgo,he0,he1⟩
  simp only at hM hn hgo he0 he1
  repeat refine⟨rfl,?_⟩
  conv=>whnf
  apply cb_split<;>intro hc
  ·have hne:e≠to:=by simpa using hc
   obtain⟨n,rfl⟩:∃m,n=m+1:=⟨n-1,by omega⟩
   have hin:InR (e+(-1)):=by unfold InR;omega
   refine⟨λ Z'=>Z1.frz.lg Z'/\Z'.M=.obj b9 (.cells (setC p.c).toArray 105 (0,0))::.obj b8 (.cells (setC (cov p.s p.c (t.bckP e)).sure).toArray 105 (0,0))::Z1.M,λ Z Z' ⟨a,b⟩ hle=>⟨frz_le a hle,hle.own.trans b⟩,?_⟩
   refine⟨_,⟨rfl,reads_at [_] hM⟩,?_⟩
   refine⟨_,⟨rfl,reads_at [] hM⟩,?_⟩
   refine⟨λ v Z'=>∃bx be,v=.func (.func 151) #[] #[.pointer (some ⟨bx,0,none⟩),.pointer (some ⟨be,0,none⟩)]/\Blk Z' bx #[.slice h.ea h.el h.ec,.slice h.ma h.ml h.mc,.slice h.ka h.kl h.kc]/\Blk Z' be #[.int .i64 e],λ v Z Z' ⟨bx,be,e,h1,h2⟩ hle=>⟨bx,be,e,h1.le hle,h2.le hle⟩,λ Z' hle _=>?_,λ v34 _=>?_⟩
   ·refine⟨Tryz.k117.any,(Tryz.bckf_ok h e).mono ?_⟩
    rintro v Z'' ⟨bx,be,rfl,h1,h2,hle2⟩ -
    exact⟨Z'',.refl _,⟨bx,be,rfl,h1,h2⟩,hle2⟩
   refine⟨.tuple #[setA (cov p.s p.c (t.bckP e)).sure,setA (cov p.s p.c (t.bckP e)).re],λ Z' hle hC=>?_,?_⟩
   ·obtain⟨_,bx,be,rfl,hx,hy⟩:=hC
    have hlf:Z.frz.lg Z':=⟨λ b o hh=>(frz_le hl_2 hle).imm b o (h_1.imm b o hh),⟨_,(List.append_nil _).symm⟩,(frz_le hl_2 hle).tok.trans h_1.tok⟩
    refine⟨Tryz.k118.any,(Tryz.cover_ok 151 bx be (t.bckP e) p.s p.c Tryz.k151.any (λ l Z3 hl3=>Tryz.bck_it h t (ht.lg ⟨λ b o hh=>hl3.imm b o (hlf.imm b o hh),⟨[],rfl⟩,hl3.tok.trans hlf.tok⟩) e (by omega) bx be l (hx.imI hl3.imm) (hy.imI hl3.imm)) (Tbl.bck8 h8 e)).mono ?_⟩
    rintro v Z'' ⟨rfl,hZ⟩ -
    exact⟨rfl,_,.refl _,hZ ▸ .refl _⟩
   conv=>whnf
   intro Z' hle _
   refine⟨⟨rfl,st_all [_] (hle.own.trans hM) rfl (setC_single _) ⟨rfl,_,.refl _,⟨⟨λ b o h=>hle.imm b o (hl_2.imm b o h),⟨_,(List.append_nil _).symm⟩,hle.tok.trans hl_2.tok⟩,rfl⟩⟩⟩,λ Z'' hG=>?_⟩
   obtain⟨hl3,hM3⟩:=hG
   refine⟨rfl,st_all [] hM3 rfl (setC_single _) ?_⟩
   refine⟨hin,?_⟩
   conv=>whnf
   exact⟨rfl,(n,e+(-1),p.by (t.bckP e)),⟨rfl,rfl,rfl,rfl,rfl,rfl,trivial⟩,⟨⟨hl3.imm,⟨_,(List.append_nil _).symm⟩,hl3.tok⟩,rfl,by simp only;omega,hgo,by simp only;omega,by simp only;omega⟩,by show n<n+1;omega⟩
  ·have heq:e=to:=by simpa using hc
   obtain rfl:n=0:=by omega
   have hgo:p=t.moved fr to l:=hgo
   refine⟨λ Z'=>Z1.frz.lg Z'/\Z'.M=.obj b9 (.cells (setC p.c).toArray 105 (0,0))::.obj b8 (.cells (setC p.s).toArray 105 (0,0))::Z1.M,λ Z Z' ⟨a,b⟩ hle=>⟨frz_le a hle,hle.own.trans b⟩,?_⟩
   refine⟨_,⟨rfl,reads_at [_] hM⟩,?_⟩
   refine⟨setA p.c,λ Z' hle _=>⟨setC p.c,⟨rfl,reads_at [] (hle.own.trans hM)⟩,rfl,_,.refl _,.refl _⟩,λ Z' hG=>⟨setC p.c,⟨rfl,reads_at [] hG.2⟩,rfl,_,.refl _,.refl _⟩,?_⟩
   conv=>whnf
   intro Z' hle _
   refine⟨⟨rfl,st_all [_] (hle.own.trans hM) rfl (setC_single _) ⟨rfl,_,.refl _,⟨⟨λ b o h=>hle.imm b o (hl_2.imm b o h),⟨_,(List.append_nil _).symm⟩,hle.tok.trans hl_2.tok⟩,rfl⟩⟩⟩,λ Z'' hG=>?_⟩
   obtain⟨hl3,hM3⟩:=hG
   refine⟨rfl,st_all [] hM3 rfl (setC_single _) ?_⟩
   refine⟨_,⟨rfl,reads_at [_] rfl⟩,?_⟩
   refine⟨_,⟨rfl,reads_at [] rfl⟩,?_⟩
   conv=>whnf
   rw [<- hgo]
   exact⟨rfl,λ b o h=>hl3.imm b o (h_1.imm b o h),⟨[_,_],by rw [<- h_1.own];rfl⟩,hl3.tok.trans h_1.tok⟩
 ·have hge:¬to<fr:=by simpa using hc
  refine⟨Nat×Int×SC,λ y=>[(2,.int .i64 to),(8,.pointer (some ⟨b8,0,none⟩)),(9,.pointer (some ⟨b9,0,none⟩)),(10,.func (.func 116) #[h.v] #[]),(11,.int .i64 1),(12,.int .i64 y.2.1)],
   λ y Z'=>Z1.frz.lg Z'/\Z'.M=.obj b9 (.cells (setC y.2.2.c).toArray 105 (0,0))::.obj b8 (.cells (setC y.2.2.s).toArray 105 (0,0))::Z1.M/\y.2.1+y.1=to/\t.goF y.1 y.2.1 y.2.2=t.moved fr to l/\0<=y.2.1/\y.2.1<100,
   λ y=>y.1,((to-fr).toNat,fr,⟨memS l,memS l⟩),⟨rfl,rfl,rfl,rfl,rfl,rfl,trivial⟩,⟨⟨λ _ _ h=>h,⟨_,(List.append_nil _).symm⟩,rfl⟩,rfl,by simp only;omega,by rw [show t.moved fr to l=_ from if_neg hge],by simp only;omega,by simp only;omega⟩,?_⟩
  rintro⟨n,e,p⟩ f Z2 ⟨hl_2,hM,hn,hgo,he0,he1⟩
  simp only at hM hn hgo he0 he1
  repeat refine⟨rfl,?_⟩
  conv=>whnf
  apply cb_split<;>intro hc
  ·have hne:e≠to:=by simpa using hc
   obtain⟨n,rfl⟩:∃m,n=m+1:=⟨n-1,by omega⟩
   have hin:InR (e+1):=by unfold InR;omega
   refine⟨λ Z'=>Z1.frz.lg Z'/\Z'.M=.obj b9 (.cells (setC p.c).toArray 105 (0,0))::.obj b8 (.cells (setC (cov p.s p.c (t.fwdP e)).sure).toArray 105 (0,0))::Z1.M,λ Z Z' ⟨a,b⟩ hle=>⟨frz_le a hle,hle.own.trans b⟩,?_⟩
   refine⟨_,⟨rfl,reads_at [_] hM⟩,?_⟩
   refine⟨_,⟨rfl,reads_at [] hM⟩,?_⟩
   refine⟨λ v Z'=>∃bx be,v=.func (.func 150) #[] #[.pointer (some ⟨bx,0,none⟩),.pointer (some ⟨be,0,none⟩)]/\Blk Z' bx #[.slice h.ea h.el h.ec,.slice h.ma h.ml h.mc,.slice h.ka h.kl h.kc]/\Blk Z' be #[.int .i64 e],λ v Z Z' ⟨bx,be,e,h1,h2⟩ hle=>⟨bx,be,e,h1.le hle,h2.le hle⟩,λ Z' hle _=>?_,λ v34 _=>?_⟩
   ·refine⟨Tryz.k116.any,(Tryz.fwdf_ok h e).mono ?_⟩
    rintro v Z'' ⟨bx,be,rfl,h1,h2,hle2⟩ -
    exact⟨Z'',.refl _,⟨bx,be,rfl,h1,h2⟩,hle2⟩
   refine⟨.tuple #[setA (cov p.s p.c (t.fwdP e)).sure,setA (cov p.s p.c (t.fwdP e)).re],λ Z' hle hC=>?_,?_⟩
   ·obtain⟨_,bx,be,rfl,hx,hy⟩:=hC
    have hlf:Z.frz.lg Z':=⟨λ b o hh=>(frz_le hl_2 hle).imm b o (h_1.imm b o hh),⟨_,(List.append_nil _).symm⟩,(frz_le hl_2 hle).tok.trans h_1.tok⟩
    refine⟨Tryz.k118.any,(Tryz.cover_ok 150 bx be (t.fwdP e) p.s p.c Tryz.k150.any (λ l Z3 hl3=>Tryz.fwd_it h t (ht.lg ⟨λ b o hh=>hl3.imm b o (hlf.imm b o hh),⟨[],rfl⟩,hl3.tok.trans hlf.tok⟩) e (by omega) bx be l (hx.imI hl3.imm) (hy.imI hl3.imm)) (Tbl.fwd8 h8 e)).mono ?_⟩
    rintro v Z'' ⟨rfl,hZ⟩ -
    exact⟨rfl,_,.refl _,hZ ▸ .refl _⟩
   conv=>whnf
   intro Z' hle _
   refine⟨⟨rfl,st_all [_] (hle.own.trans hM) rfl (setC_single _) ⟨rfl,_,.refl _,⟨⟨λ b o h=>hle.imm b o (hl_2.imm b o h),⟨_,(List.append_nil _).symm⟩,hle.tok.trans hl_2.tok⟩,rfl⟩⟩⟩,λ Z'' hG=>?_⟩
   obtain⟨hl3,hM3⟩:=hG
   refine⟨rfl,st_all [] hM3 rfl (setC_single _) ?_⟩
   refine⟨hin,?_⟩
   conv=>whnf
   exact⟨rfl,(n,e+1,p.by (t.fwdP e)),⟨rfl,rfl,rfl,rfl,rfl,rfl,trivial⟩,⟨⟨hl3.imm,⟨_,(List.append_nil _).symm⟩,hl3.tok⟩,rfl,by simp only;omega,hgo,by simp only;omega,by simp only;omega⟩,by show n<n+1;omega⟩
  ·have heq:e=to:=by simpa using hc
   obtain rfl:n=0:=by omega
   have hgo:p=t.moved fr to l:=hgo
   refine⟨λ Z'=>Z1.frz.lg Z'/\Z'.M=.obj b9 (.cells (setC p.c).toArray 105 (0,0))::.obj b8 (.cells (setC p.s).toArray 105 (0,0))::Z1.M,λ Z Z' ⟨a,b⟩ hle=>⟨frz_le a hle,hle.own.trans b⟩,?_⟩
   refine⟨_,⟨rfl,reads_at [_] hM⟩,?_⟩
   refine⟨setA p.c,λ Z' hle _=>⟨setC p.c,⟨rfl,reads_at [] (hle.own.trans hM)⟩,rfl,_,.refl _,.refl _⟩,λ Z' hG=>⟨setC p.c,⟨rfl,reads_at [] hG.2⟩,rfl,_,.refl _,.refl _⟩,?_⟩
   conv=>whnf
   intro Z' hle _
   refine⟨⟨rfl,st_all [_] (hle.own.trans hM) rfl (setC_single _) ⟨rfl,_,.refl _,⟨⟨λ b o h=>hle.imm b o (hl_2.imm b o h),⟨_,(List.append_nil _).symm⟩,hle.tok.trans hl_2.tok⟩,rfl⟩⟩⟩,λ Z'' hG=>?_⟩
   obtain⟨hl3,hM3⟩:=hG
   refine⟨rfl,st_all [] hM3 rfl (setC_single _) ?_⟩
   refine⟨_,⟨rfl,reads_at [_] rfl⟩,?_⟩
   refine⟨_,⟨rfl,reads_at [] rfl⟩,?_⟩
   conv=>whnf
   rw [<- hgo]
   exact⟨rfl,λ b o h=>hl3.imm b o (h_1.imm b o h),⟨[_,_],by rw [<- h_1.own];rfl⟩,hl3.tok.trans h_1.tok⟩
end Go.Proofs
namespace Go.TM
variable {T:Type} {Z:View T}
def Tbl.moveF (t:Tbl) (fr to:Int) (l:List Int):Int:=if t.flaw=0 then (if (t.isEd fr && t.isEd to)=true then t.chk fr none l else 6) else t.flaw
def Tbl.moveS (t:Tbl) (fr to:Int) (l:List Int):List Int:=if t.moveF fr to l=0 then listS (t.moved fr to l).s else []
def Tbl.moveC (t:Tbl) (fr to:Int) (l:List Int):List Int:=if t.moveF fr to l=0 then listS (t.moved fr to l).c else []
theorem listS_congr {s r:Nat->Bool} (h:∀j,j<8->s j=r j):listS s=listS r:=by
 unfold listS
 rw [List.filter_congr λ j hj=>h j (by simpa using hj)]
theorem ints_nil {l:List Int} (h:l=[]):IntsV Z (.slice none 0 0) l:=by
 subst h
 exact⟨none,0,rfl,rfl,λ i x hx=>by simp at hx⟩
theorem Tbl.isEd_100 {t:Tbl} (h:t.flaw=0) {e:Int} (he:t.isEd e=true):0<=e/\e<100:=by
 have:=Tbl.isEd_lt he
 have:=(Tbl.flaw_eds h).2.1
 omega
end Go.TM
namespace Go.Proofs
open Go.TM
set_option maxRecDepth 100000
variable {T:Type} {S:TM.Sys Tryz.prog T} {Z:View T}
attribute [local irreducible] CallsV YieldV rngX
theorem Tryz.Move_ok (h:TH) (t:Tbl) (ht:TabV Z.frz h t) (fr to:Int) (a:Option Addr) (len cap:Nat) (l:List Int) (hl:Ints Z a len l) (hlen:len<2 ^ 60) :
  CallsV S 34 #[h.v,.int .i64 fr,.int .i64 to,.slice a len cap] (λ v Z'=>(∃v1 v2,v=.tuple #[v1,v2,.int .i64 (t.moveF fr to l)]/\IntsV Z'.frz v1 (t.moveS fr to l)/\IntsV Z'.frz v2 (t.moveC fr to l))/\Z.le Z') Z:=by
 refine CallsV.grown (R:=λ v Z'=>∃v1 v2,v=.tuple #[v1,v2,.int .i64 (t.moveF fr to l)]/\IntsV Z' v1 (t.moveS fr to l)/\IntsV Z' v2 (t.moveC fr to l)) (λ v Z1 Z2 hl ⟨v1,v2,e,h1,h2⟩=>⟨v1,v2,e,h1.lg hl,h2.lg hl⟩) (CallsV.of (args:=[_,_,_,_]) Tryz.k34 Tryz.mixed (by simp) ?_)
 have htZ:=ht.lg frz_self
 repeat refine⟨rfl,?_⟩
 conv=>whnf
 intro b4 Z1 h_1 hb_4
 refine⟨_,⟨rfl,hb_4.rdT λ _ _ h=>h⟩,?_⟩
 refine⟨Tryz.k29.any,(Tryz.checkTable_ok h t (htZ.lg h_1.lg)).go λ _=>?_⟩
 repeat refine⟨rfl,?_⟩
 conv=>whnf
 apply cb_split<;>intro hc
 ·have hf:t.flaw≠0:=by simpa using hc
  have hF:t.moveF fr to l=t.flaw:=by unfold Tbl.moveF;rw [if_neg hf]
  refine⟨⟨_,_,by rw [hF];rfl,ints_nil ?_,ints_nil ?_⟩,h_1.lg⟩
  ·unfold Tbl.moveS;rw [hF,if_neg hf]
  ·unfold Tbl.moveC;rw [hF,if_neg hf]
 have hf:t.flaw=0:=by simpa using hc
 have hF:t.moveF fr to l=if (t.isEd fr && t.isEd to)=true then t.chk fr none l else 6:=by unfold Tbl.moveF;rw [if_pos hf]
 refine⟨_,⟨rfl,hb_4.rdT λ _ _ h=>h⟩,?_⟩
 conv=>whnf
 intro b12 hf12
 refine⟨_,.refl _,?_⟩
 refine⟨rfl,st_new (vs:=[.slice h.ea h.el h.ec,.slice h.ma h.ml h.mc,.slice h.ka h.kl h.kc]) hf12 rfl (by simp [Value.single]) λ Z2 h_2 hb_12=>?_⟩
 have hlg:Z.lg Z2:=(h_1.trans h_2).lg
 have htZ2:=htZ.lg hlg
 have hrd:Reads Z2 ⟨b12,0,none⟩ [.slice h.ea h.el h.ec,.slice h.ma h.ml h.mc,.slice h.ka h.kl h.kc]:=Blk.rdI hb_12 (λ _ _ h=>h)
 refine⟨_,⟨rfl,hrd⟩,?_⟩
 refine⟨Tryz.k77.any,(Tryz.isEdition_ok h t htZ2 fr).go λ _=>?_⟩
 repeat refine⟨rfl,?_⟩
 conv=>whnf
 apply gb_split<;>intro hc
 rotate_left
 ·have he:t.isEd fr=false:=by simpa using hc
  have hF6:t.moveF fr to l=6:=by rw [hF,he];rfl
  repeat refine⟨rfl,?_⟩
  conv=>whnf
  refine⟨⟨_,_,by rw [hF6];rfl,ints_nil ?_,ints_nil ?_⟩,hlg⟩
  ·unfold Tbl.moveS;rw [hF6];rfl
  ·unfold Tbl.moveC;rw [hF6];rfl
 have he:t.isEd fr=true:=by simpa using hc
 refine⟨_,⟨rfl,hrd⟩,?_⟩
 refine⟨Tryz.k77.any,(Tryz.isEdition_ok h t htZ2 to).go λ _=>?_⟩
 repeat refine⟨rfl,?_⟩
 conv=>whnf
 apply cb_split<;>intro hc
 ·have he':t.isEd to=false:=by simpa using hc
  have hF6:t.moveF fr to l=6:=by rw [hF,he,he'];rfl
  refine⟨⟨_,_,by rw [hF6];rfl,ints_nil ?_,ints_nil ?_⟩,hlg⟩
  ·unfold Tbl.moveS;rw [hF6];rfl
  ·unfold Tbl.moveC;rw [hF6];rfl
 have he':t.isEd to=true:=by simpa using hc
 rw [he,he'] at hF
 replace hF:t.moveF fr to l=t.chk fr none l:=hF
 refine⟨_,⟨rfl,hrd⟩,?_⟩
 refine⟨Tryz.k78.any,(Tryz.checkList_ok h t htZ2 fr a len cap l (hl.lg hlg) hlen).go λ _=>?_⟩
 repeat refine⟨rfl,?_⟩
 conv=>whnf
 apply cb_split<;>intro hc
 ·have hn:t.chk fr none l≠0:=by simpa using hc
  refine⟨⟨_,_,by rw [hF];rfl,ints_nil ?_,ints_nil ?_⟩,hlg⟩
  ·unfold Tbl.moveS;rw [hF,if_neg hn]
  ·unfold Tbl.moveC;rw [hF,if_neg hn]
 have hn:t.chk fr none l=0:=by simpa using hc
 rw [hn] at hF
 have hS:t.moveS fr to l=listS (t.moved fr to l).s:=by unfold Tbl.moveS;rw [hF];rfl
 have hC:t.moveC fr to l=listS (t.moved fr to l).c:=by unfold Tbl.moveC;rw [hF];rfl
 have hl8:∀n∈l,0<=n/\n<8:=λ n hm=>Tbl.item_lt hf (chk_items hn n hm)
 refine⟨_,⟨rfl,hrd⟩,?_⟩
 refine⟨Tryz.k79.any,(Tryz.move_ok h t (ht.lg ⟨hlg.imm,⟨[],rfl⟩,hlg.tok⟩) (Tbl.mv8 hf) fr to (Tbl.isEd_100 hf he) (Tbl.isEd_100 hf he') a len cap l (hl.lg hlg) hlen hl8).go λ _=>?_⟩
 conv=>whnf
 intro b14 hf14
 refine⟨_,.refl _,?_⟩
 conv=>whnf
 intro b15 hf15
 refine⟨_,.refl _,?_⟩
 generalize t.moved fr to l=p at *
 refine⟨rfl,st_all [_] rfl rfl (setC_single _) ?_⟩
 refine⟨rfl,st_all [] rfl rfl (setC_single _) ?_⟩
 refine⟨_,⟨rfl,reads_at [_] rfl⟩,?_⟩
 refine⟨_,⟨rfl,reads_at [] rfl⟩,?_⟩
 conv=>whnf
 refine raw_eqA8 Tryz.ar105 rfl rfl ?_
 conv=>whnf
 apply cb_split<;>intro hc
 ·have hee:eqvL (setC p.s) (setC p.c)=true:=hc
  have hsc:listS p.c=listS p.s:=listS_congr λ j hj=>((eqvL_setC.1 hee) j hj).symm
  refine⟨_,⟨rfl,reads_at [_] rfl⟩,?_⟩
  refine⟨_,⟨rfl,reads_at [_] rfl⟩,?_⟩
  refine⟨λ v Z'=>IntsV Z'.frz v (listS p.s),λ v Z Z' hi hle=>hi.lg hle.lg.frz2,λ Z' hle _=>?_,λ v52 _=>?_⟩
  ·refine⟨Tryz.k80.any,(Tryz.list_ok p.s).mono ?_⟩
   rintro v Z'' ⟨hi,hle2⟩ -
   exact⟨Z'',.refl _,hi,hle2⟩
  conv=>whnf
  intro Z' hle hC
  obtain⟨-,a52,c52,rfl,hi52⟩:=hC
  refine⟨Tryz.k80.any,(Tryz.list_ok p.s).mono ?_⟩
  rintro _ Z'' ⟨⟨a54,c54,rfl,hi54⟩,hle2⟩ -
  conv=>whnf
  exact⟨⟨_,_,by rw [hF];rfl,by rw [hS];exact⟨a52,c52,rfl,hi52.lg hle2.lg.frz2⟩,by rw [hC];rw [hsc];exact⟨a54,c54,rfl,hi54⟩⟩,⟨λ b o h=>(hle.trans hle2).imm b o (hlg.imm b o h),⟨[_,_],by rw [(hle.trans hle2).own,<- (h_1.trans h_2).own];rfl⟩,(hle.trans hle2).tok.trans hlg.tok⟩⟩
 ·refine⟨_,⟨rfl,reads_at [_] rfl⟩,?_⟩
  refine⟨_,⟨rfl,reads_at [] rfl⟩,?_⟩
  refine⟨λ v Z'=>IntsV Z'.frz v (listS p.s),λ v Z Z' hi hle=>hi.lg hle.lg.frz2,λ Z' hle _=>?_,λ v52 _=>?_⟩
  ·refine⟨Tryz.k80.any,(Tryz.list_ok p.s).mono ?_⟩
   rintro v Z'' ⟨hi,hle2⟩ -
   exact⟨Z'',.refl _,hi,hle2⟩
  conv=>whnf
  intro Z' hle hC
  obtain⟨-,a52,c52,rfl,hi52⟩:=hC
  refine⟨Tryz.k80.any,(Tryz.list_ok p.c).mono ?_⟩
  rintro _ Z'' ⟨⟨a54,c54,rfl,hi54⟩,hle2⟩ -
  conv=>whnf
  exact⟨⟨_,_,by rw [hF];rfl,by rw [hS];exact⟨a52,c52,rfl,hi52.lg hle2.lg.frz2⟩,by rw [hC];exact⟨a54,c54,rfl,hi54⟩⟩,⟨λ b o h=>(hle.trans hle2).imm b o (hlg.imm b o h),⟨[_,_],by rw [(hle.trans hle2).own,<- (h_1.trans h_2).own];rfl⟩,(hle.trans hle2).tok.trans hlg.tok⟩⟩
end Go.Proofs
namespace Go.TM
variable {T:Type} {Z:View T}
theorem src_ints {v:Value} {l:List Int} {M₀:List Res} (h:Acc 3 1 v (l.map λ n=>.int .i64 n) Z.M M₀):∃a cap,v=.slice a l.length cap/\Ints Z a l.length l:=by
 obtain⟨a,len,cap,rfl,hl,hs⟩:=h.src
 simp at hl
 subst hl
 refine⟨a,cap,rfl,rfl,λ i x hx=>?_⟩
 rcases h with⟨h1,h2,_⟩ | ⟨b,c,len,cap',h1,h2,h3,h4,hM,h5⟩
 ·rw [List.map_eq_nil_iff] at h2;subst h2;simp at hx
 ·cases h1
  refine⟨_,rfl,rfl,?_⟩
  rw [add_none]
  exact⟨rfl,.inl ⟨c,3,(0,0),.inr (by rw [hM];exact List.mem_cons_self ..),by simpa using h5 i (.int .i64 x) (by simp [hx])⟩⟩
end Go.TM
namespace Go.Proofs
open Go.TM
set_option maxRecDepth 100000
variable {T:Type} {S:TM.Sys Tryz.prog T} {Z:View T}
attribute [local irreducible] CallsV YieldV rngX
theorem idxV_cases {α:Type} (p:α->Bool) (l:List α):(idxV p l = -1/\∀x∈l,p x=false)\/∃(i:Nat) (x:α),idxV p l=i/\l[i]?=some x/\p x=true/\∀y∈l.take i,p y=false:=by
 unfold idxV
 cases h:l.findIdx? p with
 | none=>exact .inl ⟨rfl,List.findIdx?_eq_none_iff.1 h⟩
 | some i=>
  rw [List.findIdx?_eq_some_iff_getElem] at h
  obtain⟨hlt,hp,hn⟩:=h
  refine .inr ⟨i,l[i],rfl,by simp,hp,λ y hy=>?_⟩
  obtain⟨k,hk,rfl⟩:=List.mem_iff_getElem.1 hy
  simp only [List.length_take] at hk
  rw [List.getElem_take]
  simpa using hn k (by omega)
theorem Tryz.clone_ok (a:Option Addr) (len cap:Nat) (l:List Int) (hl:Ints Z a len l) (hlen:len<=1000000) :
  CallsV S 82 #[.slice a len cap] (λ v Z'=>Acc 3 1 v (l.map λ n=>.int .i64 n) Z'.M Z.M/\(∀x o,Z.I x=some o->Z'.I x=some o)/\Z'.tok=Z.tok) Z:=by
 refine CallsV.of (args:=[_]) Tryz.k82 Tryz.mixed (by simp) ?_
 have hll:=hl.1
 conv=>whnf
 refine raw_eqNil Tryz.u27 rfl ?_
 conv=>whnf
 apply cb_split<;>intro hc
 ·have ha:a=none:=by simpa using hc
  subst ha
  have:l=[]:=by
   cases l with
   | nil=>rfl
   | cons x r=>obtain⟨ad,h,_⟩:=hl.2 0 x rfl;cases h
  subst this
  repeat refine⟨rfl,?_⟩
  conv=>whnf
  exact⟨.nil,λ _ _ h=>h,rfl⟩
 ·obtain⟨ad,rfl⟩:∃ad,a=some ad:=by cases a with | none=>cases hc | some ad=>exact⟨ad,rfl⟩
  conv=>whnf
  intro b5 hf5
  refine⟨_,.refl _,?_⟩
  conv=>whnf
  refine raw_app (v:=.slice (some ⟨b5,0,none⟩) 0 0) (cs:=[]) (new:=l.map λ n=>.int .i64 n) (M₀:=Z.M) Tryz.sl27 rfl rfl .empty (.inr ⟨_,rfl,λ i v hv=>?_⟩) (by simp [hll]) (by simp [Value.single]) (by simp;omega) λ v' M' ha' _=>?_
  ·rw [List.getElem?_map] at hv
   cases hx:l[i]? with
   | none=>rw [hx] at hv;cases hv
   | some x=>
    rw [hx] at hv;cases hv
    obtain⟨ad',e,_,hs⟩:=hl.2 i x hx
    cases e
    rw [Nat.mul_one] at hs
    exact hs.lg (lg_put b5 _)
  obtain⟨ta,tl,tc,rfl,-,-⟩:=Acc.src (Z:={ Z with M:=M' }) ha'
  repeat refine⟨rfl,?_⟩
  conv=>whnf
  exact⟨by simpa using ha',λ _ _ h=>h,rfl⟩
theorem Tryz.deleteFunc_ok (v:Value) (l:List Int) (M₀:List Res) (ha:Acc 3 1 v (l.map λ n=>.int .i64 n) Z.M M₀) (hlen:l.length<=1000000) (g:FuncId) (first capt:Array Value) (p:Int->Bool)
  (hg:(Tryz.prog.funcs[g]?.any λ fd=>fd.body.isSome && fd.name != "runtime.NumGoroutine")=true)
  (hask:∀Z1,Z.frz.lg Z1->∀n∈l,CallsV S g (first.toList++[Value.int .i64 n]++capt.toList).toArray (λ v Z'=>v=.bool (p n)/\Z'=Z1) Z1) :
  CallsV S 83 #[v,.func (.func g) first capt] (λ v' Z'=>Acc 3 1 v' ((l.filter λ n=>!p n).map λ n=>.int .i64 n) Z'.M M₀/\(∀x o,Z.I x=some o->Z'.I x=some o)/\Z'.tok=Z.tok) Z:=by
 obtain⟨sa,sc,rfl,hli⟩:=src_ints ha
 refine CallsV.of (args:=[_,_]) Tryz.k83 Tryz.mixed (by simp) ?_
 refine⟨Tryz.k86.any,(Tryz.idxI_ok (λ n=>.int .i64 n) sa l.length sc l rfl hli.2 (λ x=>⟨_,_,rfl⟩) (by omega) g first capt p ⟨hg,λ n hn=>hask Z frz_self n hn⟩).go λ _=>?_⟩
 rcases idxV_cases p l with⟨hi,hno⟩ | ⟨i0,x0,hi,hx_0,hpx,hno⟩
 ·rw [hi]
  repeat refine⟨rfl,?_⟩
  refine⟨?_,λ _ _ h=>h,rfl⟩
  rw [List.filter_eq_self.2 λ n hn=>by simp [hno n hn]]
  exact ha
 ·have hi_0:i0<l.length:=(List.getElem?_eq_some_iff.1 hx_0).1
  rcases ha with⟨h1,h2,_⟩ | ⟨b,c,len,cap,h1,h2,h3,h4,hM,h5⟩
  ·rw [List.map_eq_nil_iff] at h2;subst h2;simp at hx_0
  simp at h2
  subst h2
  cases h1
  rw [hi]
  repeat refine⟨rfl,?_⟩
  refine⟨by unfold InR;omega,?_⟩
  refine⟨Nat×Nat×Array Value,λ y=>[(0,.slice (some ⟨b,0,none⟩) l.length sc),(1,.func (.func g) first capt),(5,.int .i64 y.2.1),(6,.int .i64 y.1)],
   λ y Z'=>(∀x o,Z.I x=some o->Z'.I x=some o)/\Z'.tok=Z.tok/\Z'.M=.obj b (.cells y.2.2 3 (0,0))::M₀/\y.2.2.size=sc/\y.1<=l.length/\y.2.1<y.1/\((l.take y.1).filter λ n=>!p n).length=y.2.1 /\
    (∀(k:Nat) (x:Int),((l.take y.1).filter λ n=>!p n)[k]?=some x->y.2.2[k]?=some (.int .i64 x))/\(∀(k:Nat) (x:Int),y.1<=k->l[k]?=some x->y.2.2[k]?=some (.int .i64 x)),
   λ y=>l.length-y.1,(i0+1,i0,c),⟨rfl,rfl,rfl,rfl,trivial⟩,?_,?_⟩
  ·have hk:(l.take (i0+1)).filter (λ n=>!p n)=l.take i0:=by
    rw [take_at hx_0,List.filter_append,List.filter_eq_self.2 λ n hn=>by simp [hno n hn]]
    simp [hpx]
   refine⟨λ _ _ h=>h,rfl,hM,by show c.size=sc;omega,by simp only;omega,by simp only;omega,by simp only [hk];simp;omega,λ k x hx=>?_,λ k x _ hx=>h5 k _ (by simp [hx])⟩
   simp only [hk] at hx
   rw [List.getElem?_take] at hx
   split at hx
   ·exact h5 k _ (by simp [hx])
   ·cases hx
  rintro⟨j,i,c'⟩ f Z1 ⟨hI,ht,hM_1,hsz,hj,hij,hkl,hk1,hk2⟩
  simp only at hM_1 hsz hj hij hkl hk1 hk2
  have hfl:Z.frz.lg Z1:=⟨hI,⟨_,(List.append_nil _).symm⟩,ht⟩
  repeat refine⟨rfl,?_⟩
  conv=>whnf
  apply cb_split<;>intro hc
  ·have hlt:j<l.length:=by simpa using hc
   have hx:l[j]?=some (l[j]'hlt):=by simp
   generalize l[j]'hlt=x at hx
   have hjn:InR (j+1):=by unfold InR;omega
   have hin:InR (i+1):=by unfold InR;omega
   refine⟨_,j,⟨rfl,rfl,hlt⟩,?_⟩
   refine⟨.int .i64 x,?_,?_⟩
   ·rw [Nat.mul_one,add_none]
    exact⟨rfl,.inl ⟨c',3,(0,0),.inr (by rw [hM_1];exact List.mem_cons_self ..),by simpa using hk2 j x (Nat.le_refl _) hx⟩⟩
   refine⟨hg,(hask Z1 hfl x (List.mem_of_getElem? hx)).go λ _=>?_⟩
   repeat refine⟨rfl,?_⟩
   conv=>whnf
   apply cb_split<;>intro hc
   ·have hp:p x=false:=by simpa using hc
    have hkx:(l.take (j+1)).filter (λ n=>!p n)=(l.take j).filter (λ n=>!p n)++[x]:=by
     rw [take_at hx,List.filter_append];simp [hp]
    refine⟨_,i,⟨rfl,rfl,by omega⟩,?_⟩
    refine⟨rfl,?_⟩
    show StV ((Addr.mk b 0 none).add (i*1)) [.int .i64 x] 0 _ _
    rw [Nat.mul_one]
    refine st_at [] hM_1 (by omega) rfl ?_
    refine⟨hin,?_⟩
    refine⟨hjn,?_⟩
    refine⟨rfl,(j+1,i+1,c'.setIfInBounds i (.int .i64 x)),⟨rfl,rfl,rfl,rfl,trivial⟩,⟨hI,ht,rfl,by simpa using hsz,by simp only;omega,by simp only;omega,by simp only [hkx];simp [hkl],λ k y hy=>?_,λ k y hk hy=>?_⟩,by show _-_<_-_;omega⟩
    ·simp only [hkx] at hy
     by_cases e:k<i
     ·rw [List.getElem?_append_left (by omega)] at hy
      rw [Array.getElem?_setIfInBounds_ne (by omega)]
      exact hk1 k y hy
     ·rw [List.getElem?_append_right (by omega),hkl] at hy
      have:k=i:=by
       have:=(List.getElem?_eq_some_iff.1 hy).1
       simp at this;omega
      subst this
      simp at hy
      subst hy
      rw [Array.getElem?_setIfInBounds_self_of_lt (by omega)]
    ·simp only at hk
     rw [Array.getElem?_setIfInBounds_ne (by omega)]
     exact hk2 k y (by omega) hy
   ·have hp:p x=true:=by simpa using hc
    have hkx:(l.take (j+1)).filter (λ n=>!p n)=(l.take j).filter (λ n=>!p n):=by
     rw [take_at hx,List.filter_append];simp [hp]
    refine⟨hjn,?_⟩
    refine⟨rfl,(j+1,i,c'),⟨rfl,rfl,rfl,rfl,trivial⟩,⟨hI,ht,hM_1,hsz,by simp only;omega,by simp only;omega,by simp only [hkx];exact hkl,λ k y hy=>hk1 k y (by simpa only [hkx] using hy),λ k y hk hy=>hk2 k y (by simp only at hk;omega) hy⟩,by show _-_<_-_;omega⟩
  ·have hge:l.length<=j:=by simpa using hc
   rw [List.take_of_length_le hge] at hkl hk1
   refine⟨i,l.length,⟨rfl,rfl,by omega,by omega⟩,?_⟩
   have hadr:(if sc=i then some (Addr.mk b 0 none) else (some (Addr.mk b 0 none)).map (·.add (i*1)))=some ⟨b,i,none⟩:=by
    rw [if_neg (by omega)];simp [add_none]
   rw [hadr]
   conv=>whnf
   obtain⟨inf,hi1,hi2,hi3,hi4⟩:=Tryz.i3
   refine raw_clear (len:=l.length-i) (cap:=sc-i) (off:=i) (b:=b) Tryz.u27 hi1 hi2 (n:=1) rfl ?_ rfl hM_1 (by omega) ?_
   ·rw [zeroCells_one rfl]
    intro w hw
    rw [List.eq_of_mem_replicate hw];rfl
   rw [zeroCells_one rfl]
   refine⟨0,i,⟨rfl,rfl,by omega,by omega⟩,?_⟩
   have hadr2:(if sc=0 then some (Addr.mk b 0 none) else (some (Addr.mk b 0 none)).map (·.add (0*1)))=some ⟨b,0,none⟩:=by
    rw [if_neg (by omega)];simp [add_none]
   rw [hadr2]
   repeat refine⟨rfl,?_⟩
   refine⟨?_,hI,ht⟩
   refine .inr ⟨b,_,i,sc,rfl,by simp [hkl],by omega,by rw [layAt_size];omega,rfl,λ k x hx=>?_⟩
   rw [layAt_get _ _ _ _ _ (by simp;omega),if_neg]
   ·rw [List.getElem?_map] at hx
    cases hy:(l.filter λ n=>!p n)[k]? with
    | none=>rw [hy] at hx;cases hx
    | some y=>rw [hy] at hx;cases hx;exact hk1 k y hy
   ·have:=(List.getElem?_eq_some_iff.1 hx).1
    simp at this
    omega
end Go.Proofs
namespace Go.TM
variable {T:Type} {P:Program} {S:Sys P T} {Z:View T}
theorem CallsV.listed {f:FuncId} {args:Array Value} {l:List Int} {F:Int} (h:CallsV S f args (λ v Z'=>∃v1,v=.tuple #[v1,.int .i64 F]/\Acc 3 1 v1 (l.map λ n=>.int .i64 n) Z'.M Z.M/\(∀x ox,Z.I x=some ox->Z'.I x=some ox)/\Z'.tok=Z.tok) Z) :
  CallsV S f args (λ v Z'=>(∃v1,v=.tuple #[v1,.int .i64 F]/\IntsV Z'.frz v1 l)/\Z.le Z') Z:=by
 refine h.sep λ v Z' hs ⟨v1,hv,ha,hI,ht⟩=>?_
 obtain⟨Z'',k1,k2,a,len,cap,rfl,hl,hsrc,hsp,_⟩:=ha.freeze hs hI ht
 simp at hl
 refine⟨Z'',k1,⟨_,hv,a,cap,by rw [hl],ints_src hsrc hsp⟩,k2⟩
structure GCut where
 items:List Int
 keep:Bool
def CutsV (Z:View T) (a:Option Addr) (len:Nat) (cs:List GCut):Prop:=RowsV Z a len 2 cs λ c vs=>∃a' len' cap',vs=[.slice a' len' cap',.bool c.keep]/\Ints Z a' len' c.items/\len'<2 ^ 60
theorem CutsV.lg {Z':View T} {a:Option Addr} {len:Nat} {cs:List GCut} (h:CutsV Z a len cs) (hl:Z.lg Z'):CutsV Z' a len cs:=
 RowsV.lg h hl λ _ _ ⟨a',l',c',e,h,k⟩=>⟨a',l',c',e,h.lg hl,k⟩
def GCut.on (c:GCut) (l:List Int):List Int:=l.filter λ n=>!(c.items.contains n != c.keep)
def cutAll (cs:List GCut) (l:List Int):List Int:=cs.foldl (λ l c=>c.on l) l
def Tbl.cutF (t:Tbl) (e:Int) (l:List Int) (cs:List GCut):Int:=if t.openF e [l]=0 then (if 4<cs.length then 2 else t.chkAll e (cs.map (·.items))) else t.openF e [l]
def Tbl.cutL (t:Tbl) (e:Int) (l:List Int) (cs:List GCut):List Int:=if t.cutF e l cs=0 then cutAll cs l else []
theorem GCut.on_len (c:GCut) (l:List Int):(c.on l).length<=l.length:=List.length_filter_le ..
def Tbl.growF (t:Tbl) (e:Int) (o n:List Int):Int:=t.openF e [o,n]
def Tbl.growN (t:Tbl) (e:Int) (o n:List Int):Int:=if t.openF e [o,n]=0 then ((n.find? λ x=>!o.contains x).getD (-1)) else 0
theorem ListsV.two {b:Nat} {a a':Option Addr} {len len' cap cap':Nat} {l l':List Int} (hb:Blk Z b #[.slice a len cap,.slice a' len' cap']) (h:Ints Z a len l) (h':Ints Z a' len' l') (k:len<2 ^ 60) (k':len'<2 ^ 60):ListsV Z (some ⟨b,0,none⟩) 2 [l,l']:=by
 refine⟨rfl,λ i x hx=>?_⟩
 have hi:i=0\/i=1:=by have:=(List.getElem?_eq_some_iff.1 hx).1;simp at this;omega
 rcases hi with rfl | rfl <;> cases hx
 ·refine⟨_,_,rfl,rfl,⟨a,len,cap,rfl,h,k⟩,rfl,λ i v hv=>?_⟩
  cases i with
  | zero=>simp at hv;subst hv;rw [Nat.zero_mul,add_none,add_none];exact hb.sees rfl
  | succ i=>simp at hv
 ·refine⟨_,_,rfl,rfl,⟨a',len',cap',rfl,h',k'⟩,rfl,λ i v hv=>?_⟩
  cases i with
  | zero=>simp at hv;subst hv;rw [add_none,add_none];exact hb.sees rfl
  | succ i=>simp at hv
theorem ListsV.one {b:Nat} {a:Option Addr} {len cap:Nat} {l:List Int} (hb:Blk Z b #[.slice a len cap]) (h:Ints Z a len l) (k:len<2 ^ 60):ListsV Z (some ⟨b,0,none⟩) 1 [l]:=by
 refine⟨rfl,λ i x hx=>?_⟩
 obtain rfl:i=0:=by have:=(List.getElem?_eq_some_iff.1 hx).1;simp at this;omega
 cases hx
 refine⟨_,_,rfl,rfl,⟨a,len,cap,rfl,h,k⟩,rfl,λ i v hv=>?_⟩
 cases i with
 | zero=>simp at hv;subst hv;rw [Nat.zero_mul,add_none,add_none];exact hb.sees rfl
 | succ i=>simp at hv
end Go.TM
namespace Go.Proofs
open Go.TM
set_option maxRecDepth 100000
variable {T:Type} {S:TM.Sys Tryz.prog T} {Z:View T}
attribute [local irreducible] CallsV YieldV rngX
theorem Tryz.cutP_ok (n:Int) (b:Nat) (a:Option Addr) (len cap:Nat) (l:List Int) (keep:Bool) (hb:Blk Z b #[.slice a len cap,.bool keep]) (hl:Ints Z a len l) (hlen:len<2 ^ 60) :
  CallsV S 84 #[.int .i64 n,.pointer (some ⟨b,0,none⟩)] (λ v Z'=>v=.bool (l.contains n != keep)/\Z'=Z) Z:=by
 refine CallsV.pure' (CallsV.of (args:=[_,_]) Tryz.k84 Tryz.mixed (by simp) ?_)
 repeat refine⟨rfl,?_⟩
 refine⟨_,hb.sees3 rfl,?_⟩
 refine⟨.bool (l.contains n),λ Z' hle _=>?_,?_⟩
 ·refine⟨Tryz.k85.any,(Tryz.contains_ok a len cap l (hl.le hle) hlen n).mono ?_⟩
  rintro _ Z'' ⟨rfl,hZ⟩ -
  exact⟨rfl,_,.refl _,hZ ▸ .refl _⟩
 repeat refine⟨rfl,?_⟩
 refine⟨_,hb.sees3 rfl,?_⟩
 conv=>whnf
 intro Z' hle _
 repeat refine⟨rfl,?_⟩
 conv=>whnf
 exact hle.lg
theorem Tryz.growP_ok (n:Int) (b:Nat) (a:Option Addr) (len cap:Nat) (l:List Int) (hb:Blk Z b #[.slice a len cap]) (hl:Ints Z a len l) (hlen:len<2 ^ 60) :
  CallsV S 87 #[.int .i64 n,.pointer (some ⟨b,0,none⟩)] (λ v Z'=>v=.bool (!l.contains n)/\Z'=Z) Z:=by
 refine CallsV.pure' (CallsV.of (args:=[_,_]) Tryz.k87 Tryz.mixed (by simp) ?_)
 repeat refine⟨rfl,?_⟩
 refine⟨_,hb.sees rfl,?_⟩
 refine⟨Tryz.k85.any,(Tryz.contains_ok a len cap l hl hlen n).mono ?_⟩
 rintro _ Z'' ⟨rfl,rfl⟩ -
 repeat refine⟨rfl,?_⟩
 conv=>whnf
 exact (View.le.refl _).lg
theorem Tryz.Grows_ok (h:TH) (t:Tbl) (ht:TabV Z h t) (e:Int) (a a':Option Addr) (len cap len' cap':Nat) (l l':List Int) (hl:Ints Z a len l) (hl':Ints Z a' len' l') (hlen:len<2 ^ 60) (hlen':len'<2 ^ 60) :
  CallsV S 39 #[h.v,.int .i64 e,.slice a len cap,.slice a' len' cap'] (λ v Z'=>v=.tuple #[.int .i64 (t.growN e l l'),.int .i64 (t.growF e l l')]/\Z'=Z) Z:=by
 refine CallsV.pure' (CallsV.of (args:=[_,_,_,_]) Tryz.k39 Tryz.mixed (by simp) ?_)
 repeat refine⟨rfl,?_⟩
 conv=>whnf
 intro b4 Z1 h_1 hb_4
 conv=>whnf
 intro b6 Z2 h_2 hb6
 refine⟨_,⟨rfl,hb_4.rdT h_2.imm⟩,?_⟩
 refine⟨_,hb6.sees rfl,?_⟩
 conv=>whnf
 intro b18 hf18
 refine put_new hf18 λ Z3 h_3 hb18=>?_
 have hb18:Blk Z3 b18 #[.slice a len cap,.slice a' len' cap']:=hb18
 have hlg:=((h_1.trans h_2).trans h_3).lg
 have hb6:=hb6.le h_3
 refine⟨Tryz.k64.any,(Tryz.open_ok h t (ht.lg hlg) e (some ⟨b18,0,none⟩) 2 2 [l,l'] (.two hb18 (hl.lg hlg) (hl'.lg hlg) hlen hlen') (by omega)).go λ _=>?_⟩
 conv=>whnf
 intro b10 hf10
 refine⟨_,.refl _,?_⟩
 refine⟨rfl,st_new (vs:=[.slice h.ea h.el h.ec,.slice h.ma h.ml h.mc,.slice h.ka h.kl h.kc]) hf10 rfl (by simp [Value.single]) λ Z4 h_4 hb_10=>?_⟩
 have hlg:=hlg.trans h_4.lg
 have hb6:=hb6.le h_4
 repeat refine⟨rfl,?_⟩
 conv=>whnf
 apply cb_split<;>intro hc
 ·have hf:t.openF e [l,l']≠0:=by simpa using hc
  repeat refine⟨rfl,?_⟩
  conv=>whnf
  exact⟨by unfold Tbl.growN Tbl.growF;rw [if_neg hf];rfl,hlg⟩
 have hf:t.openF e [l,l']=0:=by simpa using hc
 refine⟨Tryz.k86.any,(Tryz.idxI_ok (λ n=>.int .i64 n) a' len' cap' l' (hl'.lg hlg).1 (hl'.lg hlg).2 (λ x=>⟨_,_,rfl⟩) hlen' 87 #[] #[.pointer (some ⟨b6,0,none⟩)] (λ n=>!l.contains n) ⟨Tryz.k87.any,λ n hn=>Tryz.growP_ok n b6 a len cap l hb6 (hl.lg hlg) hlen⟩).go λ _=>?_⟩
 repeat refine⟨rfl,?_⟩
 conv=>whnf
 apply cb_split<;>intro hc
 ·have hge:¬idxV (λ n=>!l.contains n) l'<0:=by simpa using hc
  obtain⟨i,x,hi,hx,hfd⟩:=idxV_find hge
  have hlt:i<len':=by have:=(List.getElem?_eq_some_iff.1 hx).1;rw [hl'.1] at this;exact this
  obtain⟨ad,rfl,hsp,hs⟩:=(hl'.lg hlg).2 i x hx
  rw [hi]
  refine⟨ad,i,⟨rfl,rfl,hlt⟩,?_⟩
  refine⟨_,hs,?_⟩
  repeat refine⟨rfl,?_⟩
  conv=>whnf
  exact⟨by unfold Tbl.growN Tbl.growF;rw [if_pos hf,hf,hfd];rfl,hlg⟩
 ·have hlt:idxV (λ n=>!l.contains n) l'<0:=by simpa using hc
  have hfd:=idxV_nofind hlt
  repeat refine⟨rfl,?_⟩
  conv=>whnf
  exact⟨by unfold Tbl.growN Tbl.growF;rw [if_pos hf,hf,hfd];rfl,hlg⟩
end Go.Proofs
namespace Go.TM
theorem cutAll_len (cs:List GCut):∀(l:List Int),(cutAll cs l).length<=l.length:=by
 induction cs with
 | nil=>exact λ l=>Nat.le_refl _
 | cons c cs ih=>exact λ l=>Nat.le_trans (ih _) (GCut.on_len c l)
theorem cutAll_at {cs:List GCut} {i:Nat} {c:GCut} (h:cs[i]?=some c) (l:List Int):cutAll (cs.take (i+1)) l=c.on (cutAll (cs.take i) l):=by
 rw [take_at h];unfold cutAll;rw [List.foldl_append];rfl
end Go.TM
namespace Go.Proofs
open Go.TM
set_option maxRecDepth 100000
variable {T:Type} {S:TM.Sys Tryz.prog T} {Z:View T}
attribute [local irreducible] CallsV YieldV rngX
theorem Tryz.Cut_ok (h:TH) (t:Tbl) (ht:TabV Z h t) (e:Int) (a ca:Option Addr) (len cap cl cc:Nat) (l:List Int) (cs:List GCut) (hl:Ints Z a len l) (hcs:CutsV Z.frz ca cl cs) (hlen:len<=1000000) (hcl:cl<2 ^ 60) :
  CallsV S 37 #[h.v,.int .i64 e,.slice a len cap,.slice ca cl cc] (λ v Z'=>(∃v1,v=.tuple #[v1,.int .i64 (t.cutF e l cs)]/\IntsV Z'.frz v1 (t.cutL e l cs))/\Z.le Z') Z:=by
 refine CallsV.listed (CallsV.of (args:=[_,_,_,_]) Tryz.k37 Tryz.mixed (by simp) ?_)
 have hcc:=hcs.1
 have hll:=hl.1
 repeat refine⟨rfl,?_⟩
 conv=>whnf
 intro b4 Z1 h_1 hb_4
 refine⟨_,⟨rfl,hb_4.rdT λ _ _ h=>h⟩,?_⟩
 conv=>whnf
 intro b22 hf22
 refine put_new hf22 λ Z2 h_2 hb_22=>?_
 have hb_22:Blk Z2 b22 #[.slice a len cap]:=hb_22
 have hle_2:=h_1.trans h_2
 refine⟨Tryz.k64.any,(Tryz.open_ok h t (ht.lg hle_2.lg) e (some ⟨b22,0,none⟩) 1 1 [l] (.one hb_22 (hl.lg hle_2.lg) (by omega)) (by omega)).go λ _=>?_⟩
 conv=>whnf
 intro b10 hf10
 refine⟨_,.refl _,?_⟩
 refine⟨rfl,st_new (vs:=[.slice h.ea h.el h.ec,.slice h.ma h.ml h.mc,.slice h.ka h.kl h.kc]) hf10 rfl (by simp [Value.single]) λ Z3 h_3 hb_10=>?_⟩
 have hle_3:=hle_2.trans h_3
 have hc3:CutsV Z3 ca cl cs:=hcs.lg (frz_le frz_self hle_3)
 have hcz:CutsV Z3.frz ca cl cs:=hcs.lg hle_3.lg.frz2
 have ht3:=ht.lg hle_3.lg
 repeat refine⟨rfl,?_⟩
 conv=>whnf
 apply cb_split<;>intro hc
 ·have hf:t.openF e [l]≠0:=by simpa using hc
  have hF:t.cutF e l cs=t.openF e [l]:=by unfold Tbl.cutF;rw [if_neg hf]
  have hL:t.cutL e l cs=[]:=by unfold Tbl.cutL;rw [hF,if_neg hf]
  repeat refine⟨rfl,?_⟩
  conv=>whnf
  exact⟨_,by rw [hF];rfl,by rw [hL,hle_3.own];exact .nil,hle_3.imm,hle_3.tok⟩
 have hf:t.openF e [l]=0:=by simpa using hc
 repeat refine⟨rfl,?_⟩
 conv=>whnf
 apply cb_split<;>intro hc
 ·have hbig:4<cs.length:=by rw [hcc];simp at hc;omega
  have hF:t.cutF e l cs=2:=by unfold Tbl.cutF;rw [if_pos hf,if_pos hbig]
  have hL:t.cutL e l cs=[]:=by unfold Tbl.cutL;rw [hF];rfl
  repeat refine⟨rfl,?_⟩
  conv=>whnf
  exact⟨_,by rw [hF];rfl,by rw [hL,hle_3.own];exact .nil,hle_3.imm,hle_3.tok⟩
 have hbig:¬4<cs.length:=by rw [hcc];simp at hc;omega
 have hF:t.cutF e l cs=t.chkAll e (cs.map (·.items)):=by unfold Tbl.cutF;rw [if_pos hf,if_neg hbig]
 refine⟨Nat,λ i=>[(1,.int .i64 e),(2,.slice a len cap),(3,.slice ca cl cc),(10,.pointer (some ⟨b10,0,none⟩)),(32,.slice ca cl cc),(33,.int .i64 cl),(34,.int .i64 i)],
  λ i Z'=>Z3.le Z'/\i<=cl/\t.chkAll e (cs.map (·.items))=t.chkAll e ((cs.drop i).map (·.items)),λ i=>cl-i,0,⟨rfl,rfl,rfl,rfl,rfl,rfl,rfl,trivial⟩,⟨.refl _,by omega,by simp⟩,?_⟩
 rintro i f Z4 ⟨h_4,hi,hinv⟩
 have hle_4:=hle_3.trans h_4
 repeat refine⟨rfl,?_⟩
 conv=>whnf
 apply cb_split<;>intro hc
 ·have hlt:i<cl:=by simpa using hc
  obtain⟨ad,c,vs,hx,rfl,hsp,⟨a',l',c',rfl,hli,hll'⟩,-,hr⟩:=RowsV.at (hc3.lg h_4.lg) hlt
  rw [drop_at hx,List.map_cons,Tbl.chkAll] at hinv
  have hin:InR (i+1):=by unfold InR;omega
  refine⟨ad,i,⟨rfl,rfl,hlt⟩,?_⟩
  refine⟨_,⟨rfl,hr⟩,?_⟩
  conv=>whnf
  intro b13 hf13
  refine⟨_,.refl _,?_⟩
  refine⟨rfl,st_new (vs:=[.slice a' l' c',.bool c.keep]) hf13 rfl (by simp [Value.single]) λ Z5 h_5 hb13=>?_⟩
  have hb13:Blk Z5 b13 #[.slice a' l' c',.bool c.keep]:=hb13
  refine⟨_,⟨rfl,Blk.rdI (vs:=[.slice h.ea h.el h.ec,.slice h.ma h.ml h.mc,.slice h.ka h.kl h.kc]) hb_10 (h_4.trans h_5).imm⟩,?_⟩
  repeat refine⟨rfl,?_⟩
  refine⟨_,hb13.sees3 rfl,?_⟩
  refine⟨Tryz.k78.any,(Tryz.checkList_ok h t (ht3.lg (h_4.trans h_5).lg) e a' l' c' c.items (hli.lg h_5.lg) hll').go λ _=>?_⟩
  repeat refine⟨rfl,?_⟩
  conv=>whnf
  apply cb_split<;>intro hc
  ·have hn:t.chk e none c.items≠0:=by simpa using hc
   have hF':t.cutF e l cs=t.chk e none c.items:=by rw [hF,hinv,if_neg hn]
   have hL:t.cutL e l cs=[]:=by unfold Tbl.cutL;rw [hF',if_neg hn]
   repeat refine⟨rfl,?_⟩
   conv=>whnf
   exact⟨_,by rw [hF'];rfl,by rw [hL,(hle_4.trans h_5).own];exact .nil,(hle_4.trans h_5).imm,(hle_4.trans h_5).tok⟩
  ·have hn:t.chk e none c.items=0:=by simpa using hc
   refine⟨hin,?_⟩
   conv=>whnf
   exact⟨rfl,i+1,⟨rfl,rfl,rfl,rfl,rfl,rfl,rfl,trivial⟩,⟨h_4.trans h_5,by omega,by rw [hinv,if_pos hn]⟩,by show _-_<_-_;omega⟩
 ·have hge:cl<=i:=by simpa using hc
  rw [List.drop_eq_nil_of_le (by omega)] at hinv
  have hF0:t.cutF e l cs=0:=by rw [hF,hinv];rfl
  have hL:t.cutL e l cs=cutAll cs l:=by unfold Tbl.cutL;rw [hF0,if_pos rfl]
  refine⟨Tryz.k82.any,(Tryz.clone_ok a len cap l (hl.lg hle_4.lg) hlen).mono ?_⟩
  rintro v Z5 ⟨ha,hI5,ht5⟩ -
  obtain⟨sa,sc,rfl,-⟩:=src_ints ha
  refine⟨Nat×Value,λ y=>[(3,.slice ca cl cc),(15,y.2),(49,.slice ca cl cc),(50,.int .i64 cl),(51,.int .i64 y.1)],
   λ y Z'=>(∀x o,Z4.I x=some o->Z'.I x=some o)/\Z'.tok=Z4.tok/\Acc 3 1 y.2 ((cutAll (cs.take y.1) l).map λ n=>.int .i64 n) Z'.M Z4.M/\y.1<=cl,λ y=>cl-y.1,(0,.slice sa l.length sc),⟨rfl,rfl,rfl,rfl,rfl,trivial⟩,⟨hI5,ht5,ha,by omega⟩,?_⟩
  rintro⟨j,v⟩ f Z6 ⟨hI_6,ht6,ha6,hj⟩
  simp only at ha6 hj
  have hlen6:=cutAll_len (cs.take j) l
  generalize hcur:cutAll (cs.take j) l=cur at ha6 hlen6
  obtain⟨sa,sc,rfl,-⟩:=src_ints ha6
  have hfz:Z4.frz.lg Z6:=⟨hI_6,⟨_,(List.append_nil _).symm⟩,ht6⟩
  have hfz3:Z3.frz.lg Z6:=⟨λ b o h=>hI_6 b o (h_4.imm b o h),⟨_,(List.append_nil _).symm⟩,ht6.trans h_4.tok⟩
  repeat refine⟨rfl,?_⟩
  conv=>whnf
  apply cb_split<;>intro hc
  ·have hlt:j<cl:=by simpa using hc
   obtain⟨ad,c,vs,hx,rfl,hsp,⟨a',l',c',rfl,hli,hll'⟩,-,hr⟩:=RowsV.at hcz hlt
   have hin:InR (j+1):=by unfold InR;omega
   refine⟨ad,j,⟨rfl,rfl,hlt⟩,?_⟩
   refine⟨_,⟨rfl,hr.lg hfz3⟩,?_⟩
   conv=>whnf
   intro b17 hf17
   refine⟨_,.refl _,?_⟩
   refine⟨rfl,st_new (vs:=[.slice a' l' c',.bool c.keep]) hf17 rfl (by simp [Value.single]) λ Z7 h_7 hb_17=>?_⟩
   have hb_17:Blk Z7 b17 #[.slice a' l' c',.bool c.keep]:=hb_17
   have hfz7:=frz_le hfz3 h_7
   refine⟨Tryz.k83.any,(Tryz.deleteFunc_ok (.slice sa cur.length sc) cur Z4.M (by rw [h_7.own];exact ha6) (by omega) 84 #[] #[.pointer (some ⟨b17,0,none⟩)] (λ n=>c.items.contains n != c.keep) Tryz.k84.any
    (λ Z8 h_8 n _=>Tryz.cutP_ok n b17 a' l' c' c.items c.keep (hb_17.imI h_8.imm) (hli.lg ⟨λ b o h=>h_8.imm b o (hfz7.imm b o h),⟨_,(List.append_nil _).symm⟩,h_8.tok.trans hfz7.tok⟩) hll')).mono ?_⟩
   rintro v8 Z8 ⟨ha8,hI_8,ht8⟩ -
   obtain⟨sa',sc',rfl,-⟩:=src_ints ha8
   refine⟨hin,?_⟩
   conv=>whnf
   exact⟨rfl,(j+1,.slice sa' _ sc'),⟨rfl,rfl,rfl,rfl,rfl,trivial⟩,⟨λ b o h=>hI_8 b o (h_7.imm b o (hI_6 b o h)),ht8.trans (h_7.tok.trans ht6),by rw [cutAll_at hx,hcur];exact ha8,by omega⟩,by show _-_<_-_;omega⟩
  ·have hge:cl<=j:=by simpa using hc
   rw [List.take_of_length_le (by omega)] at hcur
   repeat refine⟨rfl,?_⟩
   conv=>whnf
   exact⟨_,by rw [hF0];rfl,by rw [hL,hcur,<- hle_4.own];exact ha6,λ b o h=>hI_6 b o (hle_4.imm b o h),ht6.trans hle_4.tok⟩
end Go.Proofs
namespace Go.TM
variable {T:Type} {Z:View T}
def PairsV (Z:View T) (a:Option Addr) (len:Nat) (l:List (Int×Int)):Prop:=RowsV Z a len 2 l λ p vs=>vs=encII p
theorem PairsV.lg {Z':View T} {a:Option Addr} {len:Nat} {l:List (Int×Int)} (h:PairsV Z a len l) (hl:Z.lg Z'):PairsV Z' a len l:=RowsV.lg h hl λ _ _ h=>h
theorem take_eq_step {α:Type} {l l':List α} {i:Nat} {x y:α} (hx:l[i]?=some x) (hy:l'[i]?=some y) (h:l.take i=l'.take i) (e:x=y):l.take (i+1)=l'.take (i+1):=by
 rw [take_at hx,take_at hy,h,e]
theorem ne_of_at {α:Type} {l l':List α} {i:Nat} {x y:α} (hx:l[i]?=some x) (hy:l'[i]?=some y) (e:x≠y):l≠l':=by
 rintro rfl
 exact e (Option.some.inj (hx.symm.trans hy))
end Go.TM
namespace Go.Proofs
open Go.TM
set_option maxRecDepth 100000
variable {T:Type} {S:TM.Sys Tryz.prog T} {Z:View T}
attribute [local irreducible] CallsV YieldV rngX
theorem Tryz.same_ok (a a':Option Addr) (len cap len' cap':Nat) (l l':List Int) (hl:Ints Z a len l) (hl':Ints Z a' len' l') (hlen:len<2 ^ 60) :
  CallsV S 33 #[.slice a len cap,.slice a' len' cap'] (λ v Z'=>v=.bool (decide (l=l'))/\Z'=Z) Z:=by
 refine CallsV.pure' (CallsV.of (args:=[_,_]) Tryz.k33 Tryz.mixed (by simp) ?_)
 have h1:=hl.1
 have h2:=hl'.1
 repeat refine⟨rfl,?_⟩
 conv=>whnf
 apply cb_split<;>intro hc
 ·have hne:len≠len':=by intro e;subst e;simp at hc
  repeat refine⟨rfl,?_⟩
  refine⟨?_,(View.le.refl _).lg⟩
  rw [decide_eq_false (λ e=>hne (by rw [<- h1,<- h2,e]))]
 have hee:len=len':=Int.ofNat.inj (by simpa using hc:(len:Int)=len')
 subst hee
 refine⟨Nat,λ i=>[(0,.slice a len cap),(1,.slice a' len cap'),(5,.int .i64 i)],λ i Z'=>Z.le Z'/\i<=len/\l.take i=l'.take i,λ i=>len-i,0,⟨rfl,rfl,rfl,trivial⟩,⟨.refl _,by omega,rfl⟩,?_⟩
 rintro i f Z1 ⟨hle,hi,htk⟩
 repeat refine⟨rfl,?_⟩
 conv=>whnf
 apply cb_split<;>intro hc
 ·have hlt:i<len:=by simpa using hc
  obtain⟨ad,x,hx,rfl,-,hs⟩:=(hl.lg hle.lg).at hlt
  obtain⟨ad',y,hy,rfl,-,hs'⟩:=(hl'.lg hle.lg).at hlt
  have hin:InR (i+1):=by unfold InR;omega
  refine⟨ad,i,⟨rfl,rfl,hlt⟩,?_⟩
  refine⟨_,hs,?_⟩
  refine⟨ad',i,⟨rfl,rfl,hlt⟩,?_⟩
  refine⟨_,hs',?_⟩
  conv=>whnf
  intro Z2 hle_2 _
  repeat refine⟨rfl,?_⟩
  conv=>whnf
  apply cb_split<;>intro hc
  ·have hne:x≠y:=by simpa using hc
   repeat refine⟨rfl,?_⟩
   conv=>whnf
   exact⟨by rw [decide_eq_false (ne_of_at hx hy hne)],(hle.trans hle_2).lg⟩
  ·have hxy:x=y:=by simpa using hc
   refine⟨hin,?_⟩
   conv=>whnf
   exact⟨rfl,i+1,⟨rfl,rfl,rfl,trivial⟩,⟨hle.trans hle_2,by omega,take_eq_step hx hy htk hxy⟩,by show _-_<_-_;omega⟩
 ·have hge:len<=i:=by simpa using hc
  rw [List.take_of_length_le (by omega),List.take_of_length_le (by omega)] at htk
  repeat refine⟨rfl,?_⟩
  conv=>whnf
  exact⟨by rw [decide_eq_true htk],hle.lg⟩
theorem Tryz.s80:StructOk Tryz.prog 80 (fsOf Tryz.prog 80):=.of (by kernel_rfl)
theorem Tryz.samePairs_ok (a a':Option Addr) (len cap len' cap':Nat) (l l':List (Int×Int)) (hl:PairsV Z a len l) (hl':PairsV Z a' len' l') (hlen:len<2 ^ 60) :
  CallsV S 45 #[.slice a len cap,.slice a' len' cap'] (λ v Z'=>v=.bool (decide (l=l'))/\Z'=Z) Z:=by
 refine CallsV.pure' (CallsV.of (args:=[_,_]) Tryz.k45 Tryz.mixed (by simp) ?_)
 have h1:=hl.1
 have h2:=hl'.1
 repeat refine⟨rfl,?_⟩
 conv=>whnf
 apply cb_split<;>intro hc
 ·have hne:len≠len':=by intro e;subst e;simp at hc
  repeat refine⟨rfl,?_⟩
  refine⟨?_,(View.le.refl _).lg⟩
  rw [decide_eq_false (λ e=>hne (by rw [<- h1,<- h2,e]))]
 have hee:len=len':=Int.ofNat.inj (by simpa using hc:(len:Int)=len')
 subst hee
 refine⟨Nat,λ i=>[(0,.slice a len cap),(1,.slice a' len cap'),(5,.int .i64 i)],λ i Z'=>Z.le Z'/\i<=len/\l.take i=l'.take i,λ i=>len-i,0,⟨rfl,rfl,rfl,trivial⟩,⟨.refl _,by omega,rfl⟩,?_⟩
 rintro i f Z1 ⟨hle,hi,htk⟩
 repeat refine⟨rfl,?_⟩
 conv=>whnf
 apply cb_split<;>intro hc
 ·have hlt:i<len:=by simpa using hc
  obtain⟨ad,⟨x1,x2⟩,_,hx,rfl,-,rfl,-,hs⟩:=RowsV.at (hl.lg hle.lg) hlt
  obtain⟨ad',⟨y1,y2⟩,_,hy,rfl,-,rfl,-,hs'⟩:=RowsV.at (hl'.lg hle.lg) hlt
  have hin:InR (i+1):=by unfold InR;omega
  refine⟨ad,i,⟨rfl,rfl,hlt⟩,?_⟩
  refine⟨_,⟨rfl,hs⟩,?_⟩
  refine⟨ad',i,⟨rfl,rfl,hlt⟩,?_⟩
  refine⟨_,⟨rfl,hs'⟩,?_⟩
  conv=>whnf
  intro Z2 hle_2 _
  conv=>whnf
  refine raw_neS Tryz.s80 (vs:=encII (x1,x2)) (ws:=encII (y1,y2)) rfl rfl (by kernel_rfl) (by kernel_rfl) ?_
  have hq:(!eqvL (encII (x1,x2)) (encII (y1,y2)))=decide ((x1,x2)≠(y1,y2)):=by
   rw [Bool.eq_iff_iff];simp [encII,eqvL,eqv]
  rw [hq]
  repeat refine⟨rfl,?_⟩
  conv=>whnf
  apply cb_split<;>intro hc
  ·have hne:(x1,x2)≠(y1,y2):=of_decide_eq_true hc
   repeat refine⟨rfl,?_⟩
   conv=>whnf
   exact⟨by rw [decide_eq_false (ne_of_at hx hy hne)],(hle.trans hle_2).lg⟩
  ·have hxy:(x1,x2)=(y1,y2):=Decidable.of_not_not (of_decide_eq_false hc)
   refine⟨hin,?_⟩
   conv=>whnf
   exact⟨rfl,i+1,⟨rfl,rfl,rfl,trivial⟩,⟨hle.trans hle_2,by omega,take_eq_step hx hy htk hxy⟩,by show _-_<_-_;omega⟩
 ·have hge:len<=i:=by simpa using hc
  rw [List.take_of_length_le (by omega),List.take_of_length_le (by omega)] at htk
  repeat refine⟨rfl,?_⟩
  conv=>whnf
  exact⟨by rw [decide_eq_true htk],hle.lg⟩
end Go.Proofs
namespace Go.TM
variable {T:Type} {Z:View T}
def SrtBut (l:List Int) (i j:Nat):Prop:=(∀p q x y,p<q->q<=i->p≠j->q≠j->l[p]?=some x->l[q]?=some y->x<=y)/\(∀q x y,j<q->q<=i->l[j]?=some x->l[q]?=some y->x<=y)
def SrtTo (l:List Int) (i:Nat):Prop:=∀p q x y,p<q->q<i->l[p]?=some x->l[q]?=some y->x<=y
theorem SrtBut.start {l:List Int} {i:Nat} (h:SrtTo l i):SrtBut l i i:=
 ⟨λ p q x y h1 h2 _ h4 hx hy=>h p q x y h1 (by omega) hx hy,λ q x y h1 h2=>by omega⟩
theorem SrtBut.done {l:List Int} {i j:Nat} (h:SrtBut l i j) (hj:j<=i) (h0:j=0\/∃x y,l[j]?=some x/\l[j-1]?=some y/\y<=x):SrtTo l (i+1):=by
 intro p q x y hpq hq hx hy
 by_cases e:q=j
 ·subst e
  rcases h0 with h0 | ⟨x',y',hx',hy',hle⟩
  ·omega
  ·rw [hx'] at hy;cases hy
   by_cases e':p=q-1
   ·subst e';rw [hy'] at hx;cases hx;exact hle
   ·have:=h.1 p (q-1) x y' (by omega) (by omega) (by omega) (by omega) hx hy'
    omega
 ·by_cases e':p=j
  ·subst e';exact h.2 q x y hpq (by omega) hx hy
  ·exact h.1 p q x y hpq (by omega) e' e hx hy
theorem SrtBut.step {l:List Int} {i j:Nat} {x y:Int} (h:SrtBut l i j) (hj:j<=i) (h0:0<j) (hx:l[j]?=some x) (hy:l[j-1]?=some y) (hlt:x<y):SrtBut ((l.set j y).set (j-1) x) i (j-1):=by
 have hjl:j<l.length:=(List.getElem?_eq_some_iff.1 hx).1
 have get:∀k,((l.set j y).set (j-1) x)[k]?=if k=j-1 then some x else if k=j then some y else l[k]?:=by
  intro k
  rw [List.getElem?_set,List.getElem?_set]
  by_cases e:j-1=k
  ·subst e;rw [if_pos rfl,if_pos (by simp;omega),if_pos rfl]
  ·have e2:¬k=j-1:=λ h=>e h.symm
   rw [if_neg e,if_neg e2]
   by_cases e':j=k
   ·subst e';rw [if_pos rfl,if_pos hjl,if_pos rfl]
   ·have e3:¬k=j:=λ h=>e' h.symm
    rw [if_neg e',if_neg e3]
 refine⟨λ p q u v hpq hq hp1 hq1 hu hv=>?_,λ q u v hq hqi hu hv=>?_⟩
 ·rw [get,if_neg hp1] at hu
  rw [get,if_neg hq1] at hv
  by_cases e:p=j
  ·subst e
   rw [if_pos rfl] at hu;cases hu
   rw [if_neg (by omega)] at hv
   exact h.1 (p-1) q y v (by omega) hq (by omega) (by omega) hy hv
  ·rw [if_neg e] at hu
   by_cases e':q=j
   ·subst e'
    rw [if_pos rfl] at hv;cases hv
    exact h.1 p (q-1) u y (by omega) (by omega) (by omega) (by omega) hu hy
   ·rw [if_neg e'] at hv
    exact h.1 p q u v hpq hq e e' hu hv
 ·rw [get,if_pos rfl] at hu;cases hu
  rw [get,if_neg (by omega)] at hv
  by_cases e:q=j
  ·subst e;rw [if_pos rfl] at hv;cases hv;omega
  ·rw [if_neg e] at hv
   exact h.2 q x v (by omega) hqi hx hv
end Go.TM
namespace Go.Proofs
open Go.TM
set_option maxRecDepth 100000
variable {T:Type} {S:TM.Sys Tryz.prog T} {Z:View T}
attribute [local irreducible] CallsV YieldV rngX
theorem Tryz.nan_ok (n:Int):CallsV S 172 #[.int .i64 n] (λ v Z'=>v=.bool false/\Z'=Z) Z:=by
 refine CallsV.pure' (CallsV.of (args:=[_]) Tryz.k172 Tryz.mixed (by simp) ?_)
 repeat refine⟨rfl,?_⟩
 conv=>whnf
 exact⟨by simp,(View.le.refl _).lg⟩
theorem Tryz.less_ok (a b:Int):CallsV S 143 #[.int .i64 a,.int .i64 b] (λ v Z'=>v=.bool (decide (a<b))/\Z'=Z) Z:=by
 refine CallsV.pure' (CallsV.of (args:=[_,_]) Tryz.k143 Tryz.mixed (by simp) ?_)
 refine⟨Tryz.k172.any,(Tryz.nan_ok a).mono ?_⟩
 rintro _ Z' ⟨rfl,rfl⟩ -
 repeat refine⟨rfl,?_⟩
 conv=>whnf
 exact (View.le.refl _).lg
theorem sidx_of {s:ByteArray} {n:Nat} {K:UInt8->Prop} (h:n<s.size) (hK:∀c,K c):∃(j:Nat) (b:UInt8),((n:Int)=j/\s[j]?=some b)/\K b:=
 ⟨n,_,⟨rfl,getElem?_pos s n h⟩,hK _⟩
theorem Tryz.bits_ok (n:Nat) (hn:n<256):CallsV S 147 #[.int .u64 n] (λ v Z'=>(∃m,v=.int .i64 m)/\Z'=Z) Z:=by
 refine CallsV.pure' (CallsV.of (args:=[_]) Tryz.k147 Tryz.mixed (by simp) ?_)
 repeat refine⟨rfl,?_⟩
 conv=>whnf
 apply cb_split<;>intro hc
 ·simp at hc;omega
 repeat refine⟨rfl,?_⟩
 conv=>whnf
 apply cb_split<;>intro hc
 ·simp at hc;omega
 repeat refine⟨rfl,?_⟩
 conv=>whnf
 apply cb_split<;>intro hc
 ·simp at hc;omega
 conv=>whnf
 have hw:IntKind.wrap .u8 (n:Int)=n:=by
  have e1:(2:Int) ^ 8=256:=by decide
  simp only [IntKind.wrap,IntKind.bits,IntKind.signed,Bool.false_and,e1]
  simp
  omega
 rw [hw]
 refine sidx_of (by exact hn) λ c=>?_
 have hc:=c.toNat_lt
 have hw2:IntKind.wrap .i64 (c.toNat:Int)=c.toNat:=wrap_inR (by unfold InR;omega)
 conv=>whnf
 rw [hw2]
 refine⟨by unfold InR;omega,?_⟩
 conv=>whnf
 exact⟨⟨_,rfl⟩,(View.le.refl _).lg⟩
end Go.Proofs
namespace Go.TM
variable {T:Type} {Z:View T}
theorem sees_at {b k:Nat} {c:Array Value} {e:TypeId} {v:Value} {M₀:List Res} (hM:Z.M=.obj b (.cells c e (0,0))::M₀) (h:c[k]?=some v):Z.sees ((Addr.mk b 0 none).add (k*1)) v:=by
 rw [Nat.mul_one,add_none]
 exact⟨rfl,.inl ⟨c,e,(0,0),.inr (by rw [hM];exact List.mem_cons_self ..),by simpa using h⟩⟩
theorem SrtTo.le {l:List Int} {i j:Nat} (h:SrtTo l i) (hij:j<=i):SrtTo l j:=λ p q x y h1 h2=>h p q x y h1 (by omega)
def CellsI (c:Array Value) (l:List Int):Prop:=∀(k:Nat) (x:Int),l[k]?=some x->c[k]?=some (.int .i64 x)
theorem CellsI.set {c:Array Value} {l:List Int} (h:CellsI c l) (hl:l.length<=c.size) (i:Nat) (x:Int):CellsI (c.setIfInBounds i (.int .i64 x)) (l.set i x):=by
 intro k y hy
 rw [List.getElem?_set] at hy
 by_cases e:i=k
 ·subst e
  rw [if_pos rfl] at hy
  split at hy
  ·cases hy
   rw [Array.getElem?_setIfInBounds_self_of_lt (by omega)]
  ·cases hy
 ·rw [if_neg e] at hy
  rw [Array.getElem?_setIfInBounds_ne e]
  exact h k y hy
theorem swap_perm {l:List Int} {j:Nat} {x y:Int} (h0:0<j) (hx:l[j]?=some x) (hy:l[j-1]?=some y):((l.set j y).set (j-1) x).Perm l:=by
 obtain⟨h1,rfl⟩:=List.getElem?_eq_some_iff.1 hx
 obtain⟨h2,rfl⟩:=List.getElem?_eq_some_iff.1 hy
 exact List.set_set_perm h1 h2
end Go.TM
namespace Go.Proofs
open Go.TM
set_option maxRecDepth 100000
variable {T:Type} {S:TM.Sys Tryz.prog T} {Z:View T}
attribute [local irreducible] CallsV YieldV rngX
theorem Tryz.isort_ok (b cap:Nat) (l:List Int) (c_0:Array Value) (M₀:List Res) (hM0:Z.M=.obj b (.cells c_0 3 (0,0))::M₀) (hcap:l.length<=cap) (hsz0:c_0.size=cap) (hc_0:CellsI c_0 l) (hn:l.length<2 ^ 40) :
  CallsV S 137 #[.slice (some ⟨b,0,none⟩) l.length cap,.int .i64 0,.int .i64 l.length] (λ _ Z'=>(∀x o,Z.I x=some o->Z'.I x=some o)/\Z'.tok=Z.tok/\∃l' c',l'.Perm l/\SrtTo l' l.length/\Z'.M=.obj b (.cells c' 3 (0,0))::M₀/\c'.size=cap/\CellsI c' l') Z:=by
 refine CallsV.of (args:=[_,_,_]) Tryz.k137 Tryz.mixed (by simp) ?_
 repeat refine⟨rfl,?_⟩
 refine⟨by unfold InR;omega,?_⟩
 refine⟨Nat×List Int×Array Value,λ y=>[(0,.slice (some ⟨b,0,none⟩) l.length cap),(1,.int .i64 0),(2,.int .i64 l.length),(6,.int .i64 y.1)],
  λ y Z'=>(∀x o,Z.I x=some o->Z'.I x=some o)/\Z'.tok=Z.tok/\Z'.M=.obj b (.cells y.2.2 3 (0,0))::M₀/\y.2.2.size=cap/\CellsI y.2.2 y.2.1/\y.2.1.Perm l/\SrtTo y.2.1 y.1/\1<=y.1/\y.1<2 ^ 41,
  λ y=>l.length-y.1,(1,l,c_0),⟨rfl,rfl,rfl,rfl,trivial⟩,⟨λ _ _ h=>h,rfl,hM0,hsz0,hc_0,.refl _,λ p q _ _ h1 h2=>by omega,by simp only;omega,by simp only;omega⟩,?_⟩
 rintro⟨i,cur,c⟩ f Z1 ⟨hI,ht,hM,hsz,hcc,hpm,hst,hi1,hi2⟩
 simp only at hM hsz hcc hpm hst hi1 hi2
 repeat refine⟨rfl,?_⟩
 conv=>whnf
 apply cb_split<;>intro hc
 ·have hlt:i<l.length:=by simpa using hc
  have hin:InR (i+1):=by unfold InR;omega
  refine⟨Nat×List Int×Array Value,λ y=>[(0,.slice (some ⟨b,0,none⟩) l.length cap),(1,.int .i64 0),(2,.int .i64 l.length),(6,.int .i64 i),(7,.int .i64 y.1)],
   λ y Z'=>(∀x o,Z.I x=some o->Z'.I x=some o)/\Z'.tok=Z.tok/\Z'.M=.obj b (.cells y.2.2 3 (0,0))::M₀/\y.2.2.size=cap/\CellsI y.2.2 y.2.1/\y.2.1.Perm l/\SrtBut y.2.1 i y.1/\y.1<=i,
   λ y=>y.1,(i,cur,c),⟨rfl,rfl,rfl,rfl,rfl,trivial⟩,⟨hI,ht,hM,hsz,hcc,hpm,.start hst,by simp only;omega⟩,?_⟩
  rintro⟨j,cur,c⟩ f Z2 ⟨hI,ht,hM,hsz,hcc,hpm,hsb,hj⟩
  simp only at hM hsz hcc hpm hsb hj
  have hcl:=hpm.length_eq
  repeat refine⟨rfl,?_⟩
  conv=>whnf
  apply gb_split<;>intro hc
  ·have h0:0<j:=by simp at hc;omega
   have hx:cur[j]?=some (cur[j]'(by omega)):=by simp
   generalize cur[j]'(by omega)=x at hx
   have hy:cur[j-1]?=some (cur[j-1]'(by omega)):=by simp
   generalize cur[j-1]'(by omega)=y at hy
   have hi1:InR ((j:Int)-1):=by unfold InR;omega
   have hj1:(j:Int)-1=((j-1:Nat):Int):=by omega
   repeat refine⟨rfl,?_⟩
   refine⟨_,j,⟨rfl,rfl,by omega⟩,?_⟩
   refine⟨_,sees_at hM (hcc j x hx),?_⟩
   repeat refine⟨rfl,?_⟩
   refine⟨hi1,?_⟩
   refine⟨_,j-1,⟨rfl,hj1,by omega⟩,?_⟩
   refine⟨_,sees_at hM (hcc (j-1) y hy),?_⟩
   conv=>whnf
   intro Z3 h_3 _
   have hM3:=h_3.own.trans hM
   refine⟨Tryz.k143.any,(Tryz.less_ok x y).go λ _=>?_⟩
   repeat refine⟨rfl,?_⟩
   conv=>whnf
   apply cb_split<;>intro hc
   ·have hxy:x<y:=of_decide_eq_true hc
    refine⟨λ Z'=>(∀x o,Z.I x=some o->Z'.I x=some o)/\Z'.tok=Z.tok/\Z'.M=.obj b (.cells (c.setIfInBounds j (.int .i64 y)) 3 (0,0))::M₀,λ Z Z' ⟨a,b,c⟩ hle=>⟨λ x o h=>hle.imm x o (a x o h),hle.tok.trans b,hle.own.trans c⟩,?_⟩
    refine⟨hi1,?_⟩
    refine⟨hi1,?_⟩
    refine⟨_,j-1,⟨rfl,hj1,by omega⟩,?_⟩
    refine⟨_,sees_at hM3 (hcc (j-1) y hy),?_⟩
    refine⟨_,j,⟨rfl,rfl,by omega⟩,?_⟩
    refine⟨_,sees_at hM3 (hcc j x hx),?_⟩
    refine⟨_,j,⟨rfl,rfl,by omega⟩,?_⟩
    conv=>whnf
    intro Z4 h_4 _
    refine⟨⟨rfl,?_⟩,λ Z5 hG=>?_⟩
    ·show StV ((Addr.mk b 0 none).add (j*1)) [.int .i64 y] 0 _ _
     rw [Nat.mul_one]
     exact st_at [] (h_4.own.trans hM3) (by omega) rfl ⟨rfl,_,.refl _,λ x o h=>h_4.imm x o (h_3.imm x o (hI x o h)),h_4.tok.trans (h_3.tok.trans ht),rfl⟩
    obtain⟨hI5,ht5,hM_5⟩:=hG
    refine⟨_,j-1,⟨rfl,hj1,by omega⟩,?_⟩
    refine⟨rfl,?_⟩
    show StV ((Addr.mk b 0 none).add ((j-1)*1)) [.int .i64 x] 0 _ _
    rw [Nat.mul_one]
    refine st_at [] hM_5 (by simp;omega) rfl ?_
    refine⟨hi1,?_⟩
    conv=>whnf
    exact⟨rfl,(j-1,(cur.set j y).set (j-1) x,(c.setIfInBounds j (.int .i64 y)).setIfInBounds (j-1) (.int .i64 x)),⟨rfl,rfl,rfl,rfl,by rw [<- hj1];rfl,trivial⟩,⟨hI5,ht5,rfl,by simpa using hsz,(hcc.set (by omega) j y).set (by simp;omega) (j-1) x,(swap_perm h0 hx hy).trans hpm,hsb.step hj h0 hx hy hxy,by simp only;omega⟩,by show j-1<j;omega⟩
   ·have hxy:¬x<y:=of_decide_eq_false hc
    refine⟨hin,?_⟩
    conv=>whnf
    exact⟨rfl,(i+1,cur,c),⟨rfl,rfl,rfl,rfl,trivial⟩,⟨λ x o h=>h_3.imm x o (hI x o h),h_3.tok.trans ht,hM3,hsz,hcc,hpm,hsb.done hj (.inr ⟨x,y,hx,hy,by omega⟩),by simp only;omega,by simp only;omega⟩,by show _-_<_-_;omega⟩
  ·have h0:j=0:=by simp at hc;omega
   conv=>whnf
   intro Z3 h_3 _
   have hM3:=h_3.own.trans hM
   repeat refine⟨rfl,?_⟩
   refine⟨hin,?_⟩
   conv=>whnf
   exact⟨rfl,(i+1,cur,c),⟨rfl,rfl,rfl,rfl,trivial⟩,⟨λ x o h=>h_3.imm x o (hI x o h),h_3.tok.trans ht,hM3,hsz,hcc,hpm,hsb.done hj (.inl h0),by simp only;omega,by simp only;omega⟩,by show _-_<_-_;omega⟩
 ·have hge:l.length<=i:=by simpa using hc
  repeat refine⟨rfl,?_⟩
  conv=>whnf
  exact⟨hI,ht,cur,c,hpm,hst.le hge,hM,hsz,hcc⟩
theorem Tryz.isort_nil:CallsV S 137 #[.slice none 0 0,.int .i64 0,.int .i64 (0:Nat)] (λ _ Z'=>Z'=Z) Z:=by
 refine (CallsV.pure' (Q:=λ _=>True) (CallsV.of (args:=[_,_,_]) Tryz.k137 Tryz.mixed (by simp) ?_)).mono λ _ _ h=>h.2
 repeat refine⟨rfl,?_⟩
 refine⟨by unfold InR;omega,?_⟩
 refine⟨Unit,λ _=>[(2,.int .i64 (0:Nat)),(6,.int .i64 1)],λ _ Z'=>Z'=Z,λ _=>0,(),⟨rfl,rfl,trivial⟩,rfl,?_⟩
 rintro _ f _ rfl
 repeat refine⟨rfl,?_⟩
 conv=>whnf
 exact⟨trivial,(View.le.refl _).lg⟩
theorem Tryz.bitsLen_ok (n:Nat) (hn:n<256):CallsV S 111 #[.int .u64 n] (λ v Z'=>(∃m,v=.int .i64 m)/\Z'=Z) Z:=by
 refine CallsV.pure' (CallsV.of (args:=[_]) Tryz.k111 Tryz.mixed (by simp) ?_)
 refine⟨Tryz.k147.any,(Tryz.bits_ok n hn).mono ?_⟩
 rintro _ Z' ⟨⟨m,rfl⟩,rfl⟩ -
 repeat refine⟨rfl,?_⟩
 conv=>whnf
 exact⟨⟨_,rfl⟩,(View.le.refl _).lg⟩
theorem Tryz.pdq_ok (v:Value) (l:List Int) (M₀:List Res) (m:Int) (ha:Acc 3 1 v (l.map λ n=>.int .i64 n) Z.M M₀) (hlen:l.length<=12) :
  CallsV S 110 #[v,.int .i64 0,.int .i64 l.length,.int .i64 m] (λ _ Z'=>(∀x o,Z.I x=some o->Z'.I x=some o)/\Z'.tok=Z.tok/\∃l',l'.Perm l/\SrtTo l' l.length/\Acc 3 1 v (l'.map λ n=>.int .i64 n) Z'.M M₀) Z:=by
 obtain⟨sa,sc,rfl,-⟩:=src_ints ha
 refine CallsV.of (args:=[_,_,_,_]) Tryz.k110 Tryz.mixed (by simp) ?_
 repeat refine⟨rfl,?_⟩
 refine⟨Unit,λ _=>[(0,.slice sa l.length sc),(1,.int .i64 0),(2,.int .i64 l.length),(3,.int .i64 m)],λ _ Z'=>Z'=Z,λ _=>0,(),⟨rfl,rfl,rfl,rfl,trivial⟩,rfl,?_⟩
 rintro _ f Z' hZ'
 obtain rfl:=hZ'.symm
 repeat refine⟨rfl,?_⟩
 refine⟨by unfold InR;omega,?_⟩
 repeat refine⟨rfl,?_⟩
 conv=>whnf
 apply cb_split<;>intro hc
 ·conv=>whnf
  rcases ha with⟨h1,h2,hM⟩ | ⟨b,c,len,cap,h1,h2,h3,h4,hM,h5⟩
  ·rw [List.map_eq_nil_iff] at h2
   subst h2
   cases h1
   refine⟨Tryz.k137.any,Tryz.isort_nil.mono ?_⟩
   rintro _ Z' hZ' -
   obtain rfl:=hZ'.symm
   repeat refine⟨rfl,?_⟩
   conv=>whnf
   exact⟨λ _ _ h=>h,rfl,[],.refl _,λ p q _ _ h1 h2=>by simp at h2,.inl ⟨rfl,rfl,hM⟩⟩
  ·cases h1
   refine⟨Tryz.k137.any,(Tryz.isort_ok b sc l c M₀ hM h3 (by omega) (λ k x hx=>h5 k _ (by simp [hx])) (by omega)).mono ?_⟩
   rintro v Z' ⟨hI,ht,l',c',hp,hs,hM',hsz,hcc⟩ -
   repeat refine⟨rfl,?_⟩
   refine⟨hI,ht,l',hp,hs,.inr ⟨b,c',l.length,sc,rfl,by simp [hp.length_eq],h3,by omega,hM',λ k x hx=>?_⟩⟩
   rw [List.getElem?_map] at hx
   cases hy:l'[k]? with
   | none=>rw [hy] at hx;cases hx
   | some y=>rw [hy] at hx;cases hx;exact hcc k y hy
 ·simp at hc;omega
theorem Tryz.sort_ok (v:Value) (l:List Int) (M₀:List Res) (ha:Acc 3 1 v (l.map λ n=>.int .i64 n) Z.M M₀) (hlen:l.length<=12) :
  CallsV S 66 #[v] (λ _ Z'=>(∀x o,Z.I x=some o->Z'.I x=some o)/\Z'.tok=Z.tok/\∃l',l'.Perm l/\SrtTo l' l.length/\Acc 3 1 v (l'.map λ n=>.int .i64 n) Z'.M M₀) Z:=by
 obtain⟨sa,sc,rfl,-⟩:=src_ints ha
 refine CallsV.of (args:=[_]) Tryz.k66 Tryz.mixed (by simp) ?_
 have hw:IntKind.wrap .u64 (l.length:Int)=l.length:=by
  have e1:(2:Int) ^ 64=18446744073709551616:=by decide
  simp only [IntKind.wrap,IntKind.bits,IntKind.signed,Bool.false_and,e1]
  simp
  omega
 conv=>whnf
 rw [hw]
 refine⟨Tryz.k111.any,(Tryz.bitsLen_ok l.length (by omega)).mono ?_⟩
 rintro _ Z' ⟨⟨m,rfl⟩,hZ'⟩ -
 obtain rfl:=hZ'.symm
 refine⟨Tryz.k110.any,(Tryz.pdq_ok _ l M₀ m ha hlen).mono ?_⟩
 rintro v Z' hq -
 cases v <;> (conv=>whnf) <;> exact hq
end Go.Proofs
namespace Go.TM
variable {T:Type} {Z:View T}
def cpt:Option Int->List Int->List Int
 | _,[]=>[]
 | p,x::r=>if p=some x then cpt (some x) r else x::cpt (some x) r
theorem cpt_snoc (x y:Int):∀(l:List Int) (p:Option Int),cpt p (l++[y]++[x])=cpt p (l++[y])++(if y=x then [] else [x])
 | [],p=>by
  simp only [List.nil_append,List.singleton_append,cpt]
  by_cases e:y=x
  ·subst e;simp
  ·simp only [Option.some.injEq,if_neg e]
   by_cases e':p=some y <;> simp [e']
 | a::l,p=>by
  simp only [List.cons_append,cpt]
  have:=cpt_snoc x y l (some a)
  by_cases e:p=some a
  ·rw [if_pos e,if_pos e];exact this
  ·rw [if_neg e,if_neg e,List.cons_append];rw [<- this]
theorem cpt_take {l:List Int} {j:Nat} {x y:Int} (h0:0<j) (hx:l[j]?=some x) (hy:l[j-1]?=some y):cpt none (l.take (j+1))=cpt none (l.take j)++(if y=x then [] else [x]):=by
 have e:l.take j=l.take (j-1)++[y]:=by
  have:=take_at hy
  rwa [show j-1+1=j by omega] at this
 rw [take_at hx,e]
 exact cpt_snoc x y _ _
end Go.TM
namespace Go.Proofs
open Go.TM
set_option maxRecDepth 100000
variable {T:Type} {S:TM.Sys Tryz.prog T} {Z:View T}
attribute [local irreducible] CallsV YieldV rngX
theorem sees_off {b i k:Nat} {c:Array Value} {e:TypeId} {v:Value} {M₀:List Res} (hM:Z.M=.obj b (.cells c e (0,0))::M₀) (h:c[i+k]?=some v):Z.sees ((Addr.mk b i none).add (k*1)) v:=by
 rw [Nat.mul_one,add_none]
 exact⟨rfl,.inl ⟨c,e,(0,0),.inr (by rw [hM];exact List.mem_cons_self ..),by simpa using h⟩⟩
theorem Tryz.compact_ok (v:Value) (l:List Int) (M₀:List Res) (ha:Acc 3 1 v (l.map λ n=>.int .i64 n) Z.M M₀) (hlen:l.length<=1000000) :
  CallsV S 67 #[v] (λ v' Z'=>Acc 3 1 v' ((cpt none l).map λ n=>.int .i64 n) Z'.M M₀/\(∀x o,Z.I x=some o->Z'.I x=some o)/\Z'.tok=Z.tok) Z:=by
 obtain⟨sa,sc,rfl,hli⟩:=src_ints ha
 refine CallsV.of (args:=[_]) Tryz.k67 Tryz.mixed (by simp) ?_
 repeat refine⟨rfl,?_⟩
 conv=>whnf
 apply cb_split<;>intro hc
 ·have hsm:l.length<2:=by have:=of_decide_eq_true hc;omega
  repeat refine⟨rfl,?_⟩
  refine⟨?_,λ _ _ h=>h,rfl⟩
  have:cpt none l=l:=by
   match l,hsm with
   | [],_=>rfl
   | [x],_=>rfl
  rw [this];exact ha
 have hbg:2<=l.length:=by have:=of_decide_eq_false hc;omega
 rcases ha with⟨h1,h2,_⟩ | ⟨b,c,len,cap,h1,h2,h3,h4,hM,h5⟩
 ·rw [List.map_eq_nil_iff] at h2;subst h2;simp at hbg
 cases h1
 have hcc:CellsI c l:=λ k x hx=>h5 k _ (by simp [hx])
 have hsz:c.size=sc:=by omega
 refine⟨Nat,λ i=>[(0,.slice (some ⟨b,0,none⟩) l.length sc),(3,.int .i64 i)],λ i Z'=>Z.le Z'/\1<=i/\i<=l.length/\cpt none (l.take i)=l.take i,λ i=>l.length-i,1,⟨rfl,rfl,trivial⟩,⟨.refl _,by omega,by omega,?_⟩,?_⟩
 ·match l,hbg with
  | x::r,_=>rfl
 rintro i f Z1 ⟨h_1,hi1,hi,hk⟩
 have hM_1:=h_1.own.trans hM
 repeat refine⟨rfl,?_⟩
 conv=>whnf
 apply cb_split<;>intro hc
 ·have hlt:i<l.length:=by simpa using hc
  have hx:l[i]?=some (l[i]'hlt):=by simp
  generalize l[i]'hlt=x at hx
  have hy:l[i-1]?=some (l[i-1]'(by omega)):=by simp
  generalize l[i-1]'(by omega)=y at hy
  have hj1:(i:Int)-1=((i-1:Nat):Int):=by omega
  have hin:InR (i+1):=by unfold InR;omega
  have hks:=cpt_take (by omega) hx hy
  refine⟨_,i,⟨rfl,rfl,hlt⟩,?_⟩
  refine⟨_,sees_at hM_1 (hcc i x hx),?_⟩
  refine⟨by unfold InR;omega,?_⟩
  refine⟨_,i-1,⟨rfl,hj1,by omega⟩,?_⟩
  refine⟨_,sees_at hM_1 (hcc (i-1) y hy),?_⟩
  conv=>whnf
  intro Z2 h_2 _
  have hM2:=h_2.own.trans hM_1
  have h_12:=h_1.trans h_2
  repeat refine⟨rfl,?_⟩
  conv=>whnf
  apply cb_split<;>intro hc
  ·have hxy:y=x:=by have:x=y:=by simpa using hc
                    exact this.symm
   rw [if_pos hxy,List.append_nil,hk] at hks
   refine⟨i,l.length,⟨rfl,rfl,by omega,by omega⟩,?_⟩
   have hadr:(if sc=i then some (Addr.mk b 0 none) else (some (Addr.mk b 0 none)).map (·.add (i*1)))=some ⟨b,i,none⟩:=by
    rw [if_neg (by omega)];simp [add_none]
   rw [hadr]
   refine⟨Nat×Nat×Array Value,λ y=>[(0,.slice (some ⟨b,0,none⟩) l.length sc),(3,.int .i64 y.2.1),(4,.slice (some ⟨b,i,none⟩) (l.length-i) (sc-i)),(5,.int .i64 y.1)],
    λ y Z'=>(∀x o,Z.I x=some o->Z'.I x=some o)/\Z'.tok=Z.tok/\Z'.M=.obj b (.cells y.2.2 3 (0,0))::M₀/\y.2.2.size=sc/\1<=y.1/\i+y.1<=l.length/\y.2.1<i+y.1/\(cpt none (l.take (i+y.1))).length=y.2.1 /\
     (∀(k:Nat) (z:Int),(cpt none (l.take (i+y.1)))[k]?=some z->y.2.2[k]?=some (.int .i64 z))/\(∀(k:Nat) (z:Int),i+y.1<=k+1->l[k]?=some z->y.2.2[k]?=some (.int .i64 z)),
    λ y=>l.length-y.1,(1,i,c),⟨rfl,rfl,rfl,rfl,trivial⟩,⟨h_12.imm,h_12.tok,hM2,hsz,by simp only;omega,by simp only;omega,by simp only;omega,by simp only [hks];simp;omega,λ k z hz=>?_,λ k z _ hz=>hcc k z hz⟩,?_⟩
   ·simp only [hks] at hz
    rw [List.getElem?_take] at hz
    split at hz
    ·exact hcc k z hz
    ·cases hz
   rintro⟨j,w,c'⟩ f Z3 ⟨hI,ht,hM3,hsz3,hj1,hjl,hwj,hkl,hk1,hk2⟩
   simp only at hM3 hsz3 hj1 hjl hwj hkl hk1 hk2
   repeat refine⟨rfl,?_⟩
   conv=>whnf
   apply cb_split<;>intro hc
   ·have hlt:i+j<l.length:=by have:=of_decide_eq_true hc;omega
    have hx:l[i+j]?=some (l[i+j]'hlt):=by simp
    generalize l[i+j]'hlt=x at hx
    have hy:l[i+j-1]?=some (l[i+j-1]'(by omega)):=by simp
    generalize l[i+j-1]'(by omega)=y at hy
    have hj1':(j:Int)-1=((j-1:Nat):Int):=by omega
    have hjn:InR (j+1):=by unfold InR;omega
    have hwn:InR (w+1):=by unfold InR;omega
    have hstep:=cpt_take (by omega) hx hy
    have hcx:=hk2 (i+j) x (by omega) hx
    refine⟨_,j,⟨rfl,rfl,by omega⟩,?_⟩
    refine⟨_,sees_off hM3 hcx,?_⟩
    refine⟨by unfold InR;omega,?_⟩
    refine⟨_,j-1,⟨rfl,hj1',by omega⟩,?_⟩
    refine⟨_,sees_off hM3 (by rw [show i+(j-1)=i+j-1 by omega];exact hk2 (i+j-1) y (by omega) hy),?_⟩
    conv=>whnf
    intro Z4 h_4 _
    have hM4:=h_4.own.trans hM3
    repeat refine⟨rfl,?_⟩
    conv=>whnf
    apply cb_split<;>intro hc
    ·have hxy:¬y=x:=by intro e;subst e;simp at hc
     rw [if_neg hxy] at hstep
     refine⟨_,j,⟨rfl,rfl,by omega⟩,?_⟩
     refine⟨_,sees_off hM4 hcx,?_⟩
     refine⟨_,w,⟨rfl,rfl,by omega⟩,?_⟩
     refine⟨rfl,?_⟩
     show StV ((Addr.mk b 0 none).add (w*1)) [.int .i64 x] 0 _ _
     rw [Nat.mul_one]
     refine st_at [] hM4 (by omega) rfl ?_
     refine⟨hwn,?_⟩
     refine⟨hjn,?_⟩
     refine⟨rfl,(j+1,w+1,c'.setIfInBounds w (.int .i64 x)),⟨rfl,rfl,rfl,rfl,trivial⟩,⟨λ x o h=>h_4.imm x o (hI x o h),h_4.tok.trans ht,rfl,by simpa using hsz3,by simp only;omega,by simp only;omega,by simp only;omega,?_,λ k z hz=>?_,λ k z hk hz=>?_⟩,by show _-_<_-_;omega⟩
     ·show (cpt none (l.take (i+(j+1)))).length=w+1
      rw [<- Nat.add_assoc,hstep];simp [hkl]
     ·simp only at hz
      rw [<- Nat.add_assoc,hstep] at hz
      by_cases e:k<w
      ·rw [List.getElem?_append_left (by omega)] at hz
       rw [Array.getElem?_setIfInBounds_ne (by omega)]
       exact hk1 k z hz
      ·rw [List.getElem?_append_right (by omega),hkl] at hz
       have:k=w:=by
        have:=(List.getElem?_eq_some_iff.1 hz).1
        simp at this;omega
       subst this
       simp at hz
       subst hz
       rw [Array.getElem?_setIfInBounds_self_of_lt (by omega)]
     ·simp only at hk
      rw [Array.getElem?_setIfInBounds_ne (by omega)]
      exact hk2 k z (by omega) hz
    ·have hxy:y=x:=by
      have h:x=y:=by simpa using hc
      exact h.symm
     rw [if_pos hxy,List.append_nil] at hstep
     refine⟨hjn,?_⟩
     refine⟨rfl,(j+1,w,c'),⟨rfl,rfl,rfl,rfl,trivial⟩,⟨λ x o h=>h_4.imm x o (hI x o h),h_4.tok.trans ht,hM4,hsz3,by simp only;omega,by simp only;omega,by simp only;omega,?_,λ k z hz=>?_,λ k z hk hz=>hk2 k z (by simp only at hk;omega) hz⟩,by show _-_<_-_;omega⟩
     ·show (cpt none (l.take (i+(j+1)))).length=w
      rw [<- Nat.add_assoc,hstep];exact hkl
     ·simp only at hz
      rw [<- Nat.add_assoc,hstep] at hz
      exact hk1 k z hz
   ·have hge:i+j=l.length:=by have:=of_decide_eq_false hc;omega
    rw [hge,List.take_of_length_le (Nat.le_refl _)] at hkl hk1
    refine⟨w,l.length,⟨rfl,rfl,by omega,by omega⟩,?_⟩
    have hadr:(if sc=w then some (Addr.mk b 0 none) else (some (Addr.mk b 0 none)).map (·.add (w*1)))=some ⟨b,w,none⟩:=by
     rw [if_neg (by omega)];simp [add_none]
    rw [hadr]
    conv=>whnf
    obtain⟨inf,hi1,hi2,hi3,hi4⟩:=Tryz.i3
    refine raw_clear (len:=l.length-w) (cap:=sc-w) (off:=w) (b:=b) Tryz.u27 hi1 hi2 (n:=1) rfl ?_ rfl hM3 (by omega) ?_
    ·rw [zeroCells_one rfl]
     intro w hw
     rw [List.eq_of_mem_replicate hw];rfl
    rw [zeroCells_one rfl]
    refine⟨0,w,⟨rfl,rfl,by omega,by omega⟩,?_⟩
    have hadr2:(if sc=0 then some (Addr.mk b 0 none) else (some (Addr.mk b 0 none)).map (·.add (0*1)))=some ⟨b,0,none⟩:=by
     rw [if_neg (by omega)];simp [add_none]
    rw [hadr2]
    repeat refine⟨rfl,?_⟩
    refine⟨?_,hI,ht⟩
    refine .inr ⟨b,_,w,sc,rfl,by simp [hkl],by omega,by rw [layAt_size];omega,rfl,λ k x hx=>?_⟩
    rw [layAt_get _ _ _ _ _ (by simp;omega),if_neg]
    ·rw [List.getElem?_map] at hx
     cases hy:(cpt none l)[k]? with
     | none=>rw [hy] at hx;cases hx
     | some y=>rw [hy] at hx;cases hx;exact hk1 k y hy
    ·have:=(List.getElem?_eq_some_iff.1 hx).1
     simp at this
     omega
  ·have hxy:¬y=x:=by intro e;subst e;simp at hc
   rw [if_neg hxy,hk] at hks
   refine⟨hin,?_⟩
   conv=>whnf
   exact⟨rfl,i+1,⟨rfl,rfl,trivial⟩,⟨h_12,by omega,by omega,by rw [hks,take_at hx]⟩,by show _-_<_-_;omega⟩
 ·have hge:l.length<=i:=by simpa using hc
  rw [List.take_of_length_le hge] at hk
  repeat refine⟨rfl,?_⟩
  refine⟨?_,h_1.imm,h_1.tok⟩
  rw [hk]
  exact .inr ⟨b,c,l.length,sc,rfl,by simp,h3,h4,hM_1,h5⟩
end Go.Proofs
namespace Go.TM
variable {T:Type} {P:Program} {S:Sys P T} {Z:View T}
theorem CallsV.listedE {f:FuncId} {args:Array Value} {F:Int} {R:List Int->Prop} (h:CallsV S f args (λ v Z'=>∃v1 l,v=.tuple #[v1,.int .i64 F]/\R l/\Acc 3 1 v1 (l.map λ n=>.int .i64 n) Z'.M Z.M/\(∀x ox,Z.I x=some ox->Z'.I x=some ox)/\Z'.tok=Z.tok) Z) :
  CallsV S f args (λ v Z'=>(∃v1 l,v=.tuple #[v1,.int .i64 F]/\R l/\IntsV Z'.frz v1 l)/\Z.le Z') Z:=by
 refine h.sep λ v Z' hs ⟨v1,l,hv,hr,ha,hI,ht⟩=>?_
 obtain⟨Z'',k1,k2,a,len,cap,rfl,hl,hsrc,hsp,_⟩:=ha.freeze hs hI ht
 simp at hl
 exact⟨Z'',k1,⟨_,l,hv,hr,a,cap,by rw [hl],ints_src hsrc hsp⟩,k2⟩
theorem Acc.own {e n:Nat} {v:Value} {cs:List Value} {M M₀:List Res} (h:Acc e n v cs M M₀):∃A,M=A++M₀:=by
 rcases h with⟨_,_,rfl⟩ | ⟨b,c,len,cap,_,_,_,_,rfl,_⟩
 ·exact⟨[],rfl⟩
 ·exact⟨[_],rfl⟩
def Tbl.clsAt (t:Tbl) (e n:Int):Int:=(((t.items e)[n.toNat]?).map (·.cls)).getD 0
def Tbl.ClsOut (t:Tbl) (e:Int) (l out:List Int):Prop:=if t.openF e [l]=0 then ∃l',l'.Perm (l.map (t.clsAt e))/\SrtTo l' l'.length/\out=cpt none l' else out=[]
theorem chk_len {t:Tbl} (hf:t.flaw=0) {e:Int}:∀{l:List Int} {p:Option Int},t.chk e p l=0->(∀m,p=some m->0<=m)->l=[]\/(match p with | some m=>m+l.length<=7 | none=>l.length<=8)
 | [],_,_,_=>.inl rfl
 | a::l,p,h,hp=>by
  rw [Tbl.chk_cons] at h
  split at h
  ·rename_i hi
   have ha:=Tbl.item_lt hf hi
   right
   have key:t.chk e (some a) l=0->a+(l.length+1:Int)<=8:=λ h=>by
    rcases chk_len hf h (λ m hm=>by cases hm;exact ha.1) with rfl | h2
    ·simp;omega
    ·simp only at h2;omega
   cases p with
   | none=>simp only at h ⊢;have:=key h;simp;omega
   | some m=>
    simp only at h ⊢
    split at h
    ·cases h
    ·have:=key h;simp;omega
  ·cases h
theorem Tbl.open_one {t:Tbl} {e:Int} {l:List Int} (h:t.openF e [l]=0):t.flaw=0/\t.isEd e=true/\t.chk e none l=0:=by
 unfold Tbl.openF at h
 split at h
 ·split at h
  ·unfold Tbl.chkAll at h
   split at h
   ·exact⟨‹_›,‹_›,‹_›⟩
   ·exact absurd h ‹_›
  ·cases h
 ·exact absurd h ‹_›
end Go.TM
namespace Go.Proofs
open Go.TM
set_option maxRecDepth 100000
variable {T:Type} {S:TM.Sys Tryz.prog T} {Z:View T}
attribute [local irreducible] CallsV YieldV rngX
theorem Tryz.Classes_ok (h:TH) (t:Tbl) (ht:TabV Z h t) (e:Int) (a:Option Addr) (len cap:Nat) (l:List Int) (hl:Ints Z a len l) (hlen:len<2 ^ 60) :
  CallsV S 27 #[h.v,.int .i64 e,.slice a len cap] (λ v Z'=>(∃v1 out,v=.tuple #[v1,.int .i64 (t.openF e [l])]/\t.ClsOut e l out/\IntsV Z'.frz v1 out)/\Z.le Z') Z:=by
 refine CallsV.listedE (CallsV.of (args:=[_,_,_]) Tryz.k27 Tryz.mixed (by simp) ?_)
 have hll:=hl.1
 repeat refine⟨rfl,?_⟩
 conv=>whnf
 intro b3 Z1 h_1 hb_3
 refine⟨_,⟨rfl,hb_3.rdT λ _ _ h=>h⟩,?_⟩
 conv=>whnf
 intro b17 hf17
 refine put_new hf17 λ Z2 h_2 hb_17=>?_
 have hb_17:Blk Z2 b17 #[.slice a len cap]:=hb_17
 have hle_2:=h_1.trans h_2
 refine⟨Tryz.k64.any,(Tryz.open_ok h t (ht.lg hle_2.lg) e (some ⟨b17,0,none⟩) 1 1 [l] (.one hb_17 (hl.lg hle_2.lg) hlen) (by omega)).go λ _=>?_⟩
 conv=>whnf
 intro b8 hf8
 refine⟨_,.refl _,?_⟩
 refine⟨rfl,st_new (vs:=[.slice h.ea h.el h.ec,.slice h.ma h.ml h.mc,.slice h.ka h.kl h.kc]) hf8 rfl (by simp [Value.single]) λ Z3 h_3 hb8=>?_⟩
 have hle_3:=hle_2.trans h_3
 have ht3:=ht.lg hle_3.lg
 repeat refine⟨rfl,?_⟩
 conv=>whnf
 apply cb_split<;>intro hc
 ·have hf:t.openF e [l]≠0:=by simpa using hc
  repeat refine⟨rfl,?_⟩
  conv=>whnf
  exact⟨_,[],rfl,by unfold Tbl.ClsOut;rw [if_neg hf],by rw [hle_3.own];exact .nil,hle_3.imm,hle_3.tok⟩
 have hf:t.openF e [l]=0:=by simpa using hc
 obtain⟨hfl,hed,hch⟩:=Tbl.open_one hf
 have hl8:l.length<=8:=by
  rcases chk_len hfl hch (by simp) with rfl | h
  ·simp
  ·exact h
 refine⟨Nat×Value,λ y=>[(1,.int .i64 e),(2,.slice a len cap),(8,.pointer (some ⟨b8,0,none⟩)),(10,y.2),(24,.slice a len cap),(25,.int .i64 len),(26,.int .i64 y.1)],
  λ y Z'=>Z3.lg Z'/\(∀x o,Z.I x=some o->Z'.I x=some o)/\Z'.tok=Z.tok/\Acc 3 1 y.2 (((l.take y.1).map (t.clsAt e)).map λ n=>.int .i64 n) Z'.M Z.M/\y.1<=len,λ y=>len-y.1,(0,.slice none 0 0),⟨rfl,rfl,rfl,rfl,rfl,rfl,rfl,trivial⟩,⟨(View.le.refl _).lg,hle_3.imm,hle_3.tok,by rw [hle_3.own];exact .nil,by omega⟩,?_⟩
 rintro⟨i,v⟩ f Z4 ⟨hlg4,hI,htk,ha,hi⟩
 simp only at ha hi
 obtain⟨sa,sc,rfl,-⟩:=src_ints ha
 repeat refine⟨rfl,?_⟩
 conv=>whnf
 apply cb_split<;>intro hc
 ·have hlt:i<len:=by simpa using hc
  obtain⟨ad,n,hx,rfl,-,hs⟩:=(hl.lg (hle_3.lg.trans hlg4)).at hlt
  have hni:=chk_items hch n (List.mem_of_getElem? hx)
  have hn8:=Tbl.item_lt hfl hni
  obtain⟨k,rfl⟩:=Int.eq_ofNat_of_zero_le hn8.1
  have hin:InR (i+1):=by unfold InR;omega
  refine⟨ad,i,⟨rfl,rfl,hlt⟩,?_⟩
  refine⟨_,hs,?_⟩
  refine⟨_,⟨rfl,hb8.rdT hlg4.imm⟩,?_⟩
  refine⟨Tryz.k65.any,(Tryz.items_ok h t (ht3.lg hlg4) e).mono ?_⟩
  rintro _ Z' ⟨⟨ia,il,ic,rfl,hit⟩,hZ'⟩ -
  obtain rfl:=hZ'.symm
  have hkl:k<il:=by
   unfold Tbl.isItem btw at hni
   simp only [Bool.and_eq_true,decide_eq_true_eq] at hni
   have:=hit.1
   omega
  obtain⟨ad',it,vs,hxi,rfl,hsp',rfl,-,hrd⟩:=RowsV.at hit hkl
  have hca:t.clsAt e (k:Int)=it.cls:=by unfold Tbl.clsAt;rw [Int.toNat_natCast,hxi];rfl
  refine⟨ad',k,⟨rfl,rfl,hkl⟩,?_⟩
  repeat refine⟨rfl,?_⟩
  refine⟨_,hrd 1 _ rfl,?_⟩
  conv=>whnf
  intro b38 hf38
  refine put_new hf38 λ Z5 h_5 hb38=>?_
  have hb38:Blk Z5 b38 #[.int .i64 it.cls]:=hb38
  conv=>whnf
  refine raw_app (v:=.slice sa _ sc) (cs:=((l.take i).map (t.clsAt e)).map λ n=>.int .i64 n) (new:=[.int .i64 it.cls]) (M₀:=Z.M) Tryz.sl27 rfl rfl (by rw [h_5.own];exact ha) (.inr ⟨_,rfl,hb38.reads (λ k v hv=>by simpa using hv)⟩) rfl (by simp [Value.single]) (by simp;omega) λ v' M' ha' _=>?_
  have ha'':Acc 3 1 v' (((l.take (i+1)).map (t.clsAt e)).map λ n=>.int .i64 n) M' Z.M:=by rw [take_at hx];simpa [hca] using ha'
  obtain⟨ta,tc,rfl,-⟩:=src_ints (Z:={ Z5 with M:=M' }) ha''
  refine⟨hin,?_⟩
  refine⟨rfl,(i+1,.slice ta _ tc),⟨rfl,rfl,rfl,rfl,rfl,rfl,rfl,trivial⟩,⟨?_,λ x o h=>h_5.imm x o (hI x o h),h_5.tok.trans htk,ha'',by omega⟩,by show _-_<_-_;omega⟩
  refine⟨λ x o h=>h_5.imm x o (hlg4.imm x o h),?_,h_5.tok.trans hlg4.tok⟩
  obtain⟨A,hA⟩:=ha''.own
  exact⟨A,by rw [hle_3.own];exact hA⟩
 ·have hge:len<=i:=by simpa using hc
  rw [List.take_of_length_le (by omega)] at ha ⊢
  refine⟨Tryz.k66.any,(Tryz.sort_ok (.slice sa _ sc) (l.map (t.clsAt e)) Z.M ha (by simp;omega)).mono ?_⟩
  rintro v5 Z5 ⟨hI5,ht5,l',hp,hs',ha5⟩ -
  refine⟨Tryz.k67.any,(Tryz.compact_ok (.slice sa _ sc) l' Z.M ha5 (by rw [hp.length_eq];simp;omega)).mono ?_⟩
  rintro v6 Z6 ⟨ha6,hI_6,ht6⟩ -
  obtain⟨ta,tc,rfl,-⟩:=src_ints ha6
  repeat refine⟨rfl,?_⟩
  conv=>whnf
  exact⟨_,cpt none l',by rw [hf];rfl,by unfold Tbl.ClsOut;rw [if_pos hf];exact⟨l',hp,by rw [hp.length_eq];exact hs',rfl⟩,ha6,λ x o h=>hI_6 x o (hI5 x o (hI x o h)),ht6.trans (ht5.trans htk)⟩
end Go.Proofs
namespace Go.TM
variable {T:Type} {Z:View T}
structure Talk where
 ed:Int
 lv:Int
 a:List Int
 b:List Int
structure KH where
 aa:Option Addr
 al:Nat
 ac:Nat
 ba:Option Addr
 bl:Nat
 bc:Nat
def KH.cs (h:TH) (k:KH) (x:Talk):List Value:=[.slice h.ea h.el h.ec,.slice h.ma h.ml h.mc,.slice h.ka h.kl h.kc,.int .i64 x.ed,.int .i64 x.lv,.slice k.aa k.al k.ac,.slice k.ba k.bl k.bc]
abbrev KH.v (h:TH) (k:KH) (x:Talk):Value:=.agg #[.slice h.ea h.el h.ec,.slice h.ma h.ml h.mc,.slice h.ka h.kl h.kc,.int .i64 x.ed,.int .i64 x.lv,.slice k.aa k.al k.ac,.slice k.ba k.bl k.bc]
def Tbl.talkF (t:Tbl) (e:Int) (a b:List Int) (lv:Int):Int:=if t.openF e [a,b]=0 then (if btw lv 1 5 then 0 else 1) else t.openF e [a,b]
end Go.TM
namespace Go.Proofs
open Go.TM
set_option maxRecDepth 100000
variable {T:Type} {S:TM.Sys Tryz.prog T} {Z:View T}
attribute [local irreducible] CallsV YieldV rngX
set_option maxHeartbeats 2000000 in
theorem Tryz.talk_ok (h:TH) (t:Tbl) (ht:TabV Z h t) (e lv:Int) (a a':Option Addr) (len cap len' cap':Nat) (l l':List Int) (hl:Ints Z a len l) (hl':Ints Z a' len' l') (hlen:len<2 ^ 60) (hlen':len'<2 ^ 60) :
  CallsV S 90 #[h.v,.int .i64 e,.slice a len cap,.slice a' len' cap',.int .i64 lv] (λ v Z'=>v=.tuple #[KH.v h ⟨a,len,cap,a',len',cap'⟩ ⟨e,lv,l,l'⟩,.int .i64 (t.talkF e l l' lv)]/\Z'=Z) Z:=by
 refine CallsV.pure' (CallsV.of (args:=[_,_,_,_,_]) Tryz.k90 Tryz.mixed (by simp) ?_)
 repeat refine⟨rfl,?_⟩
 conv=>whnf
 intro b5 Z1 h_1 hb_5
 conv=>whnf
 intro b10 hf10
 refine⟨_,.refl _,?_⟩
 refine⟨_,⟨rfl,hb_5.rdT λ _ _ h=>h⟩,?_⟩
 conv=>whnf
 intro b19 hf19
 refine put_new hf19 λ Z2 h_2 hb_19=>?_
 have hb_19:Blk Z2 b19 #[.slice a len cap,.slice a' len' cap']:=hb_19
 have hlg:Z.lg Z2:=h_1.lg.trans ((lg_put b10 _).trans h_2.lg)
 have hM2:=h_2.own
 refine⟨Tryz.k64.any,(Tryz.open_ok h t (ht.lg hlg) e (some ⟨b19,0,none⟩) 2 2 [l,l'] (.two hb_19 (hl.lg hlg) (hl'.lg hlg) hlen hlen') (by omega)).go λ _=>?_⟩
 conv=>whnf
 intro b12 hf12
 refine⟨_,.refl _,?_⟩
 refine⟨rfl,st_new (vs:=[.slice h.ea h.el h.ec,.slice h.ma h.ml h.mc,.slice h.ka h.kl h.kc]) hf12 rfl (by simp [Value.single]) λ Z3 h_3 hb_12=>?_⟩
 have hlg:=hlg.trans h_3.lg
 have hM3:Z3.M=_:=h_3.own.trans hM2
 repeat refine⟨rfl,?_⟩
 conv=>whnf
 apply gb_split<;>intro hc
 ·have hf:t.openF e [l,l']=0:=by simpa using hc
  refine⟨Tryz.k109.any,(Tryz.between_ok _ lv 1 5).go λ _=>?_⟩
  repeat refine⟨rfl,?_⟩
  conv=>whnf
  apply cb_split<;>intro hc
  ·have hb:btw lv 1 5=false:=by simpa using hc
   have hF:t.talkF e l l' lv=1:=by unfold Tbl.talkF;rw [if_pos hf,hb];rfl
   refine⟨_,⟨rfl,hb_12.rdT λ _ _ h=>h⟩,?_⟩
   refine⟨rfl,st_all (vs:=KH.cs h ⟨a,len,cap,a',len',cap'⟩ ⟨e,lv,l,l'⟩) [] hM3 rfl (by simp [KH.cs,Value.single]) ?_⟩
   refine⟨KH.cs h ⟨a,len,cap,a',len',cap'⟩ ⟨e,lv,l,l'⟩,⟨rfl,reads_at [] rfl⟩,?_⟩
   conv=>whnf
   exact⟨by rw [hF];rfl,λ b o hb=>hlg.imm b o hb,⟨[_],by rw [<- h_1.own];rfl⟩,hlg.tok⟩
  ·have hb:btw lv 1 5=true:=by simpa using hc
   have hF:t.talkF e l l' lv=0:=by unfold Tbl.talkF;rw [if_pos hf,hb];rfl
   refine⟨_,⟨rfl,hb_12.rdT λ _ _ h=>h⟩,?_⟩
   refine⟨rfl,st_all (vs:=KH.cs h ⟨a,len,cap,a',len',cap'⟩ ⟨e,lv,l,l'⟩) [] hM3 rfl (by simp [KH.cs,Value.single]) ?_⟩
   refine⟨KH.cs h ⟨a,len,cap,a',len',cap'⟩ ⟨e,lv,l,l'⟩,⟨rfl,reads_at [] rfl⟩,?_⟩
   conv=>whnf
   exact⟨by rw [hF,hf];rfl,λ b o hb=>hlg.imm b o hb,⟨[_],by rw [<- h_1.own];rfl⟩,hlg.tok⟩
 ·have hf:t.openF e [l,l']≠0:=by simpa using hc
  have hF:t.talkF e l l' lv=t.openF e [l,l']:=by unfold Tbl.talkF;rw [if_neg hf]
  repeat refine⟨rfl,?_⟩
  refine⟨_,⟨rfl,hb_12.rdT λ _ _ h=>h⟩,?_⟩
  refine⟨rfl,st_all (vs:=KH.cs h ⟨a,len,cap,a',len',cap'⟩ ⟨e,lv,l,l'⟩) [] hM3 rfl (by simp [KH.cs,Value.single]) ?_⟩
  refine⟨KH.cs h ⟨a,len,cap,a',len',cap'⟩ ⟨e,lv,l,l'⟩,⟨rfl,reads_at [] rfl⟩,?_⟩
  conv=>whnf
  exact⟨by rw [hF];rfl,λ b o hb=>hlg.imm b o hb,⟨[_],by rw [<- h_1.own];rfl⟩,hlg.tok⟩
end Go.Proofs
namespace Go.TM
variable {T:Type} {Z:View T}
def encA (p:Int×Int):List Value:=[.agg #[.int .i64 p.1,.int .i64 p.2]]
def Tbl.okP (t:Tbl) (k:Talk) (x y:List Int) (one two:Int):Bool:=!(x.contains one || y.contains two || decide (t.lev k.ed one two<k.lv))
def Tbl.reachRow (t:Tbl) (k:Talk) (x y:List Int) (one:Int):List (Int×Int):=(k.b.filter (t.okP k x y one)).map λ two=>(one,two)
def Tbl.reach (t:Tbl) (k:Talk) (x y:List Int):List (Int×Int):=k.a.flatMap (t.reachRow k x y)
theorem flatMap_at {α β:Type} {l:List α} {i m:Nat} {x:α} {z:β} {f:α->List β} (h:l[i]?=some x) (hz:(f x)[m]?=some z):(l.flatMap f)[((l.take i).flatMap f).length+m]?=some z:=by
 have e:l=l.take i++x::l.drop (i+1):=by rw [<- drop_at h,List.take_append_drop]
 conv=>lhs;arg 1;rw [e]
 rw [List.flatMap_append,List.flatMap_cons,List.getElem?_append_right (by omega),Nat.add_sub_cancel_left,List.getElem?_append_left (List.getElem?_eq_some_iff.1 hz).1]
 exact hz
theorem Blk.rdPre {b:Nat} {vs ws:List Value} (h:Blk Z b (vs++ws).toArray):Reads Z ⟨b,0,none⟩ vs:=λ i v hv=>
 h.sees3 (by have:=(List.getElem?_eq_some_iff.1 hv).1;simp [List.getElem?_append_left this,hv])
end Go.TM
namespace Go.Proofs
open Go.TM
set_option maxRecDepth 100000
variable {T:Type} {S:TM.Sys Tryz.prog T} {Z:View T}
attribute [local irreducible] CallsV YieldV rngX
theorem Tryz.pairsIt_ok (h:TH) (t:Tbl) (ht:TabV Z.frz h t) (k:KH) (tk:Talk) (ha:Ints Z.frz k.aa k.al tk.a) (hb:Ints Z.frz k.ba k.bl tk.b) (xa ya:Option Addr) (xl xc yl yc:Nat) (x y:List Int) (hx:Ints Z.frz xa xl x) (hy:Ints Z.frz ya yl y)
  (hal:k.al<2 ^ 60) (hbl:k.bl<2 ^ 60) (hxl:xl<2 ^ 60) (hyl:yl<2 ^ 60) (b3 b4 b5 l:Nat) (hb3:Blk Z.frz b3 (KH.cs h k tk).toArray) (hb4:Blk Z.frz b4 #[.slice xa xl xc]) (hb5:Blk Z.frz b5 #[.slice ya yl yc]) :
  IterV S 129 #[.func (.yield l) #[] #[],.pointer (some ⟨b3,0,none⟩),.pointer (some ⟨b4,0,none⟩),.pointer (some ⟨b5,0,none⟩)] l ((t.reach tk x y).map encA) Z:=by
 intro I E hK hR h0
 refine CallsV.of (args:=[_,_,_,_]) Tryz.k129 Tryz.mixed (by simp) ?_
 have hl0:=hK.lg 0 _ h0
 have hal':=ha.1
 have hbl':=hb.1
 have hb3:Blk Z.frz b3 #[.slice h.ea h.el h.ec,.slice h.ma h.ml h.mc,.slice h.ka h.kl h.kc,.int .i64 tk.ed,.int .i64 tk.lv,.slice k.aa k.al k.ac,.slice k.ba k.bl k.bc]:=hb3
 repeat refine⟨rfl,?_⟩
 refine⟨_,(hb3.lg hl0).sees3 rfl,?_⟩
 repeat refine⟨rfl,?_⟩
 refine⟨Nat,λ i=>[(0,.func (.yield l) #[] #[]),(1,.pointer (some ⟨b3,0,none⟩)),(2,.pointer (some ⟨b4,0,none⟩)),(3,.pointer (some ⟨b5,0,none⟩)),(10,.slice k.aa k.al k.ac),(11,.int .i64 k.al),(12,.int .i64 i)],
  λ i Z'=>I (((tk.a.take i).flatMap (t.reachRow tk x y)).length) Z'/\i<=k.al,λ i=>k.al-i,0,⟨rfl,rfl,rfl,rfl,rfl,rfl,rfl,trivial⟩,⟨by simpa using h0,by omega⟩,?_⟩
 rintro i f Z1 ⟨hI,hi⟩
 have hlg:=hK.lg _ _ hI
 repeat refine⟨rfl,?_⟩
 conv=>whnf
 apply cb_split<;>intro hc
 ·have hlt:i<k.al:=by simpa using hc
  obtain⟨ad,one,hone,hae,-,hs⟩:=(ha.lg hlg).at hlt
  have hin:InR (i+1):=by unfold InR;omega
  refine⟨ad,i,⟨hae,rfl,hlt⟩,?_⟩
  refine⟨_,hs,?_⟩
  repeat refine⟨rfl,?_⟩
  refine⟨_,(hb3.lg hlg).sees3 rfl,?_⟩
  repeat refine⟨rfl,?_⟩
  refine⟨Nat,λ j=>[(0,.func (.yield l) #[] #[]),(1,.pointer (some ⟨b3,0,none⟩)),(2,.pointer (some ⟨b4,0,none⟩)),(3,.pointer (some ⟨b5,0,none⟩)),(6,.int .i64 one),(10,.slice k.aa k.al k.ac),(11,.int .i64 k.al),(12,.int .i64 i),(17,.slice k.ba k.bl k.bc),(18,.int .i64 k.bl),(19,.int .i64 j)],
   λ j Z'=>I (((tk.a.take i).flatMap (t.reachRow tk x y)).length+((tk.b.take j).filter (t.okP tk x y one)).length) Z'/\j<=k.bl,λ j=>k.bl-j,0,⟨rfl,rfl,rfl,rfl,rfl,rfl,rfl,rfl,rfl,rfl,rfl,trivial⟩,⟨by simpa using hI,by omega⟩,?_⟩
  rintro j f Z2 ⟨hI,hj⟩
  have hlg:=hK.lg _ _ hI
  repeat refine⟨rfl,?_⟩
  conv=>whnf
  apply cb_split<;>intro hc
  ·have hltj:j<k.bl:=by simpa using hc
   obtain⟨ad',two,htwo,hbe,-,hs'⟩:=(hb.lg hlg).at hltj
   have hjn:InR (j+1):=by unfold InR;omega
   refine⟨ad',j,⟨hbe,rfl,hltj⟩,?_⟩
   refine⟨_,hs',?_⟩
   refine⟨_,(hb4.lg hlg).sees rfl,?_⟩
   refine⟨.bool (x.contains one),λ Z' hle _=>?_,?_⟩
   ·refine⟨Tryz.k85.any,(Tryz.contains_ok xa xl xc x (hx.lg (frz_le hlg hle)) hxl one).mono ?_⟩
    rintro _ Z'' ⟨rfl,hZ⟩ -
    exact⟨rfl,_,.refl _,hZ ▸ .refl _⟩
   repeat refine⟨rfl,?_⟩
   conv=>whnf
   apply gb_split<;>intro hc
   ·have hx1:x.contains one=false:=by simpa using hc
    refine⟨_,(hb5.lg hlg).sees rfl,?_⟩
    refine⟨.bool (y.contains two),λ Z' hle _=>?_,?_⟩
    ·refine⟨Tryz.k85.any,(Tryz.contains_ok ya yl yc y (hy.lg (frz_le hlg hle)) hyl two).mono ?_⟩
     rintro _ Z'' ⟨rfl,hZ⟩ -
     exact⟨rfl,_,.refl _,hZ ▸ .refl _⟩
    repeat refine⟨rfl,?_⟩
    conv=>whnf
    apply gb_split<;>intro hc
    ·have hy1:y.contains two=false:=by simpa using hc
     refine⟨_,⟨rfl,Blk.rdPre (vs:=[.slice h.ea h.el h.ec,.slice h.ma h.ml h.mc,.slice h.ka h.kl h.kc]) (ws:=[.int .i64 tk.ed,.int .i64 tk.lv,.slice k.aa k.al k.ac,.slice k.ba k.bl k.bc]) (hb3.lg hlg)⟩,?_⟩
     refine⟨_,(hb3.lg hlg).sees3 rfl,?_⟩
     refine⟨.int .i64 (t.lev tk.ed one two),λ Z' hle _=>?_,?_⟩
     ·refine⟨Tryz.k124.any,(Tryz.level_ok h t (ht.lg (frz_le hlg hle)) tk.ed one two).mono ?_⟩
      rintro _ Z'' ⟨rfl,hZ⟩ -
      exact⟨rfl,_,.refl _,hZ ▸ .refl _⟩
     refine⟨_,(hb3.lg hlg).sees3 rfl,?_⟩
     conv=>whnf
     intro Z3 hle_3 _
     have hI:=hK.le _ _ _ hle_3 hI
     have hlg:=frz_le hlg hle_3
     repeat refine⟨rfl,?_⟩
     conv=>whnf
     apply cb_split<;>intro hc
     ·have hlt':t.lev tk.ed one two<tk.lv:=by simpa using hc
      have hno:t.okP tk x y one two=false:=by unfold Tbl.okP;rw [hx1,hy1];simp [hlt']
      repeat refine⟨rfl,?_⟩
      refine⟨hjn,?_⟩
      refine⟨rfl,j+1,⟨rfl,rfl,rfl,rfl,rfl,rfl,rfl,rfl,rfl,rfl,rfl,trivial⟩,⟨by rw [take_at htwo,List.filter_append,List.filter_cons,if_neg (by rw [hno];exact Bool.false_ne_true),List.filter_nil,List.append_nil];exact hI,by omega⟩,by show _-_<_-_;omega⟩
     ·have hge':¬t.lev tk.ed one two<tk.lv:=by simpa using hc
      have hok:t.okP tk x y one two=true:=by unfold Tbl.okP;rw [hx1,hy1];simp [hge']
      have hp:((t.reach tk x y).map encA)[((tk.a.take i).flatMap (t.reachRow tk x y)).length+((tk.b.take j).filter (t.okP tk x y one)).length]?=some (encA (one,two)):=by
       rw [List.getElem?_map]
       unfold Tbl.reach
       rw [flatMap_at (z:=(one,two)) hone (by unfold Tbl.reachRow;rw [List.getElem?_map,filter_at htwo hok];rfl)]
       rfl
      conv=>whnf
      refine hR _ _ Z3 _ hp hI (λ Z4 h_4=>?_) (λ Z4 h_4=>?_)
      ·repeat refine⟨rfl,?_⟩
       refine⟨hjn,?_⟩
       refine⟨rfl,j+1,⟨rfl,rfl,rfl,rfl,rfl,rfl,rfl,rfl,rfl,rfl,rfl,trivial⟩,⟨?_,by omega⟩,by show _-_<_-_;omega⟩
       rw [take_at htwo,List.filter_append,List.filter_cons,if_pos hok,List.filter_nil,List.length_append,List.length_singleton,<- Nat.add_assoc]
       exact h_4
      ·repeat refine⟨rfl,?_⟩
       conv=>whnf
       exact .inr h_4
    ·have hy1:y.contains two=true:=by simpa using hc
     conv=>whnf
     intro Z3 hle_3 _
     have hI:=hK.le _ _ _ hle_3 hI
     have hlg:=frz_le hlg hle_3
     have hno:t.okP tk x y one two=false:=by unfold Tbl.okP;rw [hy1];simp
     repeat refine⟨rfl,?_⟩
     refine⟨hjn,?_⟩
     refine⟨rfl,j+1,⟨rfl,rfl,rfl,rfl,rfl,rfl,rfl,rfl,rfl,rfl,rfl,trivial⟩,⟨by rw [take_at htwo,List.filter_append,List.filter_cons,if_neg (by rw [hno];exact Bool.false_ne_true),List.filter_nil,List.append_nil];exact hI,by omega⟩,by show _-_<_-_;omega⟩
   ·have hx1:x.contains one=true:=by simpa using hc
    conv=>whnf
    intro Z3 hle_3 _
    have hI:=hK.le _ _ _ hle_3 hI
    have hlg:=frz_le hlg hle_3
    have hno:t.okP tk x y one two=false:=by unfold Tbl.okP;rw [hx1];simp
    repeat refine⟨rfl,?_⟩
    refine⟨hjn,?_⟩
    refine⟨rfl,j+1,⟨rfl,rfl,rfl,rfl,rfl,rfl,rfl,rfl,rfl,rfl,rfl,trivial⟩,⟨by rw [take_at htwo,List.filter_append,List.filter_cons,if_neg (by rw [hno];exact Bool.false_ne_true),List.filter_nil,List.append_nil];exact hI,by omega⟩,by show _-_<_-_;omega⟩
  ·have hge:k.bl<=j:=by simpa using hc
   rw [List.take_of_length_le (l:=tk.b) (by omega)] at hI
   repeat refine⟨rfl,?_⟩
   refine⟨hin,?_⟩
   refine⟨rfl,i+1,⟨rfl,rfl,rfl,rfl,rfl,rfl,rfl,trivial⟩,⟨?_,by omega⟩,by show _-_<_-_;omega⟩
   rw [take_at hone,List.flatMap_append,List.length_append]
   simpa [Tbl.reachRow] using hI
 ·have hge:k.al<=i:=by simpa using hc
  rw [List.take_of_length_le (by omega)] at hI
  repeat refine⟨rfl,?_⟩
  conv=>whnf
  exact .inl (by unfold Tbl.reach;simpa using hI)
end Go.Proofs
