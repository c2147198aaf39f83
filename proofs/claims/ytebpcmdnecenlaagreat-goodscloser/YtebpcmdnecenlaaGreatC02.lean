/- A part of the proof: lemmas that the last text uses. No conditions of its own. -/
import Derived.Test.YtebpcmdnecenlaaGreatH46
import Derived.Test.YtebpcmdnecenlaaGreatH42
import Derived.Test.YtebpcmdnecenlaaGreatH41
import Derived.Test.YtebpcmdnecenlaaGreatH43
import Derived.Test.YtebpcmdnecenlaaGreatH45
import Derived.Test.YtebpcmdnecenlaaGreatH06
import Derived.Test.YtebpcmdnecenlaaGreatC00
set_option linter.unusedSimpArgs false
set_option linter.unusedVariables false
namespace Go.TM
theorem mem_listS {s:Nat->Bool} {x:Int}:x∈listS s↔∃j:Nat,j<8/\s j=true/\x=j:=by
 unfold listS
 simp only [List.mem_map,List.mem_filter,List.mem_range]
 constructor
 ·rintro⟨j,⟨h1,h2⟩,rfl⟩;exact⟨j,h1,h2,rfl⟩
 ·rintro⟨j,h1,h2,rfl⟩;exact⟨j,⟨h1,h2⟩,rfl⟩
theorem asc_listS (s:Nat->Bool):Asc (listS s):=by
 unfold listS Asc
 rw [List.pairwise_map]
 exact List.Pairwise.imp (λ h=>by simpa using h) (List.Pairwise.filter _ List.pairwise_lt_range)
theorem memS_iff {l:List Int} {j:Nat}:memS l j=true↔(j:Int)∈l:=by unfold memS;exact decide_eq_true_iff
theorem listS_memS {l:List Int} (ha:Asc l) (h8:∀x∈l,0<=x/\x<8):listS (memS l)=l:=by
 refine asc_ext (asc_listS _) ha λ x=>?_
 rw [mem_listS]
 constructor
 ·rintro⟨j,_,h,rfl⟩;exact memS_iff.1 h
 ·intro hx
  have:=h8 x hx
  exact⟨x.toNat,by omega,memS_iff.2 (by rw [Int.toNat_of_nonneg this.1];exact hx),by omega⟩
theorem cov_go (sure can:Nat->Bool):∀(ps:List (Int×Int)) (c:Cov) (y:Nat),
  (ps.foldl (Cov.step sure can) c).so y=(c.so y || ps.any λ p=>p.2.toNat == y) /\
  (ps.foldl (Cov.step sure can) c).la y=(c.la y || ps.any λ p=>p.2.toNat == y && !sure p.1.toNat) /\
  (ps.foldl (Cov.step sure can) c).re y=(c.re y || ps.any λ p=>p.2.toNat == y && can p.1.toNat)
 | [],c,y=>by simp
 | p::ps,c,y=>by
  obtain⟨h1,h2,h3⟩:=cov_go sure can ps (Cov.step sure can c p) y
  rw [List.foldl_cons,h1,h2,h3]
  simp only [List.any_cons,Cov.step,putS]
  by_cases e:y=p.2.toNat
  ·subst e;simp [Bool.or_assoc]
  ·have e':(p.2.toNat == y)=false:=by simp;exact λ h=>e h.symm
   simp [e,e']
theorem cov_so (sure can:Nat->Bool) (ps:List (Int×Int)) (y:Nat):(cov sure can ps).so y=ps.any λ p=>p.2.toNat == y:=by unfold cov;rw [(cov_go sure can ps _ y).1];rfl
theorem cov_la (sure can:Nat->Bool) (ps:List (Int×Int)) (y:Nat):(cov sure can ps).la y=ps.any λ p=>p.2.toNat == y && !sure p.1.toNat:=by unfold cov;rw [(cov_go sure can ps _ y).2.1];rfl
theorem cov_re (sure can:Nat->Bool) (ps:List (Int×Int)) (y:Nat):(cov sure can ps).re y=ps.any λ p=>p.2.toNat == y && can p.1.toNat:=by unfold cov;rw [(cov_go sure can ps _ y).2.2];rfl
def nums (n:Nat):List Int:=(List.range n).map λ (j:Nat)=>(j:Int)
theorem mem_nums {n:Nat} {x:Int}:x∈nums n↔0<=x/\x<n:=by
 unfold nums
 simp only [List.mem_map,List.mem_range]
 constructor
 ·rintro⟨j,h,rfl⟩;omega
 ·rintro⟨h1,h2⟩;exact⟨x.toNat,by omega,by omega⟩
theorem asc_nums (n:Nat):Asc (nums n):=by
 unfold nums Asc
 rw [List.pairwise_map]
 exact List.pairwise_lt_range.imp λ h=>by omega
theorem nums_succ (n:Nat):nums (n+1)=nums n++[(n:Int)]:=by unfold nums;rw [List.range_succ];simp
def mvB (e x y:Int) (back:Bool) (m:GMv):Bool:=(!back && decide (mv3 m=(e,x,y))) || (back && decide (mv3 m=(e-1,y,x)))
def Tbl.bec (t:Tbl) (e x y:Int) (back:Bool):Bool:=t.mvs.any (mvB e x y back)
def Tbl.ni (t:Tbl) (e:Int):Nat:=(t.items e).length
def nextE (e:Int) (back:Bool):Int:=if back then e-1 else e+1
def Tbl.some1 (t:Tbl) (e:Int) (back:Bool) (n:Nat) (y:Int):Bool:=(nums n).any λ x=>t.bec e x y back
def Tbl.all1 (t:Tbl) (e:Int) (back:Bool) (sure:List Int) (n:Nat) (y:Int):Bool:=(nums n).all λ x=>!t.bec e x y back || sure.contains x
def Tbl.reach1 (t:Tbl) (e:Int) (back:Bool) (can:List Int) (n:Nat) (y:Int):Bool:=(nums n).any λ x=>t.bec e x y back && can.contains x
def Tbl.sureL (t:Tbl) (e:Int) (back:Bool) (sure:List Int) (n:Nat):List Int:=(nums n).filter λ y=>t.some1 e back (t.ni e) y && t.all1 e back sure (t.ni e) y
def Tbl.canL (t:Tbl) (e:Int) (back:Bool) (can:List Int) (n:Nat):List Int:=(nums n).filter λ y=>t.reach1 e back can (t.ni e) y
def Tbl.stepL (t:Tbl) (e:Int) (back:Bool) (p:List Int×List Int):List Int×List Int:=(t.sureL e back p.1 (t.ni (nextE e back)),t.canL e back p.2 (t.ni (nextE e back)))
def Tbl.stepN (t:Tbl) (back:Bool):Nat->Int->List Int×List Int->List Int×List Int
 | 0,_,p=>p
 | n+1,e,p=>t.stepN back n (nextE e back) (t.stepL e back p)
def Tbl.movedL (t:Tbl) (fr to:Int) (l:List Int):List Int×List Int:=if to<fr then t.stepN true (fr-to).toNat fr (l,l) else t.stepN false (to-fr).toNat fr (l,l)
def Tbl.psOf (t:Tbl) (e:Int) (back:Bool):List (Int×Int):=if back then t.bckP e else t.fwdP e
theorem mem_psOf {t:Tbl} {e x y:Int} {back:Bool}:(x,y)∈t.psOf e back↔t.bec e x y back=true:=by
 unfold Tbl.psOf Tbl.bec Tbl.bckP Tbl.fwdP mvB mv3
 cases back with
 | false=>
  simp only [Bool.false_eq_true,if_false,List.mem_map,List.mem_filter,List.any_eq_true,Bool.not_false,Bool.true_and,Bool.false_and,Bool.or_false,decide_eq_true_eq,beq_iff_eq,Prod.mk.injEq]
  constructor
  ·rintro⟨m,⟨h1,h2⟩,h3,h4⟩;exact⟨m,h1,h2,h3,h4⟩
  ·rintro⟨m,h1,h2,h3,h4⟩;exact⟨m,⟨h1,h2⟩,h3,h4⟩
 | true=>
  simp only [if_true,List.mem_map,List.mem_filter,List.any_eq_true,Bool.not_true,Bool.true_and,Bool.false_and,Bool.false_or,decide_eq_true_eq,beq_iff_eq,Prod.mk.injEq]
  constructor
  ·rintro⟨m,⟨h1,h2⟩,h3,h4⟩;exact⟨m,h1,h2,h4,h3⟩
  ·rintro⟨m,h1,h2,h3,h4⟩;exact⟨m,⟨h1,h2⟩,h4,h3⟩
theorem Tbl.bec_items {t:Tbl} (hf:t.flaw=0) {e x y:Int} {back:Bool} (h:t.bec e x y back=true):t.isItem e x=true/\t.isItem (nextE e back) y=true:=by
 unfold Tbl.bec at h
 obtain⟨m,hm,hb⟩:=List.any_eq_true.1 h
 have hok:=Tbl.mv_ok hf m hm
 unfold Tbl.mvOk at hok
 simp only [Bool.and_eq_true] at hok
 unfold mvB mv3 at hb
 unfold nextE
 cases back with
 | false=>
  simp at hb
  obtain⟨rfl,rfl,rfl⟩:=hb
  exact⟨hok.2.2.1,hok.2.2.2⟩
 | true=>
  simp at hb
  obtain⟨h1,rfl,rfl⟩:=hb
  obtain rfl:e=m.ed+1:=by omega
  exact⟨hok.2.2.2,by simpa using hok.2.2.1⟩
theorem Tbl.isItem_iff {t:Tbl} {e n:Int}:t.isItem e n=true↔0<=n/\n<t.ni e:=by
 unfold Tbl.isItem btw Tbl.ni
 simp only [Bool.and_eq_true,decide_eq_true_eq]
 omega
theorem Tbl.ni8 {t:Tbl} (hf:t.flaw=0) (e:Int):t.ni e<=8:=by
 unfold Tbl.ni Tbl.items
 split
 ·rename_i he
  have hb:=Tbl.isEd_lt he
  obtain⟨-,-,h8⟩:=Tbl.flaw_eds hf
  rw [List.getD_eq_getElem?_getD,List.getElem?_eq_getElem (by omega)]
  exact h8 _ (List.getElem_mem _)
 ·simp
theorem ps_any {ps:List (Int×Int)} {f:Int->Bool} {y:Nat} (h0:∀p∈ps,0<=p.2):(ps.any λ p=>p.2.toNat == y && f p.1)=true↔∃x,(x,(y:Int))∈ps/\f x=true:=by
 simp only [List.any_eq_true,Bool.and_eq_true,beq_iff_eq]
 constructor
 ·rintro⟨⟨a,b⟩,h1,h2,h3⟩
  have:=h0 _ h1
  simp only at h2 h3 this
  obtain rfl:b=y:=by omega
  exact⟨a,h1,h3⟩
 ·rintro⟨x,h1,h2⟩;exact⟨(x,y),h1,by simp,h2⟩
theorem Tbl.step_eq {t:Tbl} (hf:t.flaw=0) (e:Int) (back:Bool) (p:SC):t.stepL e back (listS p.s,listS p.c)=(listS (p.by (t.psOf e back)).s,listS (p.by (t.psOf e back)).c):=by
 have hbec:∀x y,t.bec e x y back=true->(0<=x/\x<t.ni e)/\0<=y/\y<t.ni (nextE e back):=λ x y h=>by
  obtain⟨h1,h2⟩:=Tbl.bec_items hf h
  exact⟨Tbl.isItem_iff.1 h1,Tbl.isItem_iff.1 h2⟩
 have h8:=Tbl.ni8 hf (nextE e back)
 have h8':=Tbl.ni8 hf e
 have h0:∀q∈t.psOf e back,0<=q.2:=λ q hq=>(hbec q.1 q.2 (mem_psOf.1 hq)).2.1
 have hc:∀(s:Nat->Bool) (x:Int),0<=x->x<8->((listS s).contains x=true↔s x.toNat=true):=λ s x h1 h2=>by
  rw [List.contains_iff_mem,mem_listS]
  constructor
  ·rintro⟨j,_,h,rfl⟩;simpa using h
  ·intro h;exact⟨x.toNat,by omega,h,by omega⟩
 unfold Tbl.stepL SC.by
 refine Prod.ext ?_ ?_
 ·refine asc_ext (Asc.filter (asc_nums _) _) (asc_listS _) λ y=>?_
  simp only [Tbl.sureL,List.mem_filter,mem_nums,mem_listS,Cov.sure,cov_so,cov_la,Bool.and_eq_true,Bool.not_eq_true',Tbl.some1,Tbl.all1,List.any_eq_true,List.all_eq_true,Bool.or_eq_true]
  constructor
  ·rintro⟨⟨h1,h2⟩,⟨x,hx,hb⟩,hall⟩
   obtain⟨k,rfl⟩:=Int.eq_ofNat_of_zero_le h1
   refine⟨k,by omega,⟨⟨(x,(k:Int)),mem_psOf.2 hb,by simp⟩,?_⟩,rfl⟩
   apply Classical.byContradiction
   intro hn
   rw [Bool.not_eq_false,ps_any (f:=λ x=>!p.s x.toNat) h0] at hn
   obtain⟨x',h3,h4⟩:=hn
   have hb':=mem_psOf.1 h3
   have hx':=(hbec _ _ hb').1
   rcases hall x' hx' with h5 | h5
   ·rw [hb'] at h5;cases h5
   ·rw [hc _ _ hx'.1 (by omega)] at h5
    rw [h5] at h4;cases h4
  ·rintro⟨j,hj,⟨⟨q,hq,hqy⟩,hla⟩,rfl⟩
   have hb:=mem_psOf.1 (show (q.1,q.2)∈t.psOf e back from hq)
   have hx:=hbec _ _ hb
   have hqj:q.2=(j:Int):=by simp at hqy;omega
   rw [hqj] at hb hx
   refine⟨⟨by omega,by omega⟩,⟨q.1,hx.1,hb⟩,λ x' hx'=>?_⟩
   by_cases h5:t.bec e x' j back=true
   ·right
    rw [hc _ _ hx'.1 (by omega)]
    apply Classical.byContradiction
    intro hn
    have:(t.psOf e back).any (λ q=>q.2.toNat == j && !p.s q.1.toNat)=true:=(ps_any (f:=λ x=>!p.s x.toNat) h0).2 ⟨x',mem_psOf.2 h5,by simpa using hn⟩
    rw [hla] at this;cases this
   ·left;simpa using h5
 ·refine asc_ext (Asc.filter (asc_nums _) _) (asc_listS _) λ y=>?_
  simp only [Tbl.canL,List.mem_filter,mem_nums,mem_listS,cov_re,Tbl.reach1,List.any_eq_true,Bool.and_eq_true]
  constructor
  ·rintro⟨⟨h1,h2⟩,x,hx,hb,hx'⟩
   obtain⟨k,rfl⟩:=Int.eq_ofNat_of_zero_le h1
   rw [hc _ _ hx.1 (by omega)] at hx'
   exact⟨k,by omega,⟨(x,(k:Int)),mem_psOf.2 hb,by simp,hx'⟩,rfl⟩
  ·rintro⟨j,hj,⟨q,hq,hqy,hqc⟩,rfl⟩
   have hb:=mem_psOf.1 (show (q.1,q.2)∈t.psOf e back from hq)
   have hx:=hbec _ _ hb
   have hqj:q.2=(j:Int):=by simp at hqy;omega
   rw [hqj] at hb hx
   exact⟨⟨by omega,by omega⟩,q.1,hx.1,hb,(hc _ _ hx.1.1 (by omega)).2 hqc⟩
theorem Tbl.stepN_fwd {t:Tbl} (hf:t.flaw=0):∀(n:Nat) (e:Int) (p:SC),t.stepN false n e (listS p.s,listS p.c)=(listS (t.goF n e p).s,listS (t.goF n e p).c)
 | 0,e,p=>rfl
 | n+1,e,p=>by
  rw [Tbl.stepN,Tbl.step_eq hf,Tbl.stepN_fwd hf n];rfl
theorem Tbl.stepN_bck {t:Tbl} (hf:t.flaw=0):∀(n:Nat) (e:Int) (p:SC),t.stepN true n e (listS p.s,listS p.c)=(listS (t.goB n e p).s,listS (t.goB n e p).c)
 | 0,e,p=>rfl
 | n+1,e,p=>by
  rw [Tbl.stepN,Tbl.step_eq hf,Tbl.stepN_bck hf n]
  have:nextE e true=e + -1:=by unfold nextE;simp;omega
  rw [this];rfl
theorem Tbl.moved_eq {t:Tbl} (hf:t.flaw=0) {fr to:Int} {l:List Int} (hc:t.chk fr none l=0):t.movedL fr to l=(listS (t.moved fr to l).s,listS (t.moved fr to l).c):=by
 have hl:listS (memS l)=l:=listS_memS (Tbl.chk_asc hc).1 λ x hx=>Tbl.item_lt hf (chk_items hc x hx)
 unfold Tbl.movedL Tbl.moved
 split
 ·have:=Tbl.stepN_bck hf (fr-to).toNat fr ⟨memS l,memS l⟩
  simp only [hl] at this
  exact this
 ·have:=Tbl.stepN_fwd hf (to-fr).toNat fr ⟨memS l,memS l⟩
  simp only [hl] at this
  exact this
end Go.TM
namespace Go.TM
variable {T:Type} {P:Program} {S:Sys P T} {Z:View T}
theorem CallsV.okd {f:FuncId} {args:Array Value} {R R':Value->View T->Prop} (h:CallsV S f args R Z) (hr:∀v Z' w,Z'.ok w->R v Z'->∃Z'',Shift Z' Z''/\R' v Z''):CallsV S f args R' Z:=by
 intro Stop m c cs k
 refine h Stop m c cs λ v Z' r=>?_
 by_cases hs:∃w,Z'.ok w
 ·obtain⟨w,hw⟩:=hs
  obtain⟨Z'',h1,h2⟩:=hr v Z' w hw r
  exact .shift h1 (k v _ h2)
 ·exact .priv ⟨rfl,λ w ok=>absurd ⟨w,ok⟩ hs⟩
theorem AccIn.intsV {v:Value} {l:List Int} {A R:List Res} {I:Nat->Option Obj} {k:T} (h:AccIn 3 1 v (l.map λ n=>.int .i64 n) A) {w:World} (ok:(⟨I,A++R,k⟩:View T).ok w) :
  ∃Z'':View T,Shift ⟨I,A++R,k⟩ Z''/\Z''.ok w/\(∀x o,I x=some o->Z''.I x=some o)/\Z''.M=R/\Z''.tok=k/\IntsV Z''.frz v l:=by
 obtain⟨Z'',k1,k2,a,len,cap,rfl,hl,hsrc,hsp,_⟩:=Acc.freeze (Z:=⟨I,R,k⟩) (Z':=⟨I,A++R,k⟩) ok.sep (h R) (λ _ _ h=>h) rfl
 simp at hl
 exact⟨Z'',k1,(k1.2 w ok).1,k2.imm,k2.own,k2.tok,a,cap,by rw [hl],ints_src hsrc hsp⟩
end Go.TM
namespace Go.TM
structure Tbl.Lst (t:Tbl) (e:Int) (l:List Int):Prop where
 asc:Asc l
 its:∀x∈l,t.isItem e x=true
theorem Tbl.chk_of {t:Tbl} {e:Int}:∀{l:List Int} {p:Option Int},(∀m,p=some m->∀x∈l,m<x)->Asc l->(∀x∈l,t.isItem e x=true)->t.chk e p l=0
 | [],_,_,_,_=>rfl
 | a::l,p,hp,ha,hi=>by
  have ha':=List.pairwise_cons.1 ha
  have ih:t.chk e (some a) l=0:=Tbl.chk_of (λ m e x hx=>by cases e;exact ha'.1 x hx) ha'.2 λ x hx=>hi x (List.mem_cons_of_mem _ hx)
  rw [Tbl.chk_cons,if_pos (hi a (List.mem_cons_self ..))]
  cases p with
  | none=>exact ih
  | some m=>
   have:=hp m rfl a (List.mem_cons_self ..)
   show (if a<=m then (7:Int) else _)=0
   rw [if_neg (by omega)];exact ih
theorem Tbl.Lst.chk {t:Tbl} {e:Int} {l:List Int} (h:t.Lst e l):t.chk e none l=0:=Tbl.chk_of (λ m e=>by cases e) h.asc h.its
theorem Tbl.Lst.filter {t:Tbl} {e:Int} {l:List Int} (h:t.Lst e l) (p:Int->Bool):t.Lst e (l.filter p):=⟨h.asc.filter p,λ x hx=>h.its x (List.mem_filter.1 hx).1⟩
theorem Tbl.Lst.len {t:Tbl} {e:Int} {l:List Int} (hf:t.flaw=0) (h:t.Lst e l):l.length<=8:=by
 rcases chk_len hf h.chk (by simp) with rfl | h
 ·simp
 ·exact h
theorem Tbl.Lst.lt {t:Tbl} {e:Int} {l:List Int} (hf:t.flaw=0) (h:t.Lst e l):∀x∈l,0<=x/\x<8:=λ x hx=>Tbl.item_lt hf (h.its x hx)
theorem Tbl.chkAll_of {t:Tbl} {e:Int}:∀{ls:List (List Int)},(∀l∈ls,t.Lst e l)->t.chkAll e ls=0
 | [],_=>rfl
 | l::ls,h=>by
  rw [Tbl.chkAll,if_pos (h l (List.mem_cons_self ..)).chk]
  exact Tbl.chkAll_of λ l hl=>h l (List.mem_cons_of_mem _ hl)
theorem Tbl.openF_of {t:Tbl} (hf:t.flaw=0) {e:Int} (he:t.isEd e=true) {ls:List (List Int)} (h:∀l∈ls,t.Lst e l):t.openF e ls=0:=by
 unfold Tbl.openF
 rw [if_pos hf,if_pos he];exact Tbl.chkAll_of h
theorem Tbl.moveF_of {t:Tbl} (hf:t.flaw=0) {x y:Int} (hx:t.isEd x=true) (hy:t.isEd y=true) {l:List Int} (h:t.Lst x l):t.moveF x y l=0:=by
 unfold Tbl.moveF
 rw [if_pos hf,hx,hy];exact h.chk
section
variable {t:Tbl}
def Tbl.sure (t:Tbl) (e:Int) (back:Bool) (s:List Int):List Int:=t.sureL e back s (t.ni (nextE e back))
def Tbl.can (t:Tbl) (e:Int) (back:Bool) (s:List Int):List Int:=t.canL e back s (t.ni (nextE e back))
theorem Tbl.mem_sure (hf:t.flaw=0) {e:Int} {back:Bool} {s:List Int} {y:Int}:y∈t.sure e back s↔(∃x,t.bec e x y back=true)/\∀x,t.bec e x y back=true->x∈s:=by
 unfold Tbl.sure
 simp only [Tbl.sureL,List.mem_filter,mem_nums,Bool.and_eq_true,Tbl.some1,Tbl.all1,List.any_eq_true,List.all_eq_true,Bool.or_eq_true,Bool.not_eq_true']
 constructor
 ·rintro⟨-,⟨x,-,hx⟩,hall⟩
  refine⟨⟨x,hx⟩,λ x' hx'=>?_⟩
  rcases hall x' (Tbl.isItem_iff.1 (Tbl.bec_items hf hx').1) with h | h
  ·rw [hx'] at h;cases h
  ·simpa using h
 ·rintro⟨⟨x,hx⟩,hall⟩
  refine⟨Tbl.isItem_iff.1 (Tbl.bec_items hf hx).2,⟨x,Tbl.isItem_iff.1 (Tbl.bec_items hf hx).1,hx⟩,λ x' _=>?_⟩
  by_cases h:t.bec e x' y back=true
  ·right;simpa using hall x' h
  ·left;simpa using h
theorem Tbl.mem_can (hf:t.flaw=0) {e:Int} {back:Bool} {s:List Int} {y:Int}:y∈t.can e back s↔∃x,t.bec e x y back=true/\x∈s:=by
 unfold Tbl.can
 simp only [Tbl.canL,List.mem_filter,mem_nums,Tbl.reach1,List.any_eq_true,Bool.and_eq_true,List.contains_iff_mem]
 constructor
 ·rintro⟨-,x,-,h1,h2⟩;exact⟨x,h1,h2⟩
 ·rintro⟨x,h1,h2⟩
  exact⟨Tbl.isItem_iff.1 (Tbl.bec_items hf h1).2,x,Tbl.isItem_iff.1 (Tbl.bec_items hf h1).1,h1,h2⟩
def Tbl.sN (t:Tbl) (back:Bool):Nat->Int->List Int->List Int
 | 0,_,s=>s
 | n+1,e,s=>t.sN back n (nextE e back) (t.sure e back s)
def Tbl.cN (t:Tbl) (back:Bool):Nat->Int->List Int->List Int
 | 0,_,s=>s
 | n+1,e,s=>t.cN back n (nextE e back) (t.can e back s)
theorem Tbl.stepN_split (t:Tbl) (back:Bool):∀(n:Nat) (e:Int) (s c:List Int),t.stepN back n e (s,c)=(t.sN back n e s,t.cN back n e c)
 | 0,_,_,_=>rfl
 | n+1,e,s,c=>by rw [Tbl.stepN,Tbl.stepL,Tbl.stepN_split t back n];rfl
def Sub (a b:List Int):Prop:=∀x,x∈a->x∈b
theorem Tbl.sN_mono (hf:t.flaw=0) (back:Bool):∀(n:Nat) (e:Int) (s r:List Int),Sub s r->Sub (t.sN back n e s) (t.sN back n e r)
 | 0,_,_,_,h=>h
 | n+1,e,s,r,h=>Tbl.sN_mono hf back n _ _ _ λ y hy=>by
  rw [Tbl.mem_sure hf] at hy ⊢
  exact⟨hy.1,λ x hx=>h x (hy.2 x hx)⟩
theorem Tbl.cN_mono (hf:t.flaw=0) (back:Bool):∀(n:Nat) (e:Int) (s r:List Int),Sub s r->Sub (t.cN back n e s) (t.cN back n e r)
 | 0,_,_,_,h=>h
 | n+1,e,s,r,h=>Tbl.cN_mono hf back n _ _ _ λ y hy=>by
  rw [Tbl.mem_can hf] at hy ⊢
  obtain⟨x,h1,h2⟩:=hy
  exact⟨x,h1,h x h2⟩
def bk (x y:Int):Bool:=decide (y<x)
def far (x y:Int):Nat:=(y-x).natAbs
theorem Tbl.move_eq (hf:t.flaw=0) {x y:Int} (hx:t.isEd x=true) (hy:t.isEd y=true) {l:List Int} (h:t.Lst x l):t.moveS x y l=t.sN (bk x y) (far x y) x l/\t.moveC x y l=t.cN (bk x y) (far x y) x l:=by
 have hF:=Tbl.moveF_of hf hx hy h
 have hs:t.movedL x y l=(t.moveS x y l,t.moveC x y l):=by
  rw [Tbl.moved_eq hf h.chk]
  unfold Tbl.moveS Tbl.moveC
  rw [if_pos hF,if_pos hF]
 unfold Tbl.movedL at hs
 have e:(t.sN (bk x y) (far x y) x l,t.cN (bk x y) (far x y) x l)=(t.moveS x y l,t.moveC x y l):=by
  rw [<- hs,<- Tbl.stepN_split]
  unfold bk far
  by_cases hlt:y<x
  ·rw [if_pos hlt,decide_eq_true hlt,show (y-x).natAbs=(x-y).toNat by omega]
  ·rw [if_neg hlt,decide_eq_false hlt,show (y-x).natAbs=(y-x).toNat by omega]
 exact⟨(congrArg Prod.fst e).symm,(congrArg Prod.snd e).symm⟩
section
variable {x y:Int} (hf:t.flaw=0) (hx:t.isEd x=true) (hy:t.isEd y=true) {l:List Int} (h:t.Lst x l)
include hf hx hy h
theorem Tbl.moveS_mono {l':List Int} (h':t.Lst x l') (hs:Sub l l'):Sub (t.moveS x y l) (t.moveS x y l'):=by
 rw [(Tbl.move_eq hf hx hy h).1,(Tbl.move_eq hf hx hy h').1]
 exact Tbl.sN_mono hf _ _ _ _ _ hs
theorem Tbl.moveC_mono {l':List Int} (h':t.Lst x l') (hs:Sub l l'):Sub (t.moveC x y l) (t.moveC x y l'):=by
 rw [(Tbl.move_eq hf hx hy h).2,(Tbl.move_eq hf hx hy h').2]
 exact Tbl.cN_mono hf _ _ _ _ _ hs
end
end
def Tbl.chosen (t:Tbl) (e:Int) (bits:Nat):List Int:=(nums (t.ni e)).filter λ n=>bits.testBit n.toNat
theorem Tbl.lst_chosen (t:Tbl) (e:Int) (bits:Nat):t.Lst e (t.chosen e bits):=
 ⟨(asc_nums _).filter _,λ x hx=>Tbl.isItem_iff.2 (mem_nums.1 (List.mem_filter.1 hx).1)⟩
theorem Tbl.mem_chosen {t:Tbl} {e:Int} {bits:Nat} {x:Int}:x∈t.chosen e bits↔t.isItem e x=true/\bits.testBit x.toNat=true:=by
 unfold Tbl.chosen;rw [List.mem_filter,mem_nums,Tbl.isItem_iff]
end Go.TM
namespace Go.TM
variable {T:Type} {P:Program} {S:Sys P T} {Z:View T}
theorem CallsV.listedG {f:FuncId} {args:Array Value} {G:Value->Value} {R:List Int->Prop}
  (h:CallsV S f args (λ v Z'=>∃v1 l A X,v=G v1/\R l/\Z'.M=A++(X++Z.M)/\AccIn 3 1 v1 (l.map λ n=>.int .i64 n) A/\(∀x o,Z.I x=some o->Z'.I x=some o)/\Z'.tok=Z.tok) Z) :
  CallsV S f args (λ v Z'=>(∃v1 l,v=G v1/\R l/\IntsV Z'.frz v1 l)/\Z.le Z') Z:=by
 refine h.okd λ v Z' w ok ⟨v1,l,A,X,hv,hR,hM,hA,hI,ht⟩=>?_
 have s1:Shift Z' { Z' with M:=A++Z.M }:=shift_drop (by rw [hM];exact (List.Sublist.refl _).append (List.sublist_append_right ..))
 obtain⟨Z2,s2,ok2,i2,m2,t2,r2⟩:=hA.intsV (s1.2 w ok).1
 exact⟨Z2,s1.trans s2,⟨v1,l,hv,hR,r2⟩,λ x o h=>i2 x o (hI x o h),m2,t2.trans ht⟩
end Go.TM
namespace Go.TM
theorem wrap8 {n:Nat} (h:n<256):IntKind.wrap .u8 (n:Int)=n:=by
 have e1:(2:Int) ^ 8=256:=by decide
 simp only [IntKind.wrap,IntKind.bits,IntKind.signed,Bool.false_and,e1]
 simp
 omega
theorem bit8 (u c:Nat) (hu:u<256) (hc:c<8):IntKind.wrap .u8 (BitVec.ofInt (IntKind.bits .u8) ((u:Int).fdiv (2 ^ (min (c:Int).toNat (IntKind.bits .u8)))) &&& BitVec.ofInt (IntKind.bits .u8) 1).toNat=if u.testBit c then 1 else 0:=by
 show IntKind.wrap .u8 (BitVec.ofInt 8 ((u:Int).fdiv (2 ^ (min (c:Int).toNat 8))) &&& BitVec.ofInt 8 1).toNat=_
 have e1:min (c:Int).toNat 8=c:=by simp;omega
 have e2:(u:Int).fdiv (2 ^ c)=((u / 2 ^ c:Nat):Int):=by
  rw [Int.fdiv_eq_ediv_of_nonneg _ (by exact Int.pow_nonneg (by decide))]
  simp
 rw [e1,e2,BitVec.ofInt_natCast,show (BitVec.ofInt 8 1)=BitVec.ofNat 8 1 from rfl]
 have hlt:u / 2 ^ c<2 ^ 8:=Nat.lt_of_le_of_lt (Nat.div_le_self ..) (by omega)
 have e3:(BitVec.ofNat 8 (u / 2 ^ c) &&& BitVec.ofNat 8 1).toNat=u / 2 ^ c % 2:=by
  rw [BitVec.toNat_and,BitVec.toNat_ofNat,BitVec.toNat_ofNat,Nat.mod_eq_of_lt hlt,show 1 % 2 ^ 8=1 from rfl,Nat.and_one_is_mod]
 rw [e3,wrap8 (by omega),Nat.testBit_eq_decide_div_mod_eq]
 by_cases h:u / 2 ^ c % 2=1
 ·simp [h]
 ·have:u / 2 ^ c % 2=0:=by omega
  simp [this]
def Tbl.edOf (t:Tbl) (u:Nat):Int:=((u % t.eds.length:Nat):Int)
theorem Tbl.isEd_of {t:Tbl} (hf:t.flaw=0) (u:Nat):t.isEd (t.edOf u)=true:=by
 have he3:=Tbl.flaw_eds hf
 have:=Nat.mod_lt u (y:=t.eds.length) (by omega)
 unfold Tbl.isEd btw Tbl.edOf
 simp only [Bool.and_eq_true,decide_eq_true_eq]
 omega
theorem nums_take {n c:Nat} (h:c<n) (p:Int->Bool):(nums (c+1)).filter p=(nums c).filter p++(if p (c:Int) then [(c:Int)] else []):=by
 rw [nums_succ,List.filter_append,List.filter_cons,List.filter_nil]
end Go.TM
namespace Go.Proofs
open Go.TM
set_option maxRecDepth 100000
variable {T:Type} {S:TM.Sys Tryz.prog T} {Z:View T}
attribute [local irreducible] CallsV YieldV rngX
theorem Tryz.fit_ok (h:TH) (t:Tbl) (ht:TabV Z h t):CallsV S 48 #[h.v] (λ v Z'=>(∃B:Bool,v=.bool B/\(B=true->t.flaw=0))/\Z'=Z) Z:=by
 refine CallsV.pure' (CallsV.of (args:=[_]) Tryz.k48 Tryz.mixed (by simp) ?_)
 repeat refine⟨rfl,?_⟩
 conv=>whnf
 intro b Z1 h_1 hb
 have hb:Blk Z1 b #[.slice h.ea h.el h.ec,.slice h.ma h.ml h.mc,.slice h.ka h.kl h.kc]:=hb
 have ht1:=ht.lg h_1.lg
 refine⟨_,⟨rfl,hb.rdT λ _ _ h=>h⟩,?_⟩
 refine⟨Tryz.k24.any,(Tryz.big_ok h t ht1).mono ?_⟩
 rintro _ Z' ⟨⟨B,rfl⟩,hZ'⟩ -
 obtain rfl:=hZ'.symm
 repeat refine⟨rfl,?_⟩
 conv=>whnf
 apply gb_split<;>intro hc
 ·refine⟨_,⟨rfl,hb.rdT λ _ _ h=>h⟩,?_⟩
  refine⟨Tryz.k30.any,(Tryz.refTable_ok h t ht1).go λ _=>?_⟩
  repeat refine⟨rfl,?_⟩
  conv=>whnf
  exact⟨⟨_,rfl,λ h=>by simpa using h⟩,h_1.lg⟩
 ·repeat refine⟨rfl,?_⟩
  conv=>whnf
  exact⟨⟨_,rfl,λ h=>by cases h⟩,h_1.lg⟩
theorem Tryz.edOf_ok (h:TH) (t:Tbl) (ht:TabV Z h t) (hf:t.flaw=0) (u:Nat) (hu:u<256):CallsV S 49 #[h.v,.int .u8 u] (λ v Z'=>v=.int .i64 (t.edOf u)/\Z'=Z) Z:=by
 refine CallsV.pure' (CallsV.of (args:=[_,_]) Tryz.k49 Tryz.mixed (by simp) ?_)
 have hel:=ht.eds.1
 have he3:=Tbl.flaw_eds hf
 repeat refine⟨rfl,?_⟩
 conv=>whnf
 intro b Z1 h_1 hb
 have hb:Blk Z1 b #[.slice h.ea h.el h.ec,.slice h.ma h.ml h.mc,.slice h.ka h.kl h.kc]:=hb
 refine⟨_,hb.sees3 (o:=0) rfl,?_⟩
 repeat refine⟨rfl,?_⟩
 conv=>whnf
 have hw:IntKind.wrap .i64 (u:Int)=u:=wrap_inR (by unfold InR;omega)
 rw [hw]
 refine⟨by omega,?_⟩
 repeat refine⟨rfl,?_⟩
 conv=>whnf
 have e1:(u:Int).tmod (h.el:Int)=((u % h.el:Nat):Int):=by
  rw [Int.tmod_eq_emod_of_nonneg (by omega)];rfl
 exact⟨by rw [e1,<- hel];rfl,h_1.lg⟩
theorem Tryz.chosen_ok (h:TH) (t:Tbl) (ht:TabV Z h t) (hf:t.flaw=0) (e:Int) (hed:t.isEd e=true) (u:Nat) (hu:u<256):CallsV S 50 #[h.v,.int .i64 e,.int .u8 u] (λ v Z'=>(∃v1 m,v=v1/\m=t.chosen e u/\IntsV Z'.frz v1 m)/\Z.le Z') Z:=by
 refine CallsV.listedG (G:=λ v1=>v1) (R:=λ m=>m=t.chosen e u) (CallsV.of (args:=[_,_,_]) Tryz.k50 Tryz.mixed (by simp) ?_)
 obtain⟨ke,ade,ia,il,ic,rfl,hke,hea,hse,hit⟩:=Tbl.isEd_at ht hed
 have hil:(t.items (ke:Int)).length=il:=hit.1
 have h8:=Tbl.ni8 hf (ke:Int)
 unfold Tbl.ni at h8
 repeat refine⟨rfl,?_⟩
 conv=>whnf
 intro b Z1 h_1 hb
 have hb:Blk Z1 b #[.slice h.ea h.el h.ec,.slice h.ma h.ml h.mc,.slice h.ka h.kl h.kc]:=hb
 refine⟨Nat×Value,λ y=>[(1,.int .i64 (ke:Int)),(2,.int .u8 u),(3,.pointer (some ⟨b,0,none⟩)),(7,y.2),(8,.int .i64 y.1)],
  λ y Z'=>Z1.lg Z'/\(∀x o,Z.I x=some o->Z'.I x=some o)/\Z'.tok=Z.tok/\Acc 3 1 y.2 (((nums y.1).filter λ n=>u.testBit n.toNat).map λ n=>.int .i64 n) Z'.M Z.M/\y.1<=il,λ y=>il-y.1,(0,.slice none 0 0),⟨rfl,rfl,rfl,rfl,rfl,trivial⟩,⟨(View.le.refl _).lg,h_1.imm,h_1.tok,by rw [h_1.own];exact .nil,by simp⟩,?_⟩
 rintro⟨c,v⟩ f Z2 ⟨hlg2,hI,htk,ha,hi⟩
 simp only at ha hi
 have hlen:=List.length_filter_le (λ n:Int=>u.testBit n.toNat) (nums c)
 have hnl:(nums c).length=c:=by unfold nums;simp
 obtain⟨sa,sc,rfl,-⟩:=src_ints ha
 refine⟨_,(hb.lg hlg2).sees3 (o:=0) rfl,?_⟩
 refine⟨ade,ke,⟨hea,rfl,hke⟩,?_⟩
 refine⟨_,hse.lg (h_1.lg.trans hlg2),?_⟩
 repeat refine⟨rfl,?_⟩
 conv=>whnf
 apply cb_split<;>intro hc
 ·have hlt:c<il:=by simpa using hc
  have hin:InR ((c:Int)+1):=by unfold InR;omega
  have hns:=nums_take hlt λ n=>u.testBit n.toNat
  repeat refine⟨rfl,?_⟩
  refine⟨by simp only;omega,?_⟩
  repeat refine⟨rfl,?_⟩
  conv=>whnf
  rw [bit8 u c hu (by omega)]
  apply cb_split<;>intro hc
  ·have hyes:u.testBit c=true:=by
    apply Classical.byContradiction;intro hn
    rw [if_neg hn] at hc;simp at hc
   rw [if_pos (by simpa using hyes)] at hns
   conv=>whnf
   intro b27 hf27
   refine put_new hf27 λ Z5 h_5 hb_27=>?_
   have hb_27:Blk Z5 b27 #[.int .i64 (c:Int)]:=hb_27
   conv=>whnf
   refine raw_app (v:=.slice sa _ sc) (cs:=((nums c).filter λ n=>u.testBit n.toNat).map λ n=>.int .i64 n) (new:=[.int .i64 (c:Int)]) (M₀:=Z.M) Tryz.sl27 rfl rfl (by rw [h_5.own];exact ha) (.inr ⟨_,rfl,hb_27.reads (λ k v hv=>by simpa using hv)⟩) rfl (by simp [Value.single]) (by simp;omega) λ v' M' ha' _=>?_
   have ha'':Acc 3 1 v' (((nums (c+1)).filter λ n=>u.testBit n.toNat).map λ n=>.int .i64 n) M' Z.M:=by rw [hns];simpa using ha'
   obtain⟨ta,tc,rfl,-⟩:=src_ints (Z:={ Z5 with M:=M' }) ha''
   obtain⟨A',hA'⟩:=ha''.own
   refine⟨hin,?_⟩
   conv=>whnf
   exact⟨rfl,(c+1,.slice ta _ tc),⟨rfl,rfl,rfl,rfl,rfl,trivial⟩,⟨⟨λ x o h=>h_5.imm x o (hlg2.imm x o h),⟨A',by rw [h_1.own];exact hA'⟩,h_5.tok.trans hlg2.tok⟩,λ x o h=>h_5.imm x o (hI x o h),h_5.tok.trans htk,ha'',by simp only;omega⟩,by show _-_<_-_;omega⟩
  ·have hno:u.testBit c=false:=by
    apply Classical.byContradiction;intro hn
    rw [if_pos (by simpa using hn)] at hc;simp at hc
   rw [if_neg (by simp [hno])] at hns
   rw [List.append_nil] at hns
   refine⟨hin,?_⟩
   conv=>whnf
   exact⟨rfl,(c+1,.slice sa _ sc),⟨rfl,rfl,rfl,rfl,rfl,trivial⟩,⟨hlg2,hI,htk,by rw [hns];exact ha,by simp only;omega⟩,by show _-_<_-_;omega⟩
 ·have hge:il<=c:=by simpa using hc
  obtain rfl:c=il:=by omega
  obtain⟨A,hA,hain⟩:=ha.split
  repeat refine⟨rfl,?_⟩
  conv=>whnf
  exact⟨_,_,A,[],rfl,by unfold Tbl.chosen Tbl.ni;rw [hil],hA,hain,hI,htk⟩
end Go.Proofs
namespace Go.TM
theorem band8 (a b:Nat) (ha:a<256) (hb:b<256):IntKind.wrap .u8 (BitVec.ofInt (IntKind.bits .u8) (a:Int) &&& BitVec.ofInt (IntKind.bits .u8) (b:Int)).toNat=((a &&& b:Nat):Int)/\a &&& b<256:=by
 have h:a &&& b<2 ^ 8:=Nat.lt_of_le_of_lt Nat.and_le_left ha
 have e:(BitVec.ofInt (IntKind.bits .u8) (a:Int) &&& BitVec.ofInt (IntKind.bits .u8) (b:Int)).toNat=a &&& b:=by
  show (BitVec.ofInt 8 (a:Int) &&& BitVec.ofInt 8 (b:Int)).toNat=a &&& b
  rw [BitVec.ofInt_natCast,BitVec.ofInt_natCast,BitVec.toNat_and,BitVec.toNat_ofNat,BitVec.toNat_ofNat,Nat.mod_eq_of_lt ha,Nat.mod_eq_of_lt hb]
 rw [e]
 exact⟨wrap8 h,h⟩
theorem View.le.frz2 {T:Type} {Z Z':View T} (h:Z.le Z'):Z.frz.lg Z'.frz:=⟨h.imm,⟨[],rfl⟩,h.tok⟩
theorem View.le.frz1 {T:Type} {Z Z':View T} (h:Z.le Z'):Z.frz.lg Z':=frz_self.trans h.lg
def LstV {T:Type} (Z:View T) (v:Value) (l:List Int):Prop:=∃a c,v=.slice a l.length c/\Ints Z.frz a l.length l
theorem LstV.le {T:Type} {Z Z':View T} {v:Value} {l:List Int} (h:LstV Z v l) (k:Z.le Z'):LstV Z' v l:=let ⟨a,c,e,h⟩:=h;⟨a,c,e,h.lg k.frz2⟩
end Go.TM
namespace Go.Proofs
open Go.TM
set_option maxRecDepth 100000
variable {T:Type} {S:TM.Sys Tryz.prog T} {Z:View T}
attribute [local irreducible] CallsV YieldV rngX
section
variable (h:TH) (t:Tbl) (ht:TabV Z.frz h t) (hf:t.flaw=0)
include ht hf
theorem Tryz.chosenL_ok (e:Int) (hed:t.isEd e=true) (u:Nat) (hu:u<256):CallsV S 50 #[h.v,.int .i64 e,.int .u8 u] (λ v Z'=>LstV Z' v (t.chosen e u)/\Z.le Z') Z:=by
 refine (Tryz.chosen_ok h t (ht.lg frz_self) hf e hed u hu).mono ?_
 rintro v Z' ⟨⟨_,_,rfl,rfl,hi⟩,hle⟩
 exact⟨hi,hle⟩
end
section
variable {a a':Option Addr} {cap cap':Nat} {l m:List Int} (hl:Ints Z.frz a l.length l) (hm:Ints Z.frz a' m.length m) (h1:l.length<=1000) (h2:m.length<=1000)
include hl hm h1 h2
end
end Go.Proofs
namespace Go.TM
section
variable {T:Type} {Z Z':View T}
theorem LstV.at {a:Option Addr} {n c:Nat} {l:List Int} (h:LstV Z (.slice a n c) l):Ints Z.frz a l.length l:=by
 obtain⟨_,_,e,h⟩:=h
 cases e;exact h
def MovV (Z:View T) (v:Value) (l m:List Int):Prop:=∃v1 v2,v=.tuple #[v1,v2,.int .i64 0]/\LstV Z v1 l/\LstV Z v2 m
theorem MovV.le {v:Value} {l m:List Int} (h:MovV Z v l m) (k:Z.le Z'):MovV Z' v l m:=let ⟨v1,v2,e,h1,h2⟩:=h;⟨v1,v2,e,h1.le k,h2.le k⟩
theorem MovV.at {a a':Option Addr} {n c n' c':Nat} {x:Value} {l m:List Int} (h:MovV Z (.tuple #[.slice a n c,.slice a' n' c',x]) l m):Ints Z.frz a l.length l/\Ints Z.frz a' m.length m:=by
 obtain⟨v1,v2,e,h1,h2⟩:=h
 simp at e
 obtain⟨rfl,rfl,-⟩:=e
 exact⟨h1.at,h2.at⟩
def OneV (Z:View T) (v:Value) (l:List Int):Prop:=∃v1,v=.tuple #[v1,.int .i64 0]/\LstV Z v1 l
theorem OneV.le {v:Value} {l:List Int} (h:OneV Z v l) (k:Z.le Z'):OneV Z' v l:=let ⟨v1,e,h1⟩:=h;⟨v1,e,h1.le k⟩
theorem OneV.at {a:Option Addr} {n c:Nat} {x:Value} {l:List Int} (h:OneV Z (.tuple #[.slice a n c,x]) l):Ints Z.frz a l.length l:=by
 obtain⟨v1,e,h1⟩:=h
 simp at e
 obtain⟨rfl,-⟩:=e
 exact h1.at
end
theorem Blk.frz {T:Type} {Z:View T} {b:Nat} {c:Array Value} (h:Blk Z b c):Blk Z.frz b c:=h
end Go.TM
namespace Go.TM
variable {T:Type} {P:Program} {S:Sys P T} {Z:View T}
def U16s (Z:View T) (a:Option Addr) (len:Nat) (l:List Nat):Prop:=RowsV Z a len 1 l λ n vs=>vs=[.int .u16 (n:Int)]/\n<65536
theorem U16s.lg {Z':View T} {a:Option Addr} {len:Nat} {l:List Nat} (h:U16s Z a len l) (hl:Z.lg Z'):U16s Z' a len l:=RowsV.lg h hl λ _ _ h=>h
structure RC where
 a:Option Addr
 cap:Nat
 c:GCut
end Go.TM
namespace Go.TM
open Go.Proofs
theorem fold_max_le {α:Type} (f:α->Int) (k:Int):∀(l:List α) (m:Int),l.foldl (λ m y=>max m (f y)) m<=k↔m<=k/\∀y∈l,f y<=k
 | [],m=>by simp
 | a::l,m=>by
  rw [List.foldl_cons,fold_max_le f k l]
  simp only [List.mem_cons,forall_eq_or_imp]
  constructor
  ·rintro⟨h1,h2⟩;exact⟨by omega,by omega,h2⟩
  ·rintro⟨h1,h2,h3⟩;exact⟨by omega,h3⟩
theorem maxL_le {k:Int} (hk:0<=k) (l:List Int):maxL l<=k↔∀x∈l,x<=k:=by
 cases l with
 | nil=>simp [maxL,hk]
 | cons a l=>
  rw [maxL]
  have:=fold_max_le (λ x:Int=>x) k l a
  simp only [List.mem_cons,forall_eq_or_imp]
  exact this
section
variable {t:Tbl} {e:Int} {xs ys:List Int}
theorem Tbl.near_le {k:Int} (hk:0<=k):t.near e xs ys<=k↔∀x∈xs,∀y∈ys,t.lev e x y<=k:=by
 unfold Tbl.near
 rw [maxL_le hk]
 simp only [List.mem_map,forall_exists_index,and_imp,forall_apply_eq_imp_iff₂]
 unfold Tbl.rowMax
 constructor
 ·intro h x hx;exact ((fold_max_le (λ y=>t.lev e x y) k ys 0).1 (h x hx)).2
 ·intro h x hx;exact (fold_max_le (λ y=>t.lev e x y) k ys 0).2 ⟨hk,h x hx⟩
theorem Tbl.near_nonneg:0<=t.near e xs ys:=by
 unfold Tbl.near
 cases xs with
 | nil=>exact Int.le_refl 0
 | cons a l=>
  rw [List.map_cons,maxL]
  have h0:0<=t.rowMax e a ys:=((fold_max_le (λ y=>t.lev e a y) _ ys 0).1 (Int.le_refl _)).1
  have h1:=((fold_max_le (λ x:Int=>x) _ (l.map λ x=>t.rowMax e x ys) (t.rowMax e a ys)).1 (Int.le_refl _)).1
  exact Int.le_trans h0 h1
theorem Tbl.le_near {x y:Int} (hx:x∈xs) (hy:y∈ys):t.lev e x y<=t.near e xs ys:=(Tbl.near_le Tbl.near_nonneg).1 (Int.le_refl _) x hx y hy
theorem Tbl.near_mono {xs' ys':List Int} (h1:Sub xs xs') (h2:Sub ys ys'):t.near e xs ys<=t.near e xs' ys':=
 (Tbl.near_le Tbl.near_nonneg).2 λ x hx y hy=>Tbl.le_near (h1 x hx) (h2 y hy)
end
section
variable {t:Tbl} (hf:t.flaw=0) {x y:Int} (hx:t.isEd x=true) (hy:t.isEd y=true) {a b:List Int} (ha:t.Lst x a) (hb:t.Lst y b)
include hf hx hy ha hb
theorem Tbl.kinF_of:t.kinF x y a b=0:=by
 unfold Tbl.kinF
 have h1:t.openF x [a]=0:=Tbl.openF_of hf hx λ m hm=>by rw [List.mem_singleton.1 hm];exact ha
 have h2:t.openF y [b]=0:=Tbl.openF_of hf hy λ m hm=>by rw [List.mem_singleton.1 hm];exact hb
 rw [if_pos h1];exact h2
theorem Tbl.isEd_max:t.isEd (max x y)=true:=by
 have _:=hf
 have _:=ha
 have _:=hb
 rcases Int.le_total x y with h | h
 ·rw [Int.max_eq_right h];exact hy
 ·rw [Int.max_eq_left h];exact hx
theorem Tbl.kinS_eq:t.kinS x y a b=(t.near (max x y) (t.moveS x (max x y) a) (t.moveS y (max x y) b),t.near (max x y) (t.moveC x (max x y) a) (t.moveC y (max x y) b)):=by
 have hm:=Tbl.isEd_max hf hx hy ha hb
 have h1:=Tbl.moveF_of hf hx hm ha
 have h2:=Tbl.moveF_of hf hy hm hb
 unfold Tbl.kinS Tbl.moveS Tbl.moveC
 rw [if_pos (Tbl.kinF_of hf hx hy ha hb),if_pos h1,if_pos h1,if_pos h2,if_pos h2]
 rfl
theorem Tbl.kin_mono {a' b':List Int} (ha':t.Lst x a') (hb':t.Lst y b') (h1:Sub a' a) (h2:Sub b' b):(t.kinS x y a' b').1<=(t.kinS x y a b).1/\(t.kinS x y a' b').2<=(t.kinS x y a b).2:=by
 have hm:=Tbl.isEd_max hf hx hy ha hb
 rw [Tbl.kinS_eq hf hx hy ha hb,Tbl.kinS_eq hf hx hy ha' hb']
 exact⟨Tbl.near_mono (Tbl.moveS_mono hf hx hm ha' ha h1) (Tbl.moveS_mono hf hy hm hb' hb h2),Tbl.near_mono (Tbl.moveC_mono hf hx hm ha' ha h1) (Tbl.moveC_mono hf hy hm hb' hb h2)⟩
end
end Go.TM
namespace Go.TM
structure Tbl.Best (t:Tbl) (tk:Talk) (l r:List Int):Prop where
 sub:l.Sublist tk.a
 left:r=t.leftF tk l
 len:l.length+r.length=t.mostT tk
 least:∀l':List Int,l'.Sublist tk.a->l'.length+(t.leftF tk l').length=t.mostT tk->¬cmpL l' l<0
section
variable {t:Tbl} {tk:Talk} (ha:Asc tk.a) (hb:Asc tk.b)
include ha
include hb
end
section
variable {t:Tbl} {e:Int}
end
def PrsV {T:Type} (Z:View T) (v:Value) (l:List (Int×Int)):Prop:=∃a c,v=.slice a l.length c/\PairsV Z.frz a l.length l
theorem PrsV.le {T:Type} {Z Z':View T} {v:Value} {l:List (Int×Int)} (h:PrsV Z v l) (k:Z.le Z'):PrsV Z' v l:=let ⟨a,c,e,h⟩:=h;⟨a,c,e,h.lg k.frz2⟩
end Go.TM
namespace Go.Proofs
open Go.TM
set_option maxRecDepth 100000
section
variable {T:Type} {S:TM.Sys Tryz.prog T} {Z:View T}
attribute [local irreducible] CallsV YieldV rngX
end
attribute [local irreducible] CallsV YieldV rngX
theorem Tryz.kinL_ok {Z:View Tk} (htok:Z.tok=⟨0,.out⟩) (h:TH) (t:Tbl) (ht:TabV Z.frz h t) (hf:t.flaw=0) (x y:Int) (hx:t.isEd x=true) (hy:t.isEd y=true) {a a':Option Addr} {cap cap':Nat} {l l':List Int} (hl:Ints Z.frz a l.length l) (hL:t.Lst x l) (hl':Ints Z.frz a' l'.length l') (hL':t.Lst y l') :
  CallsV (SysG Tryz.prog 164 8) 41 #[h.v,.int .i64 x,.slice a l.length cap,.int .i64 y,.slice a' l'.length cap'] (λ v Z'=>v=.tuple #[.agg #[.int .i64 (t.kinS x y l l').1,.int .i64 (t.kinS x y l l').2],.int .i64 0]/\Z'=Z) Z:=by
 have hF:=Tbl.kinF_of hf hx hy hL hL'
 have n1:=hL.len hf
 have n2:=hL'.len hf
 have k:=Tryz.Kin_ok htok h t ht x y a a' l.length cap l'.length cap' l l' (hl.lg frz_self) (hl'.lg frz_self) (by omega) (by omega) (λ _=>⟨listS_len _,listS_len _⟩)
 rw [hF] at k
 exact k
end Go.Proofs
