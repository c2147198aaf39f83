/- Lemmas of the proof. No conditions of their own. -/
import Derived.Test.YtnpfcnfhfkflhaaGreatDoorC02
set_option linter.all false
set_option maxRecDepth 100000
namespace Go.Proofs
open Go.TM
variable {T:Type} {S:TM.Sys Tryz.prog T} {U:Qa T}
attribute [local irreducible] Qb Zl Wt
theorem Qpj (a a':Option Addr) (len cap len' cap':Nat) (l l':List Int) (hl:Z5 U a len l) (hl':Z5 U a' len' l') (hlen:len<2 ^ 60) (hlen':len'<2 ^ 60) :
  Qb S 36 #[.slice a len cap,.slice a' len' cap'] (λ v U'=>v=.bool (Qae l l')/\U'=U) U:=by
 refine Qb.pure' (Qb.of (args:=[_,_]) Qvz Qf (by simp) ?_);have h1:=hl.1;have h2:=hl'.1;refine⟨Nat,λ i=>[(0,.slice a len cap),(1,.slice a' len' cap'),(5,.int .i64 i)],λ i U'=>U.le U'/\i<=len/\i<=len'/\Qae l l'=Qae (l.drop i) (l'.drop i),λ i=>len-i,0,⟨rfl,rfl,rfl,trivial⟩,⟨.refl _,by omega,by omega,rfl⟩,?_⟩;rintro i f U1 ⟨hle,hi,hi',hinv⟩;have hin:Zu ((i:Int)+1):=by unfold Zu;omega
 repeat refine⟨rfl,?_⟩
 conv=>whnf
 apply Zr<;>intro hc
 ·have hlt:i<len:=by simpa using hc
  obtain⟨ad,x,hx,rfl,-,hs⟩:=(hl.lg hle.lg).at hlt;rw [Qad hx] at hinv
  repeat refine⟨rfl,?_⟩
  conv=>whnf
  apply Qe<;>intro hc
  ·have hlt':i<len':=by simpa using hc
   obtain⟨ad',y,hy,rfl,-,hs'⟩:=(hl'.lg hle.lg).at hlt';rw [Qad hy,Qae] at hinv;refine⟨ad,i,⟨rfl,rfl,hlt⟩,?_⟩;refine⟨_,hs,?_⟩;refine⟨ad',i,⟨rfl,rfl,hlt'⟩,?_⟩;refine⟨_,hs',?_⟩
   conv=>whnf
   intro U2 hle2 _
   repeat refine⟨rfl,?_⟩
   conv=>whnf
   apply Qe<;>intro hc
   ·have hne:x≠y:=by simpa using hc
    rw [if_neg hne] at hinv;refine⟨ad,i,⟨rfl,rfl,hlt⟩,?_⟩;refine⟨_,hs.lg hle2.lg,?_⟩;refine⟨ad',i,⟨rfl,rfl,hlt'⟩,?_⟩;refine⟨_,hs'.lg hle2.lg,?_⟩
    conv=>whnf
    intro U3 hle3 _
    repeat refine⟨rfl,?_⟩
    conv=>whnf
    exact⟨by rw [hinv],((hle.trans hle2).trans hle3).lg⟩
   ·have hxy:x=y:=by simpa using hc
    rw [if_pos hxy] at hinv;refine⟨hin,?_⟩
    conv=>whnf
    exact⟨rfl,i+1,⟨rfl,rfl,rfl,trivial⟩,⟨hle.trans hle2,by omega,by omega,hinv⟩,by show _-_<_-_;omega⟩
  ·have hge:len'<=i:=by simpa using hc
   have e0:l'.drop i=[]:=List.drop_eq_nil_of_le (by omega);rw [e0,Qae] at hinv
   repeat refine⟨rfl,?_⟩
   refine⟨?_,hle.lg⟩;rw [hinv]
   first | done | (congr 1;simp;omega)
 ·have hge:len<=i:=by simpa using hc
  have e0:l.drop i=[]:=List.drop_eq_nil_of_le (by omega);rw [e0,Qae] at hinv
  have hr:(!(l'.drop i).isEmpty)=decide ((len:Int)<(len':Int)):=by
   rw [Bool.eq_iff_iff];simp [List.isEmpty_iff,List.drop_eq_nil_iff];omega
  repeat refine⟨rfl,?_⟩
  conv=>whnf
  exact⟨by rw [hinv,hr],hle.lg⟩
end Go.Proofs
namespace Go.TM
variable {T:Type} {P:Program} {S:Sys P T} {U U':Qa T}
theorem Qb.pre {f:FuncId} {args:Array Value} {Q:Value->Qa T->Prop} {U1:Qa T} (hs:Qw U U1) (h:Qb S f args Q U1):Qb S f args Q U:=λ Stop m c cs k=>.shift hs (h Stop m c cs k)
theorem Src.lgs {a:Option Addr} {cs:List Value} (h:Src U a cs) (hl:U.lg U'):Src U' a cs:=by
 rcases h with h | ⟨ad,e,hr⟩
 ·exact .inl h
 ·exact .inr ⟨ad,e,hr.lg hl⟩
def Qjj (U:Qa T) (l:List Int) (v:Value) (U':Qa T):Prop:=(∃a l c,v=.slice a l c)/\U.frz.lg U'/\Acc 3 1 v (l.map λ n=>.int .i64 n) U'.M U.M
theorem Qjj.le {l:List Int} {v:Value} {U'':Qa T} (h:Qjj U l v U') (k:U'.le U''):Qjj U l v U'':=⟨h.1,h.2.1.trans k.lg,by rw [k.own];exact h.2.2⟩
theorem Qjj.new {p:Nat} (h:U.le U'):Qjj U [] (.slice (some ⟨p,0,none⟩) 0 0) (U'.put p (.cells #[] 3)):=
 ⟨⟨_,_,_,rfl⟩,⟨λ x o hx=>h.imm x o hx,⟨_,(List.append_nil _).symm⟩,h.tok⟩,.inr ⟨p,#[],0,0,rfl,rfl,Nat.le_refl _,rfl,by show _::U'.M=_;rw [h.own],by simp⟩⟩
theorem Qjj.give {f:FuncId} {xs:Value->Array Value} {l:List Int} {v:Value} {Q:Value->Qa T->Prop} (h:Qjj U l v U')
  (k:∀(U1:Qa T) a cap,v=.slice a l.length cap->U.le U1->Z5 U1.frz a l.length l->Qb S f (xs v) Q U1):Qb S f (xs v) Q U':=by
 refine Qb.sep0 λ hs=>?_;obtain⟨U1,k1,k2,a,len,cap,rfl,hl,hsrc,hsp,-⟩:=h.2.2.freeze hs (λ x o hx=>h.2.1.imm x o hx) h.2.1.tok;simp at hl;subst hl;exact .pre k1 (k U1 a cap rfl k2 (Qlc hsrc hsp))
end Go.TM
namespace Go.TM
variable {T:Type} {P:Program} {S:Sys P T}
structure Hlr (U:Qa T) (b:Nat) (e:TypeId) (c:Array Value) (U':Qa T):Prop where
 imm:∀x o,U.I x=some o->U'.I x=some o
 own:U'.M=.obj b (.cells c e (0,0))::U.M
 tok:U'.tok=U.tok
 new:U.I b=none
theorem Hlr.le {U U' U'':Qa T} {b:Nat} {e:TypeId} {c:Array Value} (h:Hlr U b e c U') (k:U'.le U''):Hlr U b e c U'':=⟨λ x o i=>k.imm x o (h.imm x o i),k.own.trans h.own,k.tok.trans h.tok,h.new⟩
theorem Hlr.frz2 {U U':Qa T} {b:Nat} {e:TypeId} {c:Array Value} (h:Hlr U b e c U'):U.frz.lg U'.frz:=⟨h.imm,⟨[],rfl⟩,h.tok⟩
theorem Hlr.made {U U':Qa T} {b:Nat} {e:TypeId} {c:Array Value} (h:U.le U') (hf:U'.free b):Hlr U b e c (U'.put b (.cells c e)):=by
 refine⟨h.imm,by show _::U'.M=_;rw [h.own],h.tok,?_⟩;cases hb:U.I b with
 | none=>rfl
 | some o=>have:=h.imm b o hb;rw [hf.1] at this;cases this
end Go.TM
