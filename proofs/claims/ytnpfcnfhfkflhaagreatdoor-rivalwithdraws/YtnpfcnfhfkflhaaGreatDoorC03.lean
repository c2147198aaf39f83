/- Lemmas. No conditions. -/
import Derived.Test.YtnpfcnfhfkflhaaGreatDoorC00
set_option linter.all false
set_option maxRecDepth 100000
open List
namespace Go.Proofs
open Go.TM
variable{T:Type}{S:TM.Sys Tryz.prog T}{U:Qa T}
attribute [local irreducible] Qb Zl Wt
def Qpj(a t:Option Addr)(len cap d h:Nat)(l m:List Int)(B:Z5 U a len l)(q:Z5 U t d m)(C:len<2^60)(z:d<2^60) :
  Qb S 36 #[.slice a len cap,.slice t d h] (λ v U'=>v=.bool (Qae l m)/\U'=U) U:=by
 refine Qb.pure' (Qb.of (args:=[_,_]) Qvz Qf S1 ?_);have L:=B.1;have M:=q.1;refine⟨Nat,λ i=>[(0,.slice a len cap),(1,.slice t d h),(5,.int .i64 i)],λ i U'=>U.le U'/\i<=len/\i<=d/\Qae l m=Qae (l.drop i) (m.drop i),λ i=>len-i,0,T1,⟨.refl _,O1,O1,rfl⟩,?_⟩;rintro i f I⟨g,N,E,b⟩;have w:Zu ((i:Int)+1):=I1
 repeat refine⟨rfl,?_⟩
 conv=>whnf
 apply Zr<;>intro j
 .have hlt:i<len:=by simpa using j
  obtain⟨A,x,G,rfl,-,D⟩:=(B.lg g.lg).at hlt;rw[WT G]at b
  repeat refine⟨rfl,?_⟩
  conv=>whnf
  apply Qe<;>intro j
  .have hlt':i<d:=by simpa using j
   obtain⟨o,y,H,rfl,-,s⟩:=(q.lg g.lg).at hlt';rw[WT H,Qae]at b;refine⟨A,i,⟨rfl,rfl,hlt⟩,_,D,o,i,⟨rfl,rfl,hlt'⟩,_,s,?_⟩
   conv=>whnf
   intro J e _
   repeat refine⟨rfl,?_⟩
   conv=>whnf
   apply Qe<;>intro j
   .have hne:x≠y:=by simpa using j
    rw[if_neg hne]at b;refine⟨A,i,⟨rfl,rfl,hlt⟩,_,D.lg e.lg,o,i,⟨rfl,rfl,hlt'⟩,_,s.lg e.lg,?_⟩
    conv=>whnf
    intro K r _
    repeat refine⟨rfl,?_⟩
    conv=>whnf
    exact⟨by rw[b],((g.trans e).trans r).lg⟩
   .have hxy:x=y:=by simpa using j
    rw[if_pos hxy]at b;refine⟨w,?_⟩
    conv=>whnf
    exact⟨rfl,i+1,T1,⟨g.trans e,O1,O1,b⟩,L1⟩
  .have hge:d<=i:=by simpa using j
   have u:m.drop i=[]:=drop_eq_nil_of_le O1;rw[u,Qae]at b
   repeat refine⟨rfl,?_⟩
   refine⟨?_,g.lg⟩;rw[b]
   first|done|(congr 1;simp;omega)
 .have hge:len<=i:=by simpa using j
  have u:l.drop i=[]:=drop_eq_nil_of_le O1;rw[u,Qae]at b
  have F:(!(m.drop i).isEmpty)=decide ((len:Int)<(d:Int)):=by
   rw[Bool.eq_iff_iff];simp[isEmpty_iff,drop_eq_nil_iff];omega
  repeat refine⟨rfl,?_⟩
  conv=>whnf
  exact⟨by rw[b,F],g.lg⟩
end Go.Proofs
namespace Go.TM
variable{T:Type}{P:Program}{S:Sys P T}{U U':Qa T}
def Qb.pre{f:FuncId}{args:Array Value}{Q:Value->Qa T->Prop}{d:Qa T}(e:Qw U d)(h:Qb S f args Q d):Qb S f args Q U:=λ b m c cs k=>.shift e (h b m c cs k)
def QS.lgs{a:Option Addr}{cs:List Value}(h:QS U a cs)(d:U.lg U'):QS U' a cs:=by
 rcases h with h|⟨b,e,f⟩
 .exact .inl h
 .exact .inr ⟨b,e,f.lg d⟩
def Qjj(U:Qa T)(l:List Int)(v:Value)(U':Qa T):Prop:=(∃a l c,v=.slice a l c)/\U.frz.lg U'/\Acc 3 1 v (l.map λ n=>.int .i64 n) U'.M U.M
def Qjj.le{l:List Int}{v:Value}{b:Qa T}(h:Qjj U l v U')(k:U'.le b):Qjj U l v b:=⟨h.1,h.2.1.trans k.lg,by rw[k.own];exact h.2.2⟩
def Qjj.new{p:Nat}(h:U.le U'):Qjj U [] (.slice (some ⟨p,0,none⟩) 0 0) (U'.put p (.cells #[] 3)):=
 ⟨⟨_,_,_,rfl⟩,⟨λ x o b=>h.imm x o b,⟨_,(append_nil _).symm⟩,h.tok⟩,.inr ⟨p,#[],0,0,rfl,rfl,Nat.le_refl _,rfl,by show _::U'.M=_;rw[h.own],S1⟩⟩
def Qjj.give{f:FuncId}{xs:Value->Array Value}{l:List Int}{v:Value}{Q:Value->Qa T->Prop}(h:Qjj U l v U')
  (k:∀(b:Qa T)a cap,v=.slice a l.length cap->U.le b->Z5 b.frz a l.length l->Qb S f (xs v) Q b):Qb S f (xs v) Q U':=by
 refine Qb.sep0 λ j=>?_;obtain⟨b,q,r,a,len,cap,rfl,g,d,e,-⟩:=h.2.2.freeze j (λ x o m=>h.2.1.imm x o m) h.2.1.tok;simp at g;subst g;exact .pre q (k b a cap rfl r (Vf d e))
end Go.TM
namespace Go.TM
variable{T:Type}{P:Program}{S:Sys P T}
structure Hlr(U:Qa T)(b:Nat)(e:TypeId)(c:Array Value)(U':Qa T):Prop where
 imm:∀x o,U.I x=some o->U'.I x=some o
 own:U'.M=.obj b (.cells c e (0,0))::U.M
 tok:U'.tok=U.tok
 new:U.I b=none
def Hlr.le{U U' d:Qa T}{b:Nat}{e:TypeId}{c:Array Value}(h:Hlr U b e c U')(k:U'.le d):Hlr U b e c d:=⟨λ x o i=>k.imm x o (h.imm x o i),k.own.trans h.own,k.tok.trans h.tok,h.new⟩
def Hlr.frz2{U U':Qa T}{b:Nat}{e:TypeId}{c:Array Value}(h:Hlr U b e c U'):U.frz.lg U'.frz:=⟨h.imm,⟨[],rfl⟩,h.tok⟩
def Hlr.made{U U':Qa T}{b:Nat}{e:TypeId}{c:Array Value}(h:U.le U')(f:U'.free b):Hlr U b e c (U'.put b (.cells c e)):=by
 refine⟨h.imm,by show _::U'.M=_;rw[h.own],h.tok,?_⟩;cases d:U.I b with
 |none=>rfl
 |some o=>have:=h.imm b o d;rw[f.1]at this;cases this
end Go.TM

