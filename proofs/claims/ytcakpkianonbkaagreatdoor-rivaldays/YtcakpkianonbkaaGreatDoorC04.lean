/- Lemmas. No conditions. -/
import Derived.Test.YtcakpkianonbkaaGreatDoorC02
import Derived.Test.YtcakpkianonbkaaGreatDoorC03
import Derived.Test.YtcakpkianonbkaaGreatDoorC00
import Derived.Test.YtcakpkianonbkaaGreatDoorB45
set_option linter.all false
set_option maxRecDepth 100000
open List
namespace Go.TM
variable{T:Type}{P:Program}{S:Sys P T}{U U':Qa T}
def Zqf{m:Nat}(z:0<m){L:List (List Value)}(h:∀r∈L,r.length=m){i:Nat}{v:Value}(w:L.flatten[i]?=some v):∃r,L[i / m]?=some r/\r[i % m]?=some v:=by
 obtain⟨b,-⟩:=List.getElem?_eq_some_iff.1 w;rw[Qg3 h]at b;have e:i / m<L.length:=Nat.div_lt_of_lt_mul (by rw[Nat.mul_comm];exact b);refine⟨L[i / m],getElem?_eq_getElem e,?_⟩;rw[<- Qpm h (getElem?_eq_getElem e) (Nat.mod_lt i z),Nat.mul_comm,Nat.div_add_mod];exact w
def Qy.cells{a:Option Addr}{len n:Nat}{α:Type}{l:List α}{Q:α->List Value->Prop}(h:Qy U a len n l Q):∃R:List (List Value),R.length=len/\(∀r∈R,r.length=n)/\∀i x,l[i]?=some x->∃r,R[i]?=some r/\Q x r/\∃b,a=some b/\b.spot=none/\Z6 U (b.add (i*n)) r:=by
 have w:∀i,∃r:List Value,∀x,l[i]?=some x->Q x r/\r.length=n/\∃b,a=some b/\b.spot=none/\Z6 U (b.add (i*n)) r:=λ i=>by
  cases z:l[i]? with
  |none=>exact⟨[],λ x e=>by cases e⟩
  |some x=>
   obtain⟨b,vs,F,G,H,I,K⟩:=h.2 i x z;exact⟨vs,λ y e=>by cases e;exact⟨H,I,b,F,G,K⟩⟩
 refine⟨(range len).map λ i=>Classical.choose (w i),S1,λ r L=>?_,λ i x z=>?_⟩
 .obtain⟨i,hi,rfl⟩:=mem_map.1 L;rw[mem_range]at hi;have B:i<l.length:=by rw[h.1];exact hi
  exact(Classical.choose_spec (w i) _ (getElem?_eq_getElem B)).2.1
 .have hi:i<len:=by rw[<- h.1];exact(List.getElem?_eq_some_iff.1 z).1
  have E:=Classical.choose_spec (w i) x z;exact⟨_,by rw[getElem?_map,getElem?_range hi];rfl,E.1,E.2.2⟩
def Zfr{b:Addr}(w:b.spot=none){n s:Nat}(E:0<n){L:List (List Value)}(z:∀r∈L,r.length=n)(h:∀j r,L[j]?=some r->Z6 U (b.add ((s+j)*n)) r):Z6 U (b.add (s*n)) L.flatten:=by
 intro i v G;obtain⟨r,F,B⟩:=Zqf E z G;have:=h _ r F _ v B;obtain⟨bb,H,I⟩:=b;cases w;rw[Qp,Qp]at this ⊢;have e:(s+i / n)*n+i % n=s*n+i:=by rw[Nat.add_mul,Nat.add_assoc,Nat.mul_comm (i / n) n,Nat.div_add_mod]
 rw[Nat.add_assoc,e]at this;rw[Nat.add_assoc];exact this
def Qby(c:Array Value)(n:Nat)(g:Nat->List Value):Prop:=∀j k v,j<n->k<4->(g j)[k]?=some v->c[j*4+k]?=some v
def Qby.set{c:Array Value}{n:Nat}{g:Nat->List Value}(h:Qby c n g)(B:n*4<=c.size){i:Nat}(F:i<n)(E:(g i).length=4)(v:Value):Qby (c.setIfInBounds (i*4+3) v) n λ j=>if j=i then(g i).set 3 v else g j:=by
 intro j k u w z b;simp only at b;by_cases e:j*4+k=i*4+3
 .obtain⟨rfl,rfl⟩:j=i/\k=3:=O1
  rw[if_pos rfl,getElem?_set,if_pos rfl,if_pos O1]at b;cases b;rw[Array.getElem?_setIfInBounds_self_of_lt O1]
 .rw[Array.getElem?_setIfInBounds_ne O1];by_cases e':j=i
  .subst e';rw[if_pos rfl,getElem?_set,if_neg O1]at b;exact h j k u w z b
  .rw[if_neg e']at b;exact h j k u w z b
def Gg.row{c:Cs}{vs:List Value}(h:Gg U c vs):vs.length=4/\(∀v∈vs,v.single=true):=by
 obtain⟨ga,gl,gc,aa,al,ac,rfl,-⟩:=h;exact⟨rfl,by simp[Value.single]⟩
def Src.lgr{a:Option Addr}{cs:List Value}(h:Src U a cs)(w:U.lg U'):Src U' a cs:=by
 rcases h with h|⟨b,e,z⟩
 .exact .inl h
 .exact .inr ⟨b,e,z.lg w⟩
def Zp.cellsF{h:BH}{b:Bk}(P:Zp U h b):∃R:List (List Value),R.length=h.cl/\(∀r∈R,r.length=4)/\(∀r∈R,∀v∈r,v.single=true)/\Src U h.ca R.flatten/\∀i,i<h.cl->∃r,R[i]?=some r/\Gg U (b.cas i) r:=by
 have X:=P.cs.1;obtain⟨R,M,H,N⟩:=P.cs.cells
 have B:∀m,m<h.cl->∃r,R[m]?=some r/\Gg U (b.cas m) r/\∃E,h.ca=some E/\E.spot=none/\Z6 U (E.add (m*4)) r:=λ m S=>by
  obtain⟨r,w,G,F,I,V,K⟩:=N m (b.cas m) (by simp[Bk.cas,getD_eq_getElem?_getD,show m<b.cs.length by omega]);exact⟨r,w,G,F,I,V,K⟩
 refine⟨R,M,H,λ r Z=>?_,?_,λ i Y=>let ⟨r,w,G,_⟩:=B i Y;⟨r,w,G⟩⟩
 .obtain⟨m,S,e⟩:=mem_iff_getElem.1 Z;obtain⟨T,w,G,-⟩:=B m O1;obtain rfl:r=T:=by rw[getElem?_eq_getElem S]at w;exact e.symm.trans (Option.some.inj w)
  exact G.row.2
 .rcases Nat.eq_zero_or_pos h.cl with z|z
  .have hR0:R=[]:=eq_nil_of_length_eq_zero O1;subst hR0;cases W:h.ca with
   |none=>exact .inl ⟨rfl,rfl⟩
   |some E=>exact .inr ⟨E,rfl,λ i v hv=>by simp at hv⟩
  .obtain⟨r,-,-,E,hea,hsp,-⟩:=B 0 z;refine .inr ⟨E,hea,?_⟩
   have:=Zfr (U:=U) (L:=R) (s:=0) hsp (by omega:0<4) H λ j r Q=>by
    have hl:=(List.getElem?_eq_some_iff.1 Q).1;obtain⟨T,w,-,F,I,-,K⟩:=B j O1;obtain rfl:E=F:=Option.some.inj (hea.symm.trans I);rw[Q]at w;cases w;rw[Nat.zero_add];exact K
   simpa[Addr.add]using this
def Zp.reA{h:BH}{b:Bk}(B:Zp U h b){g:Nat->List Int}{cb cap:Nat}{c:Array Value}(S:Zf U cb c){F:Nat->List Value}{w:Nat->Value}(P:∀i,i<h.cl->Gg U (b.cas i) (F i))(Q:Qby c h.cl λ j=>(F j).set 3 (w j))
  (T:∀i,i<h.cl->∃a len cap,w i=.slice a len cap/\Z0 U a len (g i)/\len<2^60):Zp U ⟨h.ra,h.rl,h.rc,some ⟨cb,0,none⟩,h.cl,cap⟩ (b.reA g):=by
 have G:=B.cs.1;refine⟨B.rs,⟨by rw[Bk.reA_len];exact G,λ j x E=>?_⟩,B.rl,B.cl,B.rn,λ x E=>?_⟩
 .have hj:j<h.cl:=by have:=(List.getElem?_eq_some_iff.1 E).1;rw[Bk.reA_len]at this;omega
  have z:x={ b.cas j with af:=g j }:=by
   have:(b.reA g).cas j=x:=by simp[Bk.cas,getD_eq_getElem?_getD,E]
   rw[<- this,Bk.reA_cas O1]
  obtain⟨ga,gl,gc,aa,al,ac,e,I,H,-,-⟩:=P j hj;obtain⟨wa,wl,wc,L,K,M⟩:=T j hj;refine⟨⟨cb,0,none⟩,(F j).set 3 (w j),rfl,rfl,⟨ga,gl,gc,wa,wl,wc,?_,by rw[z];exact I,H,by rw[z];exact K,M⟩,by rw[e];rfl,λ k v N=>?_⟩
  .rw[e,z,L];rfl
  .have hk4:k<4:=by have:=(List.getElem?_eq_some_iff.1 N).1;rw[e]at this;simpa using this
   have:=Q j k v hj hk4 N;rw[Qp,Qp,Nat.zero_add];exact S.sees this
 .obtain⟨i,hi,rfl⟩:=mem_map.1 E;exact B.cn (b.cas i) (Bk.mem_cas (mem_range.1 hi))
def Qd9(dy:Nat->Int)(i k:Nat):List Int:=((range k).filter λ q=>decide (dy q<dy i)).map λ(q:Nat)=>(q:Int)
def Q73(dy:Nat->Int)(i k:Nat):Qd9 dy i (k+1)=Qd9 dy i k++(if decide (dy k<dy i)then[(k:Int)]else[]):=by
 unfold Qd9;rw[range_succ,filter_append,map_append];cases h:decide (dy k<dy i) <;> simp[h]
def Qxs(dy:Nat->Int)(i k:Nat):(Qd9 dy i k).length<=k:=by
 unfold Qd9;rw[length_map];exact Nat.le_trans (length_filter_le _ _) S1
def Qbv(n:Nat)(dy:Nat->Int)(i k:Nat):Bool:=((range i).all λ j=>(range n).all λ q=>q==j|| dy q != dy j)&&(range k).all λ q=>q==i|| dy q != dy i
def Zk0(n:Nat)(dy:Nat->Int)(i k:Nat):Qbv n dy i (k+1)=(Qbv n dy i k&&(k==i|| dy k != dy i)):=by
 unfold Qbv;rw[range_succ (n:=k),all_append,Bool.and_assoc];simp
def Zkz(n:Nat)(dy:Nat->Int)(i:Nat):Qbv n dy (i+1) 0=Qbv n dy i n:=by
 unfold Qbv;rw[range_succ (n:=i),all_append];simp
def Zrq{n:Nat}{dy:Nat->Int}(h:Qbv n dy n 0=true):∀i k,i<n->k<n->i≠k->dy i≠dy k:=by
 unfold Qbv at h;simp only[Bool.and_eq_true,all_eq_true,mem_range]at h;intro i k w z b;have:=h.1 k z i w;simp only[Bool.or_eq_true,beq_iff_eq,bne_iff_ne]at this;rcases this with e|e
 .exact absurd e b
 .exact e
end Go.TM
namespace Go.TM
variable{T:Type}{U U' U'':Qa T}
structure Top(U:Qa T)(L:List Qw)(U':Qa T):Prop where
 imm:∀x o,U.I x=some o->U'.I x=some o
 own:U'.M=L++U.M
 tok:U'.tok=U.tok
def Top.le{L:List Qw}(h:Top U L U')(k:U'.le U''):Top U L U'':=⟨λ x o i=>k.imm x o (h.imm x o i),k.own.trans h.own,k.tok.trans h.tok⟩
def Top.frz{L:List Qw}(h:Top U L U'):U.frz.lg U':=⟨h.imm,⟨_,(append_nil _).symm⟩,h.tok⟩
def Top.frz2{L:List Qw}(h:Top U L U'):U.frz.lg U'.frz:=⟨h.imm,⟨[],rfl⟩,h.tok⟩
def Top.of{L:List Qw}(h:U.le U'){r:Qw}{b:Nat}{o:Array Value}{e:TypeId}(w:r=.obj b (.cells o e (0,0))):Top U [r] (U'.put b (.cells o e)):=by
 subst w;exact⟨h.imm,by show _::U'.M=_;rw[h.own];rfl,h.tok⟩
def Top.put{L:List Qw}(h:Top U L U'){b:Nat}{o:Array Value}{e:TypeId}:Top U (.obj b (.cells o e (0,0))::L) (U'.put b (.cells o e)):=⟨h.imm,by show _::U'.M=_;rw[h.own];rfl,h.tok⟩
def Top.perm{L b:List Qw}(h:Top U L U')(w:L.Perm b):∃e,Qx U' e/\Top U b e:=⟨{ U' with M:=b++U.M },HB (by rw[h.own];exact w.append_right _),h.imm,rfl,h.tok⟩
abbrev BH.l(h:BH):List Value:=[.slice h.ra h.rl h.rc,.slice h.ca h.cl h.cc]
def Top.base:Top U [] U:=⟨λ _ _ h=>h,rfl,rfl⟩
end Go.TM
namespace Go.Proofs
open Go.TM
attribute [local irreducible] Qb Zh Wh
def Qrg:List (List (Nat×St)):=[[(0,.xd 35 2 3),(0,.xd 36 2 3),(2,.d 7 (.alloc 43 #[(.slice none 0 0),(.slice none 0 0)])),(2,.d 8 (.alloc 43 #[(.slice none 0 0),(.slice none 0 0)])),(2,⟨.st 2 (.t 7) (.t 35),none,none,none⟩)],
 [(0,.xd 35 2 3),(0,.xd 36 2 3),(2,.d 8 (.alloc 43 #[(.slice none 0 0),(.slice none 0 0)])),(2,.d 7 (.alloc 43 #[(.slice none 0 0),(.slice none 0 0)])),(2,⟨.st 2 (.t 7) (.t 35),none,none,none⟩)]]
def Q7x:List St:=[⟨.st 2 (.t 8) (.t 36),none,none,none⟩]
def Qri:List (List (Nat×St)):=[[(0,.xo 38 1 3),(0,.xl 39 38),(0,.xo 42 1 3),(0,.xl 43 42),(2,.d 37 (.bsl 48 0 #[] [])),(2,.xz 40 37 39 41),(0,.xo 45 1 7),(2,.d 41 (.bsl 48 0 #[] [])),(2,.xz 44 41 43 41)],
 [(0,.xo 38 1 3),(0,.xl 39 38),(0,.xo 42 1 3),(0,.xl 43 42),(2,.d 37 (.bsl 48 0 #[] [])),(2,.d 41 (.bsl 48 0 #[] [])),(2,.xz 40 37 39 41),(0,.xo 45 1 7),(2,.xz 44 41 43 41)],
 [(0,.xo 38 1 3),(0,.xl 39 38),(0,.xo 42 1 3),(0,.xl 43 42),(2,.d 41 (.bsl 48 0 #[] [])),(2,.d 37 (.bsl 48 0 #[] [])),(2,.xz 40 37 39 41),(0,.xo 45 1 7),(2,.xz 44 41 43 41)]]
def Q7y:List St:=[⟨.st 1 (.t 45) (.t 40),none,none,none⟩,.xo 46 1 8,⟨.st 1 (.t 46) (.t 44),none,none,none⟩]
def Qpn:List (List (Nat×St)):=[[(0,.xo 63 1 7),(0,.xl 64 63),(0,.m 65 12),(0,.xo 66 1 8),(0,.xl 67 66),(0,.m 68 12),(0,.xi 69 4 64 65),(0,.xo 70 3 69),(2,⟨.st 1 (.t 70) .cn,none,none,none⟩)]]
def Qx4:List St:=[.xi 71 4 67 68,.xo 72 3 71,⟨.st 1 (.t 72) .cn,none,none,none⟩]
def Qqq:List (List (Nat×St)):=[[(0,.xo 88 1 8),(0,.xl 89 88),(0,.m 90 12),(0,.xo 91 1 8),(0,.xl 92 91),(0,.m 93 12),(0,.xi 94 4 92 93),(0,.xo 95 3 94),(0,.xl 96 95),(0,.m 97 13),(2,.d 98 (.bsl 3 1 #[(.int .i64 0)] [(0,1,(.t 97))])),(2,.xz 99 96 98 22)]]
def Q1o:List St:=[.xi 100 4 89 90,.xo 101 3 100,⟨.st 1 (.t 101) (.t 99),none,none,none⟩]
def Q71:List St:=[.xd 48 2 3,.xo 49 0 4,.xd 50 2 49,.m 51 2,.d 52 (.call (.func 13) #[(.t 48),(.t 50),(.t 51)]),.m 47 52,.xe 53 47 0,.xe 54 47 1,.m 9 53,.m 10 54]
def Qx3:List St:=[.m 61 12,.xa 62 61,.m 12 62]
def Q2k:List St:=[.xd 120 2 7,.d 121 (.call (.func 14) #[(.t 120)]),.m 119 121,.xe 122 119 0,.xe 123 119 1,.xe 124 119 2,.m 14 122,.m 15 123,.m 16 124]
def Zgz:Xh Tryz.prog 41 48 4:=.of K1
structure Zua(R:List (List Value))(n:Nat)(a:Array Value)(cap:Nat):Prop where
 sz:a.size=cap*4
 le:n<=cap
 at':∀(i:Nat)(x:Value),R.flatten[i]?=some x->a[i]?=some x
def CpL(R:List (List Value))(n:Nat):List (Nat×Option Nat)->List Qw->Prop
 |[],h=>h=[]
 |(b,none)::l,h=>∃e,h=.obj b (.cells #[] 48 (0,0))::e/\CpL R n l e
 |(b,some cap)::l,h=>∃a e,h=.obj b (.cells a 48 (0,0))::e/\Zua R n a cap/\CpL R n l e
def Cps{T:Type}(R:List (List Value))(n:Nat)(U:Qa T)(l:List (Nat×Option Nat))(U':Qa T):Prop:=∃b,CpL R n l b/\Top U b U'
section
variable{T:Type}{S:TM.Sys Tryz.prog T}{f:Fm}{K:Value->Qa T->Prop}{U U' U'':Qa T}{R:List (List Value)}{n:Nat}{l:List (Nat×Option Nat)}
def Cps.le(h:Cps R n U l U')(k:U'.le U''):Cps R n U l U'':=let ⟨Ls,h1,h2⟩:=h;⟨Ls,h1,h2.le k⟩
def Cps.frz(h:Cps R n U l U'):U.frz.lg U':=let ⟨_,_,h2⟩:=h;h2.frz
def Cps.put(h:Cps R n U l U'){q:Nat}:Cps R n U ((q,none)::l) (U'.put q (.cells #[] 48)):=let ⟨Ls,h1,h2⟩:=h;⟨_,⟨Ls,rfl,h1⟩,h2.put⟩
def CpL.top{x:Nat×Option Nat}{z:List Qw}(h:CpL R n (x::l) z):∃r w,z=r::w/\CpL R n l w/\∀l' e,CpL R n l' e->CpL R n (x::l') (r::e):=by
 obtain⟨b,_|cap⟩:=x
 .obtain⟨w,rfl,h⟩:=h;exact⟨_,w,rfl,h,λ l' e k=>⟨e,rfl,k⟩⟩
 .obtain⟨a,w,rfl,hc,h⟩:=h;exact⟨_,w,rfl,h,λ l' e k=>⟨a,e,rfl,hc,k⟩⟩
def Cps.swap{x y:Nat×Option Nat}(h:Cps R n U (x::y::l) U'):∃b,Qx U' b/\Cps R n U (y::x::l) b:=by
 obtain⟨M,w,z⟩:=h;obtain⟨r,L,rfl,B,F⟩:=w.top;obtain⟨K,e,rfl,E,G⟩:=B.top;obtain⟨b,H,I⟩:=z.perm (Perm.swap K r e);exact⟨b,H,_,G _ _ (F _ _ E),I⟩
def Cps.app{cc q:Nat}{ca:Option Addr}{x y:Operand}(h:Cps R n U ((q,none)::l) U')(V:Zo f x=.slice (some ⟨q,0,none⟩) 0 0)(W:Zo f y=.slice ca n cc)(T:Src U' ca R.flatten)(F:R.flatten.length=n*4)(P:∀w∈R.flatten,w.single=true)(X:n<=5)
  (k:∀c cap N,Cps R n U ((c,some cap)::l) N->K (.slice (some ⟨c,0,none⟩) n cap) N) :
  OX S (.raw { dst:=none,op:=(.call { callee:=.builtin .append,args:=#[x,y],argTypes:=#[41,41] }),type:=41,pos := "", after:=#[],guard:=none }) f K U':=by
 obtain⟨_,⟨L,rfl,Q⟩,B⟩:=h;refine Wy (v:=.slice (some ⟨q,0,none⟩) 0 0) (cs:=[]) (new:=R.flatten) (M₀:=L++U.M) Zgz V W (.inr ⟨q,#[],0,0,rfl,rfl,Nat.le_refl _,rfl,B.own,S1⟩) T F P (by rw[F];simp;omega) λ Y M' E b=>?_;rcases E with⟨e,-,-⟩|⟨cb,c,len,cap,rfl,G,H,I,rfl,z⟩
 .rw[e]at b;cases b
 .obtain rfl:len=n:=by rw[nil_append,F]at G;omega
  exact k cb cap _ ⟨_,⟨c,L,rfl,⟨I,H,z⟩,Q⟩,B.imm,rfl,B.tok⟩
end
abbrev z43:Array Value:=#[.slice none 0 0,.slice none 0 0]
set_option maxHeartbeats 16000000 in
def Zsv{U:Qa Tk}(ea:U.tok=⟨0,.out,none⟩)(hk:WC U)(hL:H4 U)(h:BH)(b:Bk)(hb:Zp U.frz h b)(i5:DT b)(i8:h.rl<=h.rc)(k0:h.cl<=h.cc)
  (fh:FH) (c:QV) (l:List Ap) (hx:HW U.frz fh c l) (pa:Option Addr) (pl pc:Nat) (p:List Nat) (hp:Qy U.frz pa pl 1 p λ(n:Nat)vs=>vs=[.int .u16 (n:Int)]/\n<65536) :
  J (Zd Tryz.prog 175 6) (Fin Tryz.prog λ v U'=>v=.bool true/\U.lg U') true (Rf (Frame.enter Tryz.prog 4 #[h.v,fh.v,.slice pa pl pc] .normal) []) U:=by
 refine Zv2 (args:=[_,_,_]) (Q:=λ v U'=>v=.bool true/\U.lg U') Ztl Qe K1 S1 (λ v U' q=>q.2.tok.trans ea) ?_;have fin:∀S:Qa Tk,U.lg S->Qb (Zd Tryz.prog 175 6) 6 #[] (λ v U'=>v=.bool true/\U'=S) S:=λ S h=>Zsr (h.tok.trans ea) (hk.lg h);have g9:∀{w:Qa Tk},U.frz.lg w->Qy w pa pl 1 p λ(n:Nat)vs=>vs=[.int .u16 (n:Int)]/\n<65536:=λ{w}hl=>Qy.lg (R':=λ(n:Nat)vs=>vs=[.int .u16 (n:Int)]/\n<65536) hp hl λ _ _ h=>h;have it:=hb.cs.1;have hn:=hb.rs.1
 repeat refine⟨rfl,?_⟩
 conv=>whnf
 intro B U1 h₁ hB;have hB:Zf U1 B #[.slice h.ra h.rl h.rc,.slice h.ca h.cl h.cc]:=hB
 conv=>whnf
 intro B4 S f3 ee;have ee:Zf S B4 fh.l.toArray:=ee;have hB:=hB.le f3;have ah:=h₁.trans f3;have bx:=hb.lg ah.lg.frz2;have eb:=hx.lg ah.lg.frz2;have af:∀{w:Qa Tk},S.frz.lg w->Z6 w ⟨B,0,none⟩ [.slice h.ra h.rl h.rc,.slice h.ca h.cl h.cc]:=λ hw=>(hB.imI hw.imm).rd;have hm:∀{w:Qa Tk},S.frz.lg w->Z6 w ⟨B4,0,none⟩ fh.l:=λ hw=>(ee.imI hw.imm).rd;have bv:Qb (Zd Tryz.prog 175 6) 6 #[] (λ v U'=>v=.bool true/\U'=S) S:=fin _ ah.lg;refine⟨_,⟨rfl,af Qm⟩,tQ.any,(Zsq h b bx i5 i8).mono ?_⟩;rintro _ U'⟨⟨g,rfl,hg⟩,ep⟩-;obtain rfl:=ep.symm;cases g with
 |false=>
  refine⟨uC.any,bv.go λ _=>?_⟩
  repeat refine⟨rfl,?_⟩
  conv=>whnf
  exact ah.lg
 |true=>
 refine⟨_,⟨rfl,hm Qm⟩,uB.any,(Zqr fh c l eb).mono ?_⟩;rintro _ U'⟨⟨g2,rfl,iu⟩,ep⟩-;obtain rfl:=ep.symm;cases g2 with
 |false=>
  refine⟨uC.any,bv.go λ _=>?_⟩
  repeat refine⟨rfl,?_⟩
  conv=>whnf
  exact ah.lg
 |true=>
 have hf:b.flaw Qu=0:=hg rfl;have ir:c.flaw=0:=iu rfl;have g7:=Bk.ok_of hf;have k7:=g7.nc;have k8:=g7.nr;have j9:([.slice h.ra h.rl h.rc,.slice h.ca h.cl h.cc]:List Value).length=2:=rfl
 conv=>whnf
 intro kf b3
 refine D8 (mu:=[1005,1011,1012,1017,1019]) (ops:=Pw Tryz.f4 3) (id:=3) b3 [2,3,4] [[0,1,2,3,4],[0,1,3,2,4]] [5] Qrg Q7x Qe K1 K1 K1 K1 K1
  (λ f' aj U'=>aj=[]/\∃b7 b8,XS f' [(2,.slice pa pl pc),(3,.pointer (some ⟨B,0,none⟩)),(4,.pointer (some ⟨B4,0,none⟩)),(7,.pointer (some ⟨b7,0,none⟩)),(8,.pointer (some ⟨b8,0,none⟩)),(36,.agg #[.slice h.ra h.rl h.rc,.slice h.ca h.cl h.cc])]/\Top S [.obj b8 (.cells z43 43 (0,0)),.obj b7 (.cells h.l.toArray 43 (0,0))] U') ?_ ?_
 .intro l hl;simp only[Qrg,mem_cons,not_mem_nil,or_false]at hl;rcases hl with rfl|rfl
  .refine⟨_,⟨rfl,af (Qa.le.refl _).lg.frz2⟩,_,⟨rfl,af (Qa.le.refl _).lg.frz2⟩,λ v U'=>∃q,v=.pointer (some ⟨q,0,none⟩)/\Top S [.obj q (.cells z43 43 (0,0))] U',λ v x1 x2⟨q,e,z⟩E=>⟨q,e,z.le E⟩,λ v U'⟨q,e,z⟩=>z.frz,λ U' P=>?_,λ v F=>?_⟩
   .conv=>whnf
    intro q hq;exact⟨_,.refl _,_,.refl _,q,rfl,(Top.base.le P).put⟩
   obtain⟨_,b7,rfl,-⟩:=F;refine⟨λ v U'=>∃q,v=.pointer (some ⟨q,0,none⟩)/\Top S [.obj q (.cells z43 43 (0,0)),.obj b7 (.cells z43 43 (0,0))] U',λ v x1 x2⟨q,e,z⟩E=>⟨q,e,z.le E⟩,λ v U'⟨q,e,z⟩=>z.frz,λ U' P=>?_,λ v F=>?_⟩
   .obtain⟨q',e,z⟩:=P;obtain rfl:b7=q':=by simpa using e
    conv=>whnf
    intro q hq;exact⟨_,.refl _,_,.refl _,q,rfl,z.put⟩
   obtain⟨_,b8,rfl,-⟩:=F;refine⟨λ v U'=>Top S [.obj b8 (.cells z43 43 (0,0)),.obj b7 (.cells h.l.toArray 43 (0,0))] U',λ v x1 x2 z E=>z.le E,λ v U' z=>z.frz,λ U' P=>?_,λ v F=>?_⟩
   .obtain⟨q',e,z⟩:=P;obtain rfl:b8=q':=by simpa using e
    conv=>whnf
    exact⟨rfl,Jt (vs:=h.l) [.obj b8 (.cells z43 43 (0,0))] z.own rfl (by simp[Value.single]) λ τ hI ht hM=>⟨_,.refl _,λ x o hx=>by rw[hI];exact z.imm x o hx,hM,ht.trans z.tok⟩⟩
   clear F
   conv=>whnf
   intro U' z;exact⟨rfl,b7,b8,T1,z⟩
  .refine⟨_,⟨rfl,af (Qa.le.refl _).lg.frz2⟩,_,⟨rfl,af (Qa.le.refl _).lg.frz2⟩,λ v U'=>∃q,v=.pointer (some ⟨q,0,none⟩)/\Top S [.obj q (.cells z43 43 (0,0))] U',λ v x1 x2⟨q,e,z⟩E=>⟨q,e,z.le E⟩,λ v U'⟨q,e,z⟩=>z.frz,λ U' P=>?_,λ v F=>?_⟩
   .conv=>whnf
    intro q hq;exact⟨_,.refl _,_,.refl _,q,rfl,(Top.base.le P).put⟩
   obtain⟨_,b8,rfl,-⟩:=F;refine⟨λ v U'=>∃q,v=.pointer (some ⟨q,0,none⟩)/\Top S [.obj b8 (.cells z43 43 (0,0)),.obj q (.cells z43 43 (0,0))] U',λ v x1 x2⟨q,e,z⟩E=>⟨q,e,z.le E⟩,λ v U'⟨q,e,z⟩=>z.frz,λ U' P=>?_,λ v F=>?_⟩
   .obtain⟨q',e,z⟩:=P;obtain rfl:b8=q':=by simpa using e
    conv=>whnf
    intro q hq;obtain⟨x1,k1,k2⟩:=(z.put (b:=q) (o:=z43) (e:=43)).perm (Perm.swap _ _ _);exact⟨x1,k1,_,.refl _,q,rfl,k2⟩
   obtain⟨_,b7,rfl,-⟩:=F;refine⟨λ v U'=>Top S [.obj b8 (.cells z43 43 (0,0)),.obj b7 (.cells h.l.toArray 43 (0,0))] U',λ v x1 x2 z E=>z.le E,λ v U' z=>z.frz,λ U' P=>?_,λ v F=>?_⟩
   .obtain⟨q',e,z⟩:=P;obtain rfl:b7=q':=by simpa using e
    conv=>whnf
    exact⟨rfl,Jt (vs:=h.l) [.obj b8 (.cells z43 43 (0,0))] z.own rfl (by simp[Value.single]) λ τ hI ht hM=>⟨_,.refl _,λ x o hx=>by rw[hI];exact z.imm x o hx,hM,ht.trans z.tok⟩⟩
   clear F
   conv=>whnf
   intro U' z;exact⟨rfl,b7,b8,T1,z⟩
 rintro f' aj U3⟨rfl,b7,b8,al,c3⟩;rw[<- al.ovr];clear al;refine⟨rfl,Jt (vs:=h.l) [] c3.own rfl (by simp[Value.single]) λ U4 fk hs ft=>?_⟩
 let k6:Qw->Prop:=λ _=>True
 have em:Top S [.obj b8 (.cells h.l.toArray 43 (0,0)),.obj b7 (.cells h.l.toArray 43 (0,0))] U4:=⟨λ x o hx=>by rw[fk];exact c3.imm x o hx,ft,hs.trans c3.tok⟩;clear c3 fk hs ft
 conv=>whnf
 intro a' H;refine⟨by rw[H.size,b3.size],_,H.get,?_⟩;rw[H.ds];clear H b3;have a3:S.frz.lg U4.frz:=em.frz2;obtain⟨R,im,f0,ip,el,f1⟩:=bx.cellsF;have ae:R.flatten.length=h.cl*4:=by rw[Qg3 f0,im]
 have ag:∀w∈R.flatten,w.single=true:=λ w hw=>by obtain⟨r,hr,hw⟩:=mem_flatten.1 hw;exact ip r hr w hw
 conv=>whnf
 intro kk b4;have bs:∀{w:Qa Tk},U4.frz.lg w->Src w h.ca R.flatten:=λ hw=>el.lgr (a3.trans (hw.frz2.trans Qm))
 refine D8 (mu:=[1005,1011,1012,1017,1019]) (ops:=Pw Tryz.f4 4) (id:=4) b4 [0,3,4,7] [[1,2,5,6,0,3,8,4,7],[1,2,5,6,0,4,3,8,7],[1,2,5,6,4,0,3,8,7]] [9,10,11] Qri Q7y Qe K1 K1 K1 K1 K1
  (λ f' aj U'=>aj=[]/\∃V K W L,XS f' [(2,.slice pa pl pc),(3,.pointer (some ⟨B,0,none⟩)),(4,.pointer (some ⟨B4,0,none⟩)),(7,.pointer (some ⟨b7,0,none⟩)),(8,.pointer (some ⟨b8,0,none⟩)),(40,.slice (some ⟨V,0,none⟩) h.cl K),(44,.slice (some ⟨W,0,none⟩) h.cl L),(45,.pointer (some ((Addr.mk b7 0 none).add 1)))]/\Cps R h.cl U4 [(W,some L),(V,some K)] U') ?_ ?_
 .intro l hl;simp only[Qri,mem_cons,not_mem_nil,or_false]at hl;rcases hl with rfl|rfl|rfl
  .refine⟨_,(af a3).cell (i:=1) rfl,_,(af a3).cell (i:=1) rfl,λ v U'=>∃q,v=.slice (some ⟨q,0,none⟩) 0 0/\Cps R h.cl U4 [(q,none)] U',λ v x1 x2⟨q,e,z⟩E=>⟨q,e,z.le E⟩,λ v U'⟨q,e,z⟩=>z.frz,λ U' P=>?_,λ v F=>?_⟩
   .have z:Cps R h.cl U4 [] U':=⟨[],rfl,Top.base.le P⟩
    conv=>whnf
    intro q hq;exact⟨_,.refl _,_,.refl _,q,rfl,z.put⟩
   obtain⟨_,q7,rfl,-⟩:=F;refine⟨λ v U'=>∃c cap,v=.slice (some ⟨c,0,none⟩) h.cl cap/\Cps R h.cl U4 [(c,some cap)] U',λ v x1 x2⟨c,cap,e,z⟩E=>⟨c,cap,e,z.le E⟩,λ v U'⟨c,cap,e,z⟩=>z.frz,λ U' P=>?_,λ v F=>?_⟩
   .obtain⟨q',e,z⟩:=P;obtain rfl:q7=q':=by simpa using e
    conv=>whnf
    refine z.app rfl rfl (bs z.frz) ae ag O1 λ c cap U1 G=>?_;exact⟨_,.refl _,c,cap,rfl,G⟩
   obtain⟨_,V,K,rfl,-⟩:=F;refine⟨λ v U'=>∃q,v=.slice (some ⟨q,0,none⟩) 0 0/\Cps R h.cl U4 [(q,none),(V,some K)] U',λ v x1 x2⟨q,e,z⟩E=>⟨q,e,z.le E⟩,λ v U'⟨q,e,z⟩=>z.frz,λ U' P=>?_,λ v F=>?_⟩
   .obtain⟨c',Y,e,z⟩:=P;obtain⟨rfl,rfl⟩:V=c'/\K=Y:=by simpa using e
    conv=>whnf
    intro q hq;exact⟨_,.refl _,_,.refl _,q,rfl,z.put⟩
   obtain⟨_,q8,rfl,-⟩:=F;refine⟨λ v U'=>∃c cap,v=.slice (some ⟨c,0,none⟩) h.cl cap/\Cps R h.cl U4 [(c,some cap),(V,some K)] U',λ v x1 x2⟨c,cap,e,z⟩E=>⟨c,cap,e,z.le E⟩,λ v U'⟨c,cap,e,z⟩=>z.frz,λ U' P=>?_,λ v F=>?_⟩
   .obtain⟨q',e,z⟩:=P;obtain rfl:q8=q':=by simpa using e
    conv=>whnf
    refine z.app rfl rfl (bs z.frz) ae ag O1 λ c cap U1 G=>?_;exact⟨_,.refl _,c,cap,rfl,G⟩
   obtain⟨_,W,L,rfl,-⟩:=F
   conv=>whnf
   rintro U'⟨c',Y,e,z⟩;obtain⟨rfl,rfl⟩:W=c'/\L=Y:=by simpa using e
   exact⟨rfl,V,K,W,L,T1,z⟩
  .refine⟨_,(af a3).cell (i:=1) rfl,_,(af a3).cell (i:=1) rfl,λ v U'=>∃q,v=.slice (some ⟨q,0,none⟩) 0 0/\Cps R h.cl U4 [(q,none)] U',λ v x1 x2⟨q,e,z⟩E=>⟨q,e,z.le E⟩,λ v U'⟨q,e,z⟩=>z.frz,λ U' P=>?_,λ v F=>?_⟩
   .have z:Cps R h.cl U4 [] U':=⟨[],rfl,Top.base.le P⟩
    conv=>whnf
    intro q hq;exact⟨_,.refl _,_,.refl _,q,rfl,z.put⟩
   obtain⟨_,q7,rfl,-⟩:=F;refine⟨λ v U'=>∃q,v=.slice (some ⟨q,0,none⟩) 0 0/\Cps R h.cl U4 [(q7,none),(q,none)] U',λ v x1 x2⟨q,e,z⟩E=>⟨q,e,z.le E⟩,λ v U'⟨q,e,z⟩=>z.frz,λ U' P=>?_,λ v F=>?_⟩
   .obtain⟨q',e,z⟩:=P;obtain rfl:q7=q':=by simpa using e
    conv=>whnf
    intro q hq;obtain⟨x1,k1,k2⟩:=(z.put (q:=q)).swap;exact⟨x1,k1,_,.refl _,q,rfl,k2⟩
   obtain⟨_,q8,rfl,-⟩:=F;refine⟨λ v U'=>∃c cap,v=.slice (some ⟨c,0,none⟩) h.cl cap/\Cps R h.cl U4 [(q8,none),(c,some cap)] U',λ v x1 x2⟨c,cap,e,z⟩E=>⟨c,cap,e,z.le E⟩,λ v U'⟨c,cap,e,z⟩=>z.frz,λ U' P=>?_,λ v F=>?_⟩
   .obtain⟨q',e,z⟩:=P;obtain rfl:q8=q':=by simpa using e
    conv=>whnf
    refine z.app rfl rfl (bs z.frz) ae ag O1 λ c cap U1 G=>?_;obtain⟨x1,k1,k2⟩:=G.swap;exact⟨x1,k1,c,cap,rfl,k2⟩
   obtain⟨_,V,K,rfl,-⟩:=F;refine⟨λ v U'=>∃c cap,v=.slice (some ⟨c,0,none⟩) h.cl cap/\Cps R h.cl U4 [(c,some cap),(V,some K)] U',λ v x1 x2⟨c,cap,e,z⟩E=>⟨c,cap,e,z.le E⟩,λ v U'⟨c,cap,e,z⟩=>z.frz,λ U' P=>?_,λ v F=>?_⟩
   .obtain⟨c',Y,e,z⟩:=P;obtain⟨rfl,rfl⟩:V=c'/\K=Y:=by simpa using e
    conv=>whnf
    refine z.app rfl rfl (bs z.frz) ae ag O1 λ c cap U1 G=>?_;exact⟨_,.refl _,c,cap,rfl,G⟩
   obtain⟨_,W,L,rfl,-⟩:=F
   conv=>whnf
   rintro U'⟨c',Y,e,z⟩;obtain⟨rfl,rfl⟩:W=c'/\L=Y:=by simpa using e
   exact⟨rfl,V,K,W,L,T1,z⟩
  .refine⟨_,(af a3).cell (i:=1) rfl,_,(af a3).cell (i:=1) rfl,λ v U'=>∃q,v=.slice (some ⟨q,0,none⟩) 0 0/\Cps R h.cl U4 [(q,none)] U',λ v x1 x2⟨q,e,z⟩E=>⟨q,e,z.le E⟩,λ v U'⟨q,e,z⟩=>z.frz,λ U' P=>?_,λ v F=>?_⟩
   .have z:Cps R h.cl U4 [] U':=⟨[],rfl,Top.base.le P⟩
    conv=>whnf
    intro q hq;exact⟨_,.refl _,_,.refl _,q,rfl,z.put⟩
   obtain⟨_,q8,rfl,-⟩:=F;refine⟨λ v U'=>∃q,v=.slice (some ⟨q,0,none⟩) 0 0/\Cps R h.cl U4 [(q,none),(q8,none)] U',λ v x1 x2⟨q,e,z⟩E=>⟨q,e,z.le E⟩,λ v U'⟨q,e,z⟩=>z.frz,λ U' P=>?_,λ v F=>?_⟩
   .obtain⟨q',e,z⟩:=P;obtain rfl:q8=q':=by simpa using e
    conv=>whnf
    intro q hq;exact⟨_,.refl _,_,.refl _,q,rfl,z.put⟩
   obtain⟨_,q7,rfl,-⟩:=F;refine⟨λ v U'=>∃c cap,v=.slice (some ⟨c,0,none⟩) h.cl cap/\Cps R h.cl U4 [(q8,none),(c,some cap)] U',λ v x1 x2⟨c,cap,e,z⟩E=>⟨c,cap,e,z.le E⟩,λ v U'⟨c,cap,e,z⟩=>z.frz,λ U' P=>?_,λ v F=>?_⟩
   .obtain⟨q',e,z⟩:=P;obtain rfl:q7=q':=by simpa using e
    conv=>whnf
    refine z.app rfl rfl (bs z.frz) ae ag O1 λ c cap U1 G=>?_;obtain⟨x1,k1,k2⟩:=G.swap;exact⟨x1,k1,c,cap,rfl,k2⟩
   obtain⟨_,V,K,rfl,-⟩:=F;refine⟨λ v U'=>∃c cap,v=.slice (some ⟨c,0,none⟩) h.cl cap/\Cps R h.cl U4 [(c,some cap),(V,some K)] U',λ v x1 x2⟨c,cap,e,z⟩E=>⟨c,cap,e,z.le E⟩,λ v U'⟨c,cap,e,z⟩=>z.frz,λ U' P=>?_,λ v F=>?_⟩
   .obtain⟨c',Y,e,z⟩:=P;obtain⟨rfl,rfl⟩:V=c'/\K=Y:=by simpa using e
    conv=>whnf
    refine z.app rfl rfl (bs z.frz) ae ag O1 λ c cap U1 G=>?_;exact⟨_,.refl _,c,cap,rfl,G⟩
   obtain⟨_,W,L,rfl,-⟩:=F
   conv=>whnf
   rintro U'⟨c',Y,e,z⟩;obtain⟨rfl,rfl⟩:W=c'/\L=Y:=by simpa using e
   exact⟨rfl,V,K,W,L,T1,z⟩
 rintro f' aj U5⟨rfl,V,K,W,L,al,iv⟩;rw[<- al.ovr];clear al;obtain⟨_,⟨a8,_,rfl,au,a7,_,rfl,bg,rfl⟩,en⟩:=iv;have fu:U5.M=.obj W (.cells a8 48 (0,0))::.obj V (.cells a7 48 (0,0))::.obj b8 (.cells h.l.toArray 43 (0,0))::.obj b7 (.cells h.l.toArray 43 (0,0))::S.M:=by rw[en.own,em.own];rfl
 have j1:S.frz.lg U5.frz:=a3.trans en.frz2;refine⟨rfl,WQ (i:=1) (v:=.slice (some ⟨V,0,none⟩) h.cl K) [.obj W (.cells a8 48 (0,0)),.obj V (.cells a7 48 (0,0)),.obj b8 (.cells h.l.toArray 43 (0,0))] fu (by show 1<2;omega) rfl λ U6 fl hu fv=>?_⟩;refine⟨rfl,WQ (i:=1) (v:=.slice (some ⟨W,0,none⟩) h.cl L) [.obj W (.cells a8 48 (0,0)),.obj V (.cells a7 48 (0,0))] fv (by show 1<2;omega) rfl λ U7 fo hy cx=>?_⟩;have j2:S.frz.lg U7.frz:=j1.trans ⟨λ x o hx=>by show U7.I x=_;rw[fo,fl];exact hx,⟨[],rfl⟩,by show U7.tok=_;rw[hy,hu];rfl⟩;have cx:U7.M=.obj W (.cells a8 48 (0,0))::.obj V (.cells a7 48 (0,0))::.obj b8 (.cells [.slice h.ra h.rl h.rc,.slice (some ⟨W,0,none⟩) h.cl L].toArray 43 (0,0))::.obj b7 (.cells [.slice h.ra h.rl h.rc,.slice (some ⟨V,0,none⟩) h.cl K].toArray 43 (0,0))::S.M:=cx;clear em en fu fv fl fo hu hy
 conv=>whnf
 intro a' H;refine⟨by rw[H.size,b4.size],_,H.get,?_⟩;rw[H.ds];clear H b4
 conv=>whnf
 intro kl b5;refine Qx0 (mu:=[]) (dets:=[]) (l:=Q71) b5 Qe K1 λ hw=>?_
 let H8:List Value:=[.slice h.ra h.rl h.rc,.slice (some ⟨W,0,none⟩) h.cl L]
 let H7:List Value:=[.slice h.ra h.rl h.rc,.slice (some ⟨V,0,none⟩) h.cl K]
 obtain⟨τ₁,m1,m2,m3,x1,x2,x3,e3,-,f9,-⟩:=(Jx.ofBlk (e:=43) (n:=2) (b:=b8) (len:=1) (cap:=1) (cs:=H8) (c:=H8.toArray) rfl (Nat.le_refl _) rfl (λ i x hx=>by simpa[H8]using hx)).freeze (O6 hw) (R:=.obj W (.cells a8 48 (0,0))::.obj V (.cells a7 48 (0,0))::.obj b7 (.cells H7.toArray 43 (0,0))::S.M) (by rw[cx];exact perm_middle (l₁:=[_,_]));cases e3;obtain⟨τ₂,n1,n2,n3,x1,x2,x3,e3,-,dt,-⟩:=(Jx.ofBlk (e:=43) (n:=2) (b:=b7) (len:=1) (cap:=1) (cs:=H7) (c:=H7.toArray) rfl (Nat.le_refl _) rfl (λ i x hx=>by simpa[H7]using hx)).freeze (O6 (M8 hw m1)) (R:=.obj W (.cells a8 48 (0,0))::.obj V (.cells a7 48 (0,0))::S.M) (by rw[m2];exact perm_middle (l₁:=[_,_]));cases e3
 have bi:Z6 τ₁.frz ⟨b8,0,none⟩ H8:=by
  rcases f9 with⟨h,_⟩|⟨ad,e,h⟩
  .cases h
  .cases e;exact h
 have d3:Z6 τ₂.frz ⟨b7,0,none⟩ H7:=by
  rcases dt with⟨h,_⟩|⟨ad,e,h⟩
  .cases h
  .cases e;exact h
 have bi:=bi.lg n3;have bc:S.frz.lg τ₂.frz:=j2.trans (m3.trans n3);refine⟨τ₂,m1.trans n1,?_⟩;clear f9 dt m1 m2 m3 n1 n3 cx hw;refine⟨_,⟨rfl,af (bc.trans Qm)⟩,_,⟨rfl,(hm (bc.trans Qm)).subA (o:=0) (n:=2)⟩,Zup.any,(Qqu h b (bx.lg bc) O1 fh.c c (eb.cal.lg bc) (Zf.imI hL (ah.lg.frz2.trans bc).imm) ir pa pl pc p (g9 (ah.lg.frz2.trans bc))).mono ?_⟩;rintro _ τ₃⟨⟨ds,da,be,rfl,k5,hd,ga⟩,c0⟩-;have h5:S.frz.lg τ₃.frz:=bc.trans c0.lg.frz2;have ie:τ₃.M=.obj W (.cells a8 48 (0,0))::.obj V (.cells a7 48 (0,0))::S.M:=c0.own.trans n2;have ck:∀{w:Qa Tk},τ₃.frz.lg w->Z6 w ⟨b8,0,none⟩ H8:=λ hw=>bi.lg (c0.lg.frz2.trans hw);have e9:∀{w:Qa Tk},τ₃.frz.lg w->Z6 w ⟨b7,0,none⟩ H7:=λ hw=>d3.lg (c0.lg.frz2.trans hw);clear bi d3 n2;have he:=@ck;have ha:=@e9
 let dy:Nat->Int:=λ i=>(ds.getD i 0:Nat)
 have bq:∀i,i<h.cl->(Qfe ds)[i]?=some (dy i):=λ i hi=>by
  show(ds.map _)[i]?=_;rw[getElem?_map,getElem?_eq_getElem O1];simp[dy,getD_eq_getElem?_getD,getElem?_eq_getElem (show i<ds.length by omega)]
 conv=>whnf
 intro a' H;refine⟨by rw[H.size,b5.size],_,H.get,?_⟩;rw[H.ds];clear H b5
 repeat refine⟨rfl,?_⟩
 conv=>whnf
 let g0:Nat->List Value:=λ j=>R.getD j []
 have gi:∀i,i<h.cl->Gg S.frz (b.cas i) (g0 i):=λ i hi=>by
  obtain⟨r,h1,h2⟩:=f1 i hi;have:g0 i=r:=by simp[g0,getD_eq_getElem?_getD,h1]
  rw[this];exact h2
 have e5:∀i,i<h.cl->(g0 i).length=4:=λ i hi=>(gi i hi).row.1
 have dl:∀{a:Array Value}{cap:Nat},Zua R h.cl a cap->Qby a h.cl g0:=λ{a cap}G j k v hj hk F=>by
  obtain⟨r,h1,-⟩:=f1 j hj;have e:g0 j=r:=by simp[g0,getD_eq_getElem?_getD,h1]
  rw[e]at F;exact G.at' _ v ((Qpm f0 h1 hk).trans F)
 let nl:Value:=.slice none 0 0
 let gx:Nat->(Nat->Value)->Nat->List Value:=λ i w j=>if j<i then(g0 j).set 3 (w j)else g0 j
 refine⟨Nat×(Nat->Value),λ y=>[(2,.slice pa pl pc),(3,.pointer (some ⟨B,0,none⟩)),(7,.pointer (some ⟨b7,0,none⟩)),(8,.pointer (some ⟨b8,0,none⟩)),(9,.slice da h.cl be),(11,.bool (Qbv h.cl dy y.1 0)),(12,.int .i64 y.1)],
  λ y U'=>τ₃.frz.lg U'/\y.1<=h.cl/\∃x7 x8:Array Value,U'.M=.obj W (.cells x8 48 (0,0))::.obj V (.cells x7 48 (0,0))::S.M/\x7.size=K*4/\x8.size=L*4/\Qby x7 h.cl (gx y.1 λ _=>nl)/\Qby x8 h.cl (gx y.1 y.2)/\∀j,j<y.1->∃a len cap,y.2 j=.slice a len cap/\Z0 U'.frz a len (Zk4 h.cl dy j)/\len<2^60,
  λ y=>h.cl-y.1,(0,λ _=>nl),T1,⟨Qm,O1,a7,a8,ie,bg.sz,au.sz,dl bg,dl au,λ j hj=>absurd hj O1⟩,?_⟩
 rintro⟨i,w⟩f U8⟨a9,hi,x7,x8,fw,fa,fb,ev,ex,ba⟩;simp only at hi ev ex ba;have gl:Ze ((i:Int)+1):=I1
 repeat refine⟨rfl,?_⟩
 conv=>whnf
 apply Qd<;>intro G
 rotate_left
 .have hge:i=h.cl:=by simp at G;omega
  subst hge;clear gl G ck e9;generalize an:Qbv h.cl dy h.cl 0=ap;have cj:b.cs.length=h.cl:=it
  let O:Bk:=b.bare
  let Q:Bk:=b.byDay dy
  have e4:O.flaw Qu=0:=Bk.bare_flaw hf;have gc:Q.flaw Qu=0:=Bk.byDay_flaw hf λ i _=>by show 0<=((ds.getD i 0:Nat):Int);omega
  have fy:O.Ok:=Bk.ok_of e4;have a1:Q.Ok:=Bk.ok_of gc;have cy:O.cs.length=h.cl:=Bk.reA_len.trans cj;have ek:Q.cs.length=h.cl:=Bk.reA_len.trans cj;have cz:O.rs.length=h.rl:=hn;have fz:Q.rs.length=h.rl:=hn;have ii:O.fatesR.length=h.rl:=by simp[Bk.fatesR,cz]
  have ij:O.fatesC.length=h.cl:=by simp[Bk.fatesC,cy]
  have ik:Q.fatesR.length=h.rl:=by simp[Bk.fatesR,fz]
  have il:Q.fatesC.length=h.cl:=by simp[Bk.fatesC,ek]
  have cp:ap=true->∀i k,i<b.cs.length->k<b.cs.length->i≠k->dy i≠dy k:=λ e i k h1 h2=>Zrq (an.trans e) i k O1 O1;have ia:S.frz.lg U8.frz:=h5.trans a9.frz2
  conv=>whnf
  intro kv cf;refine Qx0 (mu:=[]) (dets:=[]) (l:=Q2k) cf Qe K1 λ hw=>?_;obtain⟨π₁,z1,z2,z3⟩:=MF (U:={ U8 with M:=.obj V (.cells x7 48 (0,0))::S.M }) (O6 hw) fw (λ _ _ h=>h) rfl rfl;obtain⟨π,y1,y2,y3⟩:=MF (U:={ π₁ with M:=S.M }) (O6 (M8 hw z1)) z2.own (λ _ _ h=>h) rfl rfl;have cw:U8.frz.lg π.frz:=⟨λ x o hx=>y2.imm x o (z2.imm x o hx),⟨[],rfl⟩,y2.tok.trans z2.tok⟩;have bk:S.frz.lg π.frz:=ia.trans cw;have d2:S.le π:=⟨bk.imm,y2.own,bk.tok⟩;have f5:Zf π.frz V x7:=⟨_,_,y3⟩;have f6:Zf π.frz W x8:=⟨_,_,y2.imm _ _ z3⟩
  let ho:BH:=⟨h.ra,h.rl,h.rc,some ⟨V,0,none⟩,h.cl,K⟩
  let hq:BH:=⟨h.ra,h.rl,h.rc,some ⟨W,0,none⟩,h.cl,L⟩
  have gk:∀i,i<h.cl->Gg π.frz (b.cas i) (g0 i):=λ i hi=>(gi i hi).lg bk;have f7:Zp π.frz ho O:=(bx.lg bk).reA f5 (w:=λ _=>nl) gk (λ j k v hj hk F=>ev j k v hj hk (by show(if j<h.cl then(g0 j).set 3 nl else g0 j)[k]?=_;rw[if_pos hj];exact F)) λ i hi=>⟨none,0,0,rfl,⟨rfl,λ i x hx=>by simp at hx⟩,D1⟩
  have f8:Zp π.frz hq Q:=(bx.lg bk).reA f6 (w:=w) gk (λ j k v hj hk F=>ex j k v hj hk (by show(if j<h.cl then(g0 j).set 3 (w j)else g0 j)[k]?=_;rw[if_pos hj];exact F)) λ i hi=>by
   obtain⟨a,len,cap,e1,h1,h2⟩:=ba i hi;exact⟨a,len,cap,e1,by rw[cj];exact h1.lg cw,h2⟩
  have iz:WC S:=hk.lg ah.lg;have e6:WC π:=iz.lg d2.lg;have d4:∀{w:Qa Tk},π.frz.lg w->Z6 w ⟨b7,0,none⟩ H7:=λ hw=>ha (a9.frz2.trans (cw.trans hw));have d5:∀{w:Qa Tk},π.frz.lg w->Z6 w ⟨b8,0,none⟩ H8:=λ hw=>he (a9.frz2.trans (cw.trans hw));refine⟨π,z1.trans y1,_,⟨rfl,d4 Qm⟩,DU.any,(zD ho O f7 e6).mono ?_⟩;rintro _ π₂⟨⟨_,_,rfl,⟨ra,rc,rfl,hR⟩,⟨ca,cc,rfl,P⟩⟩,c4⟩-;rw[e4]at hR P ⊢;rw[if_pos rfl]at hR P;rw[if_pos rfl,if_pos rfl];rw[ii]at hR ⊢;rw[ij]at P ⊢
  conv=>whnf
  intro a' H;refine⟨by rw[H.size,cf.size],_,H.get,?_⟩;rw[H.ds];clear H cf;refine⟨_,⟨rfl,d5 c4.lg.frz⟩,DU.any,(zD hq Q (f8.lg c4.lg.frz2) (e6.lg c4.lg)).mono ?_⟩;rintro _ π₃⟨⟨_,_,rfl,⟨sa,sc,rfl,hS⟩,⟨cv,dc,rfl,hD⟩⟩,fg⟩-;rw[gc]at hS hD ⊢;rw[if_pos rfl]at hS hD;rw[if_pos rfl,if_pos rfl];rw[ik]at hS ⊢;rw[il]at hD ⊢;have ec:=c4.trans fg;have bh:S.le π₃:=d2.trans ec;have hR:=hR.lg fg.lg.frz2;have P:=P.lg fg.lg.frz2;have h6:∀i,i<h.rl->O.fatesR[i]?=some (O.fatR i):=λ i hi=>by simp[Bk.fatesR,cz,hi]
  have fi:∀i,i<h.cl->O.fatesC[i]?=some (O.fatC i):=λ i hi=>by simp[Bk.fatesC,cy,hi]
  have fj:∀i,i<h.rl->Q.fatesR[i]?=some (Q.fatR i):=λ i hi=>by simp[Bk.fatesR,fz,hi]
  have c9:∀i,i<h.cl->Q.fatesC[i]?=some (Q.fatC i):=λ i hi=>by simp[Bk.fatesC,ek,hi]
  repeat refine⟨rfl,?_⟩
  conv=>whnf
  apply Q7<;>intro G
  rotate_left
  .exact absurd G S1
  repeat refine⟨rfl,?_⟩
  conv=>whnf
  apply Q7<;>intro G
  rotate_left
  .exact absurd G S1
  refine⟨_,(af (bh.lg.frz)).cell (i:=0) rfl,?_⟩
  repeat refine⟨rfl,?_⟩
  conv=>whnf
  apply Q7<;>intro G
  rotate_left
  .exact absurd G S1
  repeat refine⟨rfl,?_⟩
  conv=>whnf
  apply Qd<;>intro G
  .exact absurd G S1
  refine⟨Nat,λ j=>[(2,.slice pa pl pc),(7,.pointer (some ⟨b7,0,none⟩)),(8,.pointer (some ⟨b8,0,none⟩)),(11,.bool ap),(14,.slice ra h.rl rc),(15,.slice ca h.cl cc),(17,.slice sa h.rl sc),(18,.slice cv h.cl dc),(20,.int .i64 j)],λ j U'=>π₃.le U'/\j<=h.rl,λ j=>h.rl-j,0,⟨rfl,rfl,rfl,by show Value.bool (Qbv h.cl dy h.cl 0)=.bool ap;rw[an],rfl,rfl,rfl,rfl,rfl,trivial⟩,⟨.refl _,O1⟩,?_⟩;rintro j f π₄⟨bd,hj⟩;have N:Ze ((j:Int)+1):=I1
  repeat refine⟨rfl,?_⟩
  conv=>whnf
  apply Qd<;>intro G
  .have hltj:j<h.rl:=by simpa using G
   clear G;obtain⟨aw,v1,a0,az,e7,am⟩:=(hR.lg bd.lg.frz).at hltj;obtain rfl:O.fatR j=v1:=Option.some.inj ((h6 j hltj).symm.trans a0);obtain⟨ai,v2,cq,ak,e8,aa⟩:=(hS.lg bd.lg.frz).at hltj;obtain rfl:Q.fatR j=v2:=Option.some.inj ((fj j hltj).symm.trans cq);have k1:O.fatR j≠0->Q.fatR j=O.fatR j:=Bk.byDay_fatR fy a1 j;have k2:ap=true->Q.fatR j≠0:=λ e=>Bk.byDay_sureR a1 (cp e) j;have k3:O.fatR j=0\/O.fatR j=1\/O.fatR j=2:=Qam _ _;have k4:Q.fatR j=0\/Q.fatR j=1\/Q.fatR j=2:=Qam _ _;clear a0 cq;generalize O.fatR j=x at k1 k3 am;generalize Q.fatR j=y at k1 k2 k4 aa;have kx:(x != 0)=true->(y != x)=false:=λ e=>by rw[k1 (by simpa using e)];simp
   have ky:ap=true->(y==0)=false:=λ e=>by simpa using k2 e
   refine⟨aw,j,⟨az,rfl,hltj⟩,_,am,?_⟩
   repeat refine⟨rfl,?_⟩
   conv=>whnf
   apply Q7<;>intro G
   .have hxt:(x != 0)=true:=G;clear G;refine⟨ai,j,⟨ak,rfl,hltj⟩,_,aa,aw,j,⟨az,rfl,hltj⟩,_,am,?_⟩
    repeat refine⟨rfl,?_⟩
    conv=>whnf
    rw[kx hxt];cases ap with
    |false=>
     conv=>whnf
     intro π₅ ax _
     repeat refine⟨rfl,?_⟩
     refine⟨N,?_⟩
     conv=>whnf
     exact⟨rfl,j+1,T1,⟨bd.trans ax,O1⟩,L1⟩
    |true=>
     conv=>whnf
     intro π₅ ax _;refine⟨ai,j,⟨ak,rfl,hltj⟩,_,aa.lg ax.lg,?_⟩
     repeat refine⟨rfl,?_⟩
     conv=>whnf
     rw[ky rfl]
     repeat refine⟨rfl,?_⟩
     refine⟨N,?_⟩
     conv=>whnf
     exact⟨rfl,j+1,T1,⟨bd.trans ax,O1⟩,L1⟩
   .have hxf:(x != 0)=false:=G;clear G;cases ap with
    |false=>
     conv=>whnf
     intro π₅ ax _
     repeat refine⟨rfl,?_⟩
     refine⟨N,?_⟩
     conv=>whnf
     exact⟨rfl,j+1,T1,⟨bd.trans ax,O1⟩,L1⟩
    |true=>
     conv=>whnf
     intro π₅ ax _;refine⟨ai,j,⟨ak,rfl,hltj⟩,_,aa.lg ax.lg,?_⟩
     repeat refine⟨rfl,?_⟩
     conv=>whnf
     rw[ky rfl]
     repeat refine⟨rfl,?_⟩
     refine⟨N,?_⟩
     conv=>whnf
     exact⟨rfl,j+1,T1,⟨bd.trans ax,O1⟩,L1⟩
  clear N G;refine⟨Nat,λ j=>[(2,.slice pa pl pc),(7,.pointer (some ⟨b7,0,none⟩)),(8,.pointer (some ⟨b8,0,none⟩)),(11,.bool ap),(14,.slice ra h.rl rc),(15,.slice ca h.cl cc),(17,.slice sa h.rl sc),(18,.slice cv h.cl dc),(21,.int .i64 j)],λ j U'=>π₃.le U'/\j<=h.cl,λ j=>h.cl-j,0,T1,⟨bd,O1⟩,?_⟩;rintro j f π₆⟨aq,hj⟩;have N:Ze ((j:Int)+1):=I1
  repeat refine⟨rfl,?_⟩
  conv=>whnf
  apply Qd<;>intro G
  .have hltj:j<h.cl:=by simpa using G
   clear G;obtain⟨aw,v1,a0,az,e7,am⟩:=(P.lg aq.lg.frz).at hltj;obtain rfl:O.fatC j=v1:=Option.some.inj ((fi j hltj).symm.trans a0);obtain⟨ai,v2,cq,ak,e8,aa⟩:=(hD.lg aq.lg.frz).at hltj;obtain rfl:Q.fatC j=v2:=Option.some.inj ((c9 j hltj).symm.trans cq);have k1:O.fatC j≠0->Q.fatC j=O.fatC j:=Bk.byDay_fatC fy a1 j;have k2:ap=true->Q.fatC j≠0:=λ e=>Bk.byDay_sureC a1 (cp e) j;have k3:O.fatC j=0\/O.fatC j=1\/O.fatC j=2:=Qam _ _;have k4:Q.fatC j=0\/Q.fatC j=1\/Q.fatC j=2:=Qam _ _;clear a0 cq;generalize O.fatC j=x at k1 k3 am;generalize Q.fatC j=y at k1 k2 k4 aa;have kx:(x != 0)=true->(y != x)=false:=λ e=>by rw[k1 (by simpa using e)];simp
   have ky:ap=true->(y==0)=false:=λ e=>by simpa using k2 e
   refine⟨aw,j,⟨az,rfl,hltj⟩,_,am,?_⟩
   repeat refine⟨rfl,?_⟩
   conv=>whnf
   apply Q7<;>intro G
   .have hxt:(x != 0)=true:=G;clear G;refine⟨ai,j,⟨ak,rfl,hltj⟩,_,aa,aw,j,⟨az,rfl,hltj⟩,_,am,?_⟩
    repeat refine⟨rfl,?_⟩
    conv=>whnf
    rw[kx hxt];cases ap with
    |false=>
     conv=>whnf
     intro π₇ h7 _
     repeat refine⟨rfl,?_⟩
     refine⟨N,?_⟩
     conv=>whnf
     exact⟨rfl,j+1,T1,⟨aq.trans h7,O1⟩,L1⟩
    |true=>
     conv=>whnf
     intro π₇ h7 _;refine⟨ai,j,⟨ak,rfl,hltj⟩,_,aa.lg h7.lg,?_⟩
     repeat refine⟨rfl,?_⟩
     conv=>whnf
     rw[ky rfl]
     repeat refine⟨rfl,?_⟩
     refine⟨N,?_⟩
     conv=>whnf
     exact⟨rfl,j+1,T1,⟨aq.trans h7,O1⟩,L1⟩
   .have hxf:(x != 0)=false:=G;clear G;cases ap with
    |false=>
     conv=>whnf
     intro π₇ h7 _
     repeat refine⟨rfl,?_⟩
     refine⟨N,?_⟩
     conv=>whnf
     exact⟨rfl,j+1,T1,⟨aq.trans h7,O1⟩,L1⟩
    |true=>
     conv=>whnf
     intro π₇ h7 _;refine⟨ai,j,⟨ak,rfl,hltj⟩,_,aa.lg h7.lg,?_⟩
     repeat refine⟨rfl,?_⟩
     conv=>whnf
     rw[ky rfl]
     repeat refine⟨rfl,?_⟩
     refine⟨N,?_⟩
     conv=>whnf
     exact⟨rfl,j+1,T1,⟨aq.trans h7,O1⟩,L1⟩
  clear N G;cases ap with
  |false=>
   refine⟨uC.any,(fin _ (ah.trans (bh.trans aq)).lg).go λ _=>?_⟩
   repeat refine⟨rfl,?_⟩
   conv=>whnf
   exact(ah.trans (bh.trans aq)).lg
  |true=>
  have bl:=ec.trans aq;obtain⟨o,g6⟩:∃o,o=Q.pickO p Q.cs.length []:=⟨_,rfl⟩;have br:Q.Ord o:=g6▸Bk.pick_ord a1 p;have i6:O.Ord o:=Bk.byDay_ord br;have g8:o.length=h.cl:=by rw[br.len,ek]
  have g5:O.outF (o.map λ(k:Nat)=>(k:Int))=0:=by unfold Bk.outF;rw[if_pos e4];exact i6.flaw
  have i7:(o.map λ(k:Nat)=>(k:Int)).map Int.toNat=o:=by
   rw[map_map];exact(map_congr_left (λ _ _=>rfl)).trans (map_id o)
  have c2:=O.end_len o;refine⟨_,⟨rfl,d4 (bl.lg.frz)⟩,_,⟨rfl,d5 (bl.lg.frz)⟩,λ v U'=>J0 U'.frz v (o.map λ(k:Nat)=>(k:Int)),λ v x1 x2 z E=>z.lg E.lg.frz2,λ U' E _=>?_,λ v F=>?_⟩
  .refine⟨Zuq.any,(Qrn hq Q (f8.lg (bl.trans E).lg.frz2) a1 pa pl pc p (g9 (ah.lg.frz2.trans (bk.trans (bl.trans E).lg.frz2)))).mono ?_⟩;rintro v U''⟨F,ab⟩-;rw[<- g6]at F;exact⟨U'',.refl _,F,ab⟩
  obtain⟨_,-,-,oa,oc,rfl,-⟩:=F;rw[length_map,g8];refine⟨λ v U'=>∃v1 v2,v=.tuple #[v1,v2,.int .i64 0]/\WO U'.frz v1 (O.ends o).1/\WO U'.frz v2 (O.ends o).2,λ v x1 x2⟨v1,v2,e,q1,q2⟩E=>⟨v1,v2,e,q1.lg E.lg.frz2,q2.lg E.lg.frz2⟩,λ U' E ib=>?_,λ v F=>?_⟩
  .obtain⟨-,oa',oc',e,hO⟩:=ib;rw[length_map,g8]at e hO;obtain⟨rfl,rfl⟩:oa=oa'/\oc=oc':=by simpa using e
   refine⟨Sv.any,(Fv ho O (f7.lg (bl.trans E).lg.frz2) (e6.lg (bl.trans E).lg) oa h.cl oc _ hO O1).mono ?_⟩;rintro v U''⟨⟨v1,v2,rfl,q1,q2⟩,ab⟩-;rw[g5,if_pos rfl,i7]at q1 q2;rw[g5];exact⟨U'',.refl _,⟨v1,v2,rfl,q1,q2⟩,ab⟩
  obtain⟨_,-,-,_,_,rfl,⟨ya,yc,rfl,-⟩,⟨wa,wc,rfl,-⟩⟩:=F;rw[c2.1,cz,c2.2,cy]
  conv=>whnf
  rintro π₇ h7⟨-,_,_,e,⟨j7,j8,rfl,hY⟩,⟨j5,j6,rfl,hW⟩⟩;rw[c2.1,cz,c2.2,cy]at e;obtain⟨⟨rfl,rfl⟩,rfl,rfl⟩:(ya=j7/\yc=j8)/\wa=j5/\wc=j6:=by simpa using e
  have cu:π₃.le π₇:=aq.trans h7
  repeat refine⟨rfl,?_⟩
  conv=>whnf
  apply Q7<;>intro G
  rotate_left
  .exact absurd G S1
  repeat refine⟨rfl,?_⟩
  conv=>whnf
  apply Qd<;>intro G
  .exact absurd G S1
  refine⟨Nat,λ j=>[(17,.slice sa h.rl sc),(18,.slice cv h.cl dc),(22,.slice ya h.rl yc),(23,.slice wa h.cl wc),(24,.int .i64 j)],λ j U'=>π₇.le U'/\j<=h.rl,λ j=>h.rl-j,0,T1,⟨.refl _,O1⟩,?_⟩;rintro j f π₈⟨c5,hj⟩;have N:Ze ((j:Int)+1):=I1
  repeat refine⟨rfl,?_⟩
  conv=>whnf
  apply Qd<;>intro G
  .have hltj:j<h.rl:=by simpa using G
   clear G;obtain⟨aw,v1,a0,az,e7,am⟩:=(hS.lg (cu.trans c5).lg.frz).at hltj;obtain rfl:Q.fatR j=v1:=Option.some.inj ((fj j hltj).symm.trans a0);obtain⟨bo,b0⟩:∃bo,(O.ends o).1[j]?=some bo:=⟨_,getElem?_eq_getElem (by have:=(O.end_len o).1;omega)⟩;obtain⟨ai,ak,e8,aa⟩:=hY j bo b0;have aa:=aa.lg c5.lg.frz
   have es:(Q.fatR j==0|| ((Q.fatR j==1)==bo))=true:=by
    have:=Bk.agR a1 br j;rw[Bk.byDay_ends br]at this;rw[show(O.ends o).1.getD j false=bo by rw[getD_eq_getElem?_getD,b0];rfl]at this;exact this
   refine⟨aw,j,⟨az,rfl,hltj⟩,_,am,ai,j,⟨ak,rfl,hltj⟩,_,aa,?_⟩
   conv=>whnf
   intro π₉ j3 _;refine⟨Zur.any,(Qd8 π₉ (Q.fatR j) (Qam _ _) bo).go λ _=>?_⟩;rw[es];refine⟨N,?_⟩
   conv=>whnf
   exact⟨rfl,j+1,T1,⟨c5.trans j3,O1⟩,L1⟩
  clear N G;refine⟨Nat,λ j=>[(17,.slice sa h.rl sc),(18,.slice cv h.cl dc),(22,.slice ya h.rl yc),(23,.slice wa h.cl wc),(25,.int .i64 j)],λ j U'=>π₇.le U'/\j<=h.cl,λ j=>h.cl-j,0,T1,⟨c5,O1⟩,?_⟩;rintro j f ρ₁⟨c6,hj⟩;have N:Ze ((j:Int)+1):=I1
  repeat refine⟨rfl,?_⟩
  conv=>whnf
  apply Qd<;>intro G
  .have hltj:j<h.cl:=by simpa using G
   clear G;obtain⟨aw,v1,a0,az,e7,am⟩:=(hD.lg (cu.trans c6).lg.frz).at hltj;obtain rfl:Q.fatC j=v1:=Option.some.inj ((c9 j hltj).symm.trans a0);obtain⟨bo,b0⟩:∃bo,(O.ends o).2[j]?=some bo:=⟨_,getElem?_eq_getElem (by have:=(O.end_len o).2;omega)⟩;obtain⟨ai,ak,e8,aa⟩:=hW j bo b0;have aa:=aa.lg c6.lg.frz
   have es:(Q.fatC j==0|| ((Q.fatC j==1)==bo))=true:=by
    have:=Bk.agC a1 br j;rw[Bk.byDay_ends br]at this;rw[show(O.ends o).2.getD j false=bo by rw[getD_eq_getElem?_getD,b0];rfl]at this;exact this
   refine⟨aw,j,⟨az,rfl,hltj⟩,_,am,ai,j,⟨ak,rfl,hltj⟩,_,aa,?_⟩
   conv=>whnf
   intro ρ₂ j4 _;refine⟨Zur.any,(Qd8 ρ₂ (Q.fatC j) (Qam _ _) bo).go λ _=>?_⟩;rw[es];refine⟨N,?_⟩
   conv=>whnf
   exact⟨rfl,j+1,T1,⟨c6.trans j4,O1⟩,L1⟩
  clear N G;have cg:=ah.trans (bh.trans (cu.trans c6));refine⟨uC.any,(fin _ cg.lg).go λ _=>?_⟩
  repeat refine⟨rfl,?_⟩
  conv=>whnf
  exact cg.lg
 have X:i<h.cl:=by simpa using G
 clear G;have iw:i*4+3<x7.size:=by rw[fa];have:=bg.le;omega
 have ix:i*4+3<x8.size:=by rw[fb];have:=au.le;omega
 have la:S.frz.lg U8.frz:=h5.trans a9.frz2;have bf:∀(cb:Nat),((Addr.mk cb 0 none).add (i*4)).add 3=(Addr.mk cb 0 none).add (i*4+3):=λ cb=>by rw[Qp,Qp,Qp,Nat.add_assoc]
 conv=>whnf
 intro ko b6
 refine D8 (mu:=[1005,1011,1012,1017,1019]) (ops:=Pw Tryz.f4 12) (id:=12) b6 [8] [[0,1,2,3,4,5,6,7,8]] [9,10,11] Qpn Qx4 Qe K1 K1 K1 K1 K1
  (λ f' aj U'=>aj=[]/\XS f' [(2,.slice pa pl pc),(3,.pointer (some ⟨B,0,none⟩)),(7,.pointer (some ⟨b7,0,none⟩)),(8,.pointer (some ⟨b8,0,none⟩)),(9,.slice da h.cl be),(11,.bool (Qbv h.cl dy i 0)),(12,.int .i64 i),(67,.slice (some ⟨W,0,none⟩) h.cl L),(68,.int .i64 i)]/\U8.frz.lg U'/\U'.M=.obj W (.cells x8 48 (0,0))::.obj V (.cells (x7.setIfInBounds (i*4+3) nl) 48 (0,0))::S.M) ?_ ?_
 .intro l hl;simp only[Qpn,mem_cons,not_mem_nil,or_false]at hl;subst hl;refine⟨_,(e9 a9.frz2).cell (i:=1) rfl,_,(ck a9.frz2).cell (i:=1) rfl,⟨V,0,none⟩,i,⟨rfl,rfl,X⟩,?_⟩
  conv=>whnf
  rw[bf];refine⟨λ v U'=>U8.frz.lg U'/\U'.M=.obj W (.cells x8 48 (0,0))::.obj V (.cells (x7.setIfInBounds (i*4+3) nl) 48 (0,0))::S.M,λ v y1 y2⟨q1,q2⟩E=>⟨q1.trans E.lg,E.own.trans q2⟩,λ v U' z=>z.1,λ U' P=>?_,λ v F=>?_⟩
  .conv=>whnf
   exact⟨rfl,WQ (i:=i*4+3) (v:=nl) [.obj W (.cells x8 48 (0,0))] (P.own.trans fw) iw rfl λ τ hI ht hM=>⟨_,.refl _,⟨λ x o hx=>by rw[hI];exact P.imm x o hx,⟨_,(append_nil _).symm⟩,ht.trans P.tok⟩,hM⟩⟩
  clear F
  conv=>whnf
  rintro U'⟨q1,q2⟩;exact⟨rfl,T1,q1,q2⟩
 rintro f' aj U9⟨rfl,al,g3,fx⟩;rw[<- al.ovr];clear al;refine⟨⟨W,0,none⟩,i,⟨rfl,rfl,X⟩,?_⟩
 conv=>whnf
 rw[bf];refine⟨rfl,WQ (i:=i*4+3) (v:=nl) [] fx ix rfl λ ρ fp hz bw=>?_⟩;have g4:U8.frz.lg ρ.frz:=g3.frz2.trans ⟨λ x o hx=>by show ρ.I x=_;rw[fp];exact hx,⟨[],rfl⟩,hz⟩;clear fp hz fx g3
 conv=>whnf
 intro a' H;refine⟨by rw[H.size,b6.size],_,H.get,?_⟩;rw[H.ds];clear H b6
 conv=>whnf
 have d1:∀w':Nat->Value,(gx i w' i).length=4:=λ w'=>by show(if i<i then _ else g0 i).length=4;rw[if_neg O1];exact e5 i X
 have db:=ev.set (by rw[fa];have:=bg.le;omega) X (d1 λ _=>nl) nl;have dd:=ex.set (by rw[fb];have:=au.le;omega) X (d1 w) nl;have bw:ρ.M=.obj W (.cells (x8.setIfInBounds (i*4+3) nl) 48 (0,0))::.obj V (.cells (x7.setIfInBounds (i*4+3) nl) 48 (0,0))::S.M:=bw;have d7:(x8.setIfInBounds (i*4+3) nl).size=L*4:=by simpa using fb
 have d6:(x7.setIfInBounds (i*4+3) nl).size=K*4:=by simpa using fa
 generalize x8.setIfInBounds (i*4+3) nl=z8 at bw d7 dd;generalize x7.setIfInBounds (i*4+3) nl=z7 at bw d6 db
 let gy:Value->Nat->List Value:=λ va j=>if j=i then(g0 i).set 3 va else gx i w j
 have ff:τ₃.frz.lg ρ.frz:=a9.frz2.trans g4
 refine⟨Nat×Value,λ y=>[(2,.slice pa pl pc),(3,.pointer (some ⟨B,0,none⟩)),(7,.pointer (some ⟨b7,0,none⟩)),(8,.pointer (some ⟨b8,0,none⟩)),(9,.slice da h.cl be),(11,.bool (Qbv h.cl dy i y.1)),(12,.int .i64 i),(13,.int .i64 y.1)],
  λ y U'=>ρ.frz.lg U'/\y.1<=h.cl/\∃(A:List Qw)(u8:Array Value),Jx 3 1 y.2 ((Qd9 dy i y.1).map λ n=>.int .i64 n) A/\U'.M=A++.obj W (.cells u8 48 (0,0))::.obj V (.cells z7 48 (0,0))::S.M/\u8.size=L*4/\Qby u8 h.cl (gy y.2),
  λ y=>h.cl-y.1,(0,nl),T1,⟨Qm,O1,[],z8,.nil,bw,d7,λ j k v hj hk F=>dd j k v hj hk ?_⟩,?_⟩
 .have F:(if j=i then(g0 i).set 3 nl else gx i w j)[k]?=some v:=F;show(if j=i then(gx i w i).set 3 nl else gx i w j)[k]?=some v;by_cases e:j=i
  .rw[if_pos e]at F ⊢;show((if i<i then _ else g0 i).set 3 nl)[k]?=some v;rw[if_neg O1];exact F
  .rw[if_neg e]at F ⊢;exact F
 rintro⟨k,va⟩f Ua⟨ao,iy,A,u8,a2,ei,bb,a6⟩;simp only at iy a2 a6;obtain⟨sa,sl,sc,rfl,k9⟩:=a2.src;have av:Ze ((k:Int)+1):=I1
 have c1:Z0 Ua da h.cl (Qfe ds):=ga.lg (ff.trans (ao.frz2.trans Qm));have h0:τ₃.frz.lg Ua.frz:=ff.trans ao.frz2;have j0:i*4+3<u8.size:=by rw[bb];have:=au.le;omega
 repeat refine⟨rfl,?_⟩
 conv=>whnf
 apply Qd<;>intro G
 rotate_left
 .have hge:k=h.cl:=by simp at G;omega
  subst hge;clear G
  conv=>whnf
  intro ks b9;refine Qx0 (mu:=[]) (dets:=[]) (l:=Qx3) b9 Qe K1 λ hw=>?_;obtain⟨π,k1,k2,k3,ka,kn,kc,e1,i0,i1,g1⟩:=a2.freeze (O6 hw) (by rw[ei]);cases e1;have gs:(Qd9 dy i h.cl).length=sl:=by simpa using i0
  have fq:=YS i1 g1;rw[gs]at fq;have i4:U8.frz.lg π.frz:=g4.trans (ao.frz2.trans k3);refine⟨π,k1,gl,?_⟩
  conv=>whnf
  intro a' H;refine⟨by rw[H.size,b9.size],_,H.get,?_⟩;rw[H.ds];clear H b9;have i3:=Qxs dy i h.cl;refine⟨rfl,(i+1,λ j=>if j=i then .slice sa sl sc else w j),⟨rfl,rfl,rfl,rfl,rfl,by show Value.bool (Qbv h.cl dy i h.cl)=.bool (Qbv h.cl dy (i+1) 0);rw[Zkz],rfl,trivial⟩,⟨(h0.trans k3).trans Qm,by show i+1<=h.cl;omega,z7,u8,k2,d6,bb,λ j q v hj hq F=>db j q v hj hq ?_,λ j q v hj hq F=>a6 j q v hj hq ?_,λ j hj=>?_⟩,L1⟩
  .have F:(if j<i+1 then(g0 j).set 3 nl else g0 j)[q]?=some v:=F;show(if j=i then(if i<i then _ else g0 i).set 3 nl else if j<i then(g0 j).set 3 nl else g0 j)[q]?=some v;by_cases e:j=i
   .subst e;rw[if_pos O1]at F;rw[if_pos rfl,if_neg O1];exact F
   .rw[if_neg e];by_cases e':j<i
    .rw[if_pos O1]at F;rw[if_pos e'];exact F
    .rw[if_neg O1]at F;rw[if_neg e'];exact F
  .have F:(if j<i+1 then(g0 j).set 3 (if j=i then .slice sa sl sc else w j)else g0 j)[q]?=some v:=F;show(if j=i then(g0 i).set 3 (.slice sa sl sc)else if j<i then(g0 j).set 3 (w j)else g0 j)[q]?=some v;by_cases e:j=i
   .subst e;rw[if_pos O1,if_pos rfl]at F;rw[if_pos rfl];exact F
   .rw[if_neg e]at F ⊢;by_cases e':j<i
    .rw[if_pos O1]at F;rw[if_pos e'];exact F
    .rw[if_neg O1]at F;rw[if_neg e'];exact F
  .have hj:j<i+1:=hj;show ∃a len cap,(if j=i then Value.slice sa sl sc else w j)=_/\_;by_cases e:j=i
   .subst e;rw[if_pos rfl];exact⟨sa,sl,sc,rfl,fq,O1⟩
   .rw[if_neg e];obtain⟨a,len,cap,e1,h1,h2⟩:=ba j O1;exact⟨a,len,cap,e1,h1.lg i4,h2⟩
 have ac:k<h.cl:=by simpa using G
 clear G;obtain⟨bu,xk,ct,b2,d9,co⟩:=c1.at ac;obtain rfl:dy k=xk:=Option.some.inj ((bq k ac).symm.trans ct);obtain⟨bt,xi,cr,b1,d8,cm⟩:=c1.at X;obtain rfl:dy i=xi:=Option.some.inj ((bq i X).symm.trans cr);have bj:=Q73 dy i k;have kd:=Qxs dy i k;have T:=Zk0 h.cl dy i k;refine⟨bu,k,⟨b2,rfl,ac⟩,_,co,bt,i,⟨b1,rfl,X⟩,_,cm,?_⟩
 conv=>whnf
 intro Ub ay _
 repeat refine⟨rfl,?_⟩
 conv=>whnf
 apply Qd<;>intro G
 rotate_left
 .have ch:decide (dy k<dy i)=false:=G;rw[ch,if_neg S1,append_nil]at bj;have a4:Jx 3 1 (.slice sa sl sc) ((Qd9 dy i (k+1)).map λ n=>.int .i64 n) A:=by rw[bj];exact a2
  have bp:Ub.M=A++.obj W (.cells u8 48 (0,0))::.obj V (.cells z7 48 (0,0))::S.M:=ay.own.trans ei;clear G;obtain⟨bu,xk,ct,b2,d9,co⟩:=(c1.lg ay.lg).at ac;obtain rfl:dy k=xk:=Option.some.inj ((bq k ac).symm.trans ct);obtain⟨bt,xi,cr,b1,d8,cm⟩:=(c1.lg ay.lg).at X;obtain rfl:dy i=xi:=Option.some.inj ((bq i X).symm.trans cr)
  repeat refine⟨rfl,?_⟩
  conv=>whnf
  apply Q7<;>intro G
  .have an:Qbv h.cl dy i k=true:=G;rw[an,Bool.true_and]at T;clear G
   repeat refine⟨rfl,?_⟩
   conv=>whnf
   apply Q7<;>intro G
   .have e:k≠i:=by
     have a5:((k:Int)==(i:Int))=false:=G;have:=ne_of_beq_false a5;omega
    rw[show(k==i)=false by simp[e],Bool.false_or]at T;clear G;refine⟨bu,k,⟨b2,rfl,ac⟩,_,co,bt,i,⟨b1,rfl,X⟩,_,cm,?_⟩
    conv=>whnf
    intro Ud Z _
    repeat refine⟨rfl,?_⟩
    refine⟨av,?_⟩
    conv=>whnf
    exact⟨rfl,(k+1,.slice sa sl sc),⟨rfl,rfl,rfl,rfl,rfl,by show Value.bool (dy k != dy i)=.bool (Qbv h.cl dy i (k+1));rw[T],rfl,rfl,trivial⟩,⟨(ao.trans ay.lg:ρ.frz.lg _).trans Z.lg,by show k+1<=h.cl;omega,A,u8,a4,Z.own.trans bp,bb,a6⟩,L1⟩
   .have e:k=i:=by
     have a5:((k:Int)==(i:Int))=true:=G;have:=eq_of_beq a5;omega
    rw[show(k==i)=true by simp[e],Bool.true_or]at T;clear G
    conv=>whnf
    intro Ud Z _
    repeat refine⟨rfl,?_⟩
    refine⟨av,?_⟩
    conv=>whnf
    exact⟨rfl,(k+1,.slice sa sl sc),⟨rfl,rfl,rfl,rfl,rfl,by show Value.bool true=.bool (Qbv h.cl dy i (k+1));rw[T],rfl,rfl,trivial⟩,⟨(ao.trans ay.lg:ρ.frz.lg _).trans Z.lg,by show k+1<=h.cl;omega,A,u8,a4,Z.own.trans bp,bb,a6⟩,L1⟩
  .have an:Qbv h.cl dy i k=false:=G;rw[an,Bool.false_and]at T;clear G
   conv=>whnf
   intro Ud Z _
   repeat refine⟨rfl,?_⟩
   refine⟨av,?_⟩
   conv=>whnf
   exact⟨rfl,(k+1,.slice sa sl sc),⟨rfl,rfl,rfl,rfl,rfl,by show Value.bool false=.bool (Qbv h.cl dy i (k+1));rw[T],rfl,rfl,trivial⟩,⟨(ao.trans ay.lg:ρ.frz.lg _).trans Z.lg,by show k+1<=h.cl;omega,A,u8,a4,Z.own.trans bp,bb,a6⟩,L1⟩
 have ch:decide (dy k<dy i)=true:=G;rw[ch,if_pos rfl]at bj;clear G;have bp:Ub.M=A++.obj W (.cells u8 48 (0,0))::.obj V (.cells z7 48 (0,0))::S.M:=ay.own.trans ei;have h3:τ₃.frz.lg Ub.frz:=h0.trans ay.lg.frz2
 let Uq:Qa Tk:={ Ub with M:=.obj W (.cells u8 48 (0,0))::.obj V (.cells z7 48 (0,0))::S.M }
 have f2:Uq.lg Ub:=⟨λ _ _ h=>h,⟨A,bp⟩,rfl⟩;have h4:τ₃.frz.lg Uq:=⟨h3.imm,⟨_,(append_nil _).symm⟩,h3.tok⟩
 have e2:u8[i*4+3]?=some (.slice sa sl sc):=a6 i 3 _ X O1 (by
  show(if i=i then(g0 i).set 3 (.slice sa sl sc)else gx i w i)[3]?=_;rw[if_pos rfl,getElem?_set,if_pos rfl,if_pos (by rw[e5 i X];omega)])
 have i9:Uq.sees ((Addr.mk W 0 none).add (i*4+3)) (.slice sa sl sc):=Q9 (U:=Uq) (vs:=u8.toList) (e:=48) (M₀:=.obj V (.cells z7 48 (0,0))::S.M) [] (by show _=_;simp[Uq]) (i*4+3) _ (by simpa using e2)
 conv=>whnf
 intro kt ce
 refine My (mu:=[1005,1011,1012,1017,1019]) (ops:=Pw Tryz.f4 17) (id:=17) ce Uq f2 [10,11] [[0,1,2,3,4,5,6,7,8,9,10,11]] [12,13,14] Qqq Q1o Qe K1 K1 K1 K1 K1
  (λ f' aj U'=>aj=[]/\∃ta tl tc,XS f' [(2,.slice pa pl pc),(3,.pointer (some ⟨B,0,none⟩)),(7,.pointer (some ⟨b7,0,none⟩)),(8,.pointer (some ⟨b8,0,none⟩)),(9,.slice da h.cl be),(11,.bool (Qbv h.cl dy i k)),(12,.int .i64 i),(13,.int .i64 k),(89,.slice (some ⟨W,0,none⟩) h.cl L),(90,.int .i64 i),(99,.slice ta tl tc)]/\Ub.frz.lg U'/\∃A',Jx 3 1 (.slice ta tl tc) ((Qd9 dy i (k+1)).map λ n=>.int .i64 n) A'/\U'.M=A'++.obj W (.cells u8 48 (0,0))::.obj V (.cells z7 48 (0,0))::S.M) ?_ ?_
 .intro l hl;simp only[Qqq,mem_cons,not_mem_nil,or_false]at hl;subst hl;refine⟨_,(ck h4).cell (i:=1) rfl,_,(ck h4).cell (i:=1) rfl,⟨W,0,none⟩,i,⟨rfl,rfl,X⟩,?_⟩
  conv=>whnf
  rw[bf];refine⟨_,i9,λ v U'=>∃bn,v=.slice (some ⟨bn,0,none⟩) 1 1/\Zf U' bn #[.int .i64 k]/\Ub.le U',λ v x1 x2⟨bn,e,h1,h2⟩E=>⟨bn,e,h1.le E,h2.trans E⟩,λ v U'⟨bn,e,h1,h2⟩=>f2.trans h2.lg,λ U' P=>?_,λ v F=>?_⟩
  .conv=>whnf
   intro bn bz;exact Zl bz λ U9 h9 bz=>⟨_,.refl _,bn,rfl,bz,P.trans h9⟩
  obtain⟨_,bn,rfl,-⟩:=F;refine⟨λ v U'=>(∃a l c,v=.slice a l c)/\Ub.frz.lg U'/\∃A',Jx 3 1 v ((Qd9 dy i (k+1)).map λ n=>.int .i64 n) A'/\U'.M=A'++.obj W (.cells u8 48 (0,0))::.obj V (.cells z7 48 (0,0))::S.M,λ v x1 x2⟨e,q1,A',q2,q3⟩E=>⟨e,q1.trans E.lg,A',q2,E.own.trans q3⟩,λ v U'⟨e,q1,A',q2,q3⟩=>⟨q1.imm,⟨A',q3⟩,q1.tok⟩,λ U'⟨h8,e,bz,P⟩=>?_,λ v F=>?_⟩
  .obtain rfl:bn=h8:=by simpa using e
   conv=>whnf
   refine Wy (v:=.slice sa sl sc) (cs:=(Qd9 dy i k).map λ n=>.int .i64 n) (new:=[.int .i64 (k:Int)]) (M₀:=.obj W (.cells u8 48 (0,0))::.obj V (.cells z7 48 (0,0))::S.M) HA rfl rfl (by rw[P.own,bp];exact a2 _) (.inr ⟨_,rfl,bz.rd⟩) rfl (by simp[Value.single]) S3 λ v' M' iq _=>?_;obtain⟨A',ig,bm⟩:=iq.split;obtain⟨ta,tl,tc,rfl,-⟩:=bm.src;exact⟨_,.refl _,⟨_,_,_,rfl⟩,⟨P.imm,⟨_,(append_nil _).symm⟩,P.tok⟩,A',by rw[bj,map_append];exact bm,ig⟩
  obtain⟨_,⟨ta,tl,tc,rfl⟩,-⟩:=F
  conv=>whnf
  rintro U'⟨-,q1,q2⟩;exact⟨rfl,ta,tl,tc,T1,q1,q2⟩
 rintro f' aj Uc⟨rfl,ta,tl,tc,al,i2,A',bm,ih⟩;rw[<- al.ovr];clear al;refine⟨⟨W,0,none⟩,i,⟨rfl,rfl,X⟩,?_⟩
 conv=>whnf
 rw[bf];refine⟨rfl,WQ (i:=i*4+3) (v:=.slice ta tl tc) A' ih j0 rfl λ Ue ic jj ej=>?_⟩;have ab:Ua.frz.lg Ue:=ay.lg.frz2.trans (i2.frz2.trans ⟨λ x o hx=>by show Ue.I x=_;rw[ic];exact hx,⟨_,(append_nil _).symm⟩,jj⟩);have fc:(u8.setIfInBounds (i*4+3) (.slice ta tl tc)).size=L*4:=by simpa using bb
 have e0:Qby (u8.setIfInBounds (i*4+3) (.slice ta tl tc)) h.cl (gy (.slice ta tl tc)):=λ j q v hj hq F=>by
  have hg:(gy (.slice sa sl sc) i).length=4:=by show(if i=i then(g0 i).set 3 _ else _).length=4;rw[if_pos rfl,length_set];exact e5 i X
  refine a6.set (by rw[bb];have:=au.le;omega) X hg (.slice ta tl tc) j q v hj hq ?_;have F:(if j=i then(g0 i).set 3 (.slice ta tl tc)else gx i w j)[q]?=some v:=F;show(if j=i then(if i=i then(g0 i).set 3 (.slice sa sl sc)else gx i w i).set 3 (.slice ta tl tc)else if j=i then(g0 i).set 3 (.slice sa sl sc)else gx i w j)[q]?=some v;by_cases e:j=i
  .rw[if_pos e]at F ⊢;rw[if_pos rfl,set_set];exact F
  .rw[if_neg e]at F ⊢;rw[if_neg e];exact F
 have d0:Z0 Ua.frz da h.cl (Qfe ds):=ga.lg (ff.trans ao.frz2)
 conv=>whnf
 intro a' H;refine⟨by rw[H.size,ce.size],_,H.get,?_⟩;rw[H.ds];clear H ce;obtain⟨bu,xk,ct,b2,d9,co⟩:=(d0.lg ab).at ac;obtain rfl:dy k=xk:=Option.some.inj ((bq k ac).symm.trans ct);obtain⟨bt,xi,cr,b1,d8,cm⟩:=(d0.lg ab).at X;obtain rfl:dy i=xi:=Option.some.inj ((bq i X).symm.trans cr)
 repeat refine⟨rfl,?_⟩
 conv=>whnf
 apply Q7<;>intro G
 .have an:Qbv h.cl dy i k=true:=G;rw[an,Bool.true_and]at T;clear G
  repeat refine⟨rfl,?_⟩
  conv=>whnf
  apply Q7<;>intro G
  .have e:k≠i:=by
    have a5:((k:Int)==(i:Int))=false:=G;have:=ne_of_beq_false a5;omega
   rw[show(k==i)=false by simp[e],Bool.false_or]at T;clear G;refine⟨bu,k,⟨b2,rfl,ac⟩,_,co,bt,i,⟨b1,rfl,X⟩,_,cm,?_⟩
   conv=>whnf
   intro Ud Z _
   repeat refine⟨rfl,?_⟩
   refine⟨av,?_⟩
   conv=>whnf
   exact⟨rfl,(k+1,.slice ta tl tc),⟨rfl,rfl,rfl,rfl,rfl,by show Value.bool (dy k != dy i)=.bool (Qbv h.cl dy i (k+1));rw[T],rfl,rfl,trivial⟩,⟨(ao.frz2.trans ab:ρ.frz.lg _).trans Z.lg,by show k+1<=h.cl;omega,A',_,bm,Z.own.trans ej,fc,e0⟩,L1⟩
  .have e:k=i:=by
    have a5:((k:Int)==(i:Int))=true:=G;have:=eq_of_beq a5;omega
   rw[show(k==i)=true by simp[e],Bool.true_or]at T;clear G
   conv=>whnf
   intro Ud Z _
   repeat refine⟨rfl,?_⟩
   refine⟨av,?_⟩
   conv=>whnf
   exact⟨rfl,(k+1,.slice ta tl tc),⟨rfl,rfl,rfl,rfl,rfl,by show Value.bool true=.bool (Qbv h.cl dy i (k+1));rw[T],rfl,rfl,trivial⟩,⟨(ao.frz2.trans ab:ρ.frz.lg _).trans Z.lg,by show k+1<=h.cl;omega,A',_,bm,Z.own.trans ej,fc,e0⟩,L1⟩
 .have an:Qbv h.cl dy i k=false:=G;rw[an,Bool.false_and]at T;clear G
  conv=>whnf
  intro Ud Z _
  repeat refine⟨rfl,?_⟩
  refine⟨av,?_⟩
  conv=>whnf
  exact⟨rfl,(k+1,.slice ta tl tc),⟨rfl,rfl,rfl,rfl,rfl,by show Value.bool false=.bool (Qbv h.cl dy i (k+1));rw[T],rfl,rfl,trivial⟩,⟨(ao.frz2.trans ab:ρ.frz.lg _).trans Z.lg,by show k+1<=h.cl;omega,A',_,bm,Z.own.trans ej,fc,e0⟩,L1⟩
end Go.Proofs

