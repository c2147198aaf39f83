/- Lemmas. No conditions. -/
import Derived.Test.YtnpfcnfhfkflhaaGreatDoorC00
set_option linter.all false
set_option maxRecDepth 100000
open List
namespace Go.TM
variable{T:Type}{U:Qa T}
def Bk.nextsTo(b:Bk)(o:List Nat)(i:Nat):List Nat:=(range i).filter λ i=>b.can o i
def Bk.nextsTo_succ(b:Bk)(o:List Nat)(i:Nat):b.nextsTo o (i+1)=b.nextsTo o i++(if b.can o i then[i]else[]):=by
 unfold Bk.nextsTo;rw[range_succ,filter_append];cases h:b.can o i <;> simp[h]
def Bk.nextsTo_len(b:Bk)(o:List Nat)(i:Nat):(b.nextsTo o i).length<=i:=Nat.le_trans (length_filter_le _ _) S1
def Qp5(o:List Nat)(i:Nat):(o.map λ(k:Nat)=>(k:Int)).contains (i:Int)=o.contains i:=by
 rw[Bool.eq_iff_iff,contains_iff_mem,contains_iff_mem,mem_map];constructor
 .rintro⟨k,hk,e⟩;have:k=i:=O1
  exact this▸hk
 .intro h;exact⟨i,h,rfl⟩
def Bk.pickO_succ(b:Bk)(p:List Nat)(k:Nat)(o:List Nat):b.pickO p (k+1) o=b.pickO p k (o++[(b.nexts o).getD (p.getD o.length 0 % (b.nexts o).length) 0]):=rfl
end Go.TM
namespace Go.Proofs
open Go.TM
variable{T:Type}{S:TM.Sys Tryz.prog T}{U:Qa T}
attribute [local irreducible] Qb Zl Wt
def Qdc(a:Option Addr)(len cap:Nat)(p:List Nat)(f:Q5 U a len 1 p λ n vs=>vs=[.int .u16 (n:Int)]/\n<65536)(k:Nat):Qb S 83 #[.slice a len cap,.int .i64 k] (λ v U'=>v=.int .i64 (p.getD k 0:Nat)/\U'=U) U:=by
 refine Qb.of (args:=[_,_]) Qpf Qf S1 ?_;have h:=f.1
 repeat refine⟨rfl,?_⟩
 conv=>whnf
 apply Qe<;>intro d
 .have hlt:k<len:=by simpa using d
  obtain⟨g,n,vs,j,b,i,⟨rfl,l⟩,-,c⟩:=f.at hlt;have e:p.getD k 0=n:=by simp[getD_eq_getElem?_getD,j]
  rw[e];refine⟨g,k,⟨b,rfl,hlt⟩,_,c 0 _ rfl,?_⟩
  repeat refine⟨rfl,?_⟩
  conv=>whnf
  rw[ZZ O1];exact⟨rfl,rfl⟩
 .have hge:len<=k:=by simp at d;omega
  have e:p.getD k 0=0:=by simp[getD_eq_getElem?_getD,getElem?_eq_none (show p.length<=k by omega)]
  rw[e]
  repeat refine⟨rfl,?_⟩
  conv=>whnf
set_option maxHeartbeats 2000000 in
def Qdh(h:BH)(b:Bk)(hb:Zq U.frz h b)(O:b.Ok)(T:Option Addr)(V pc:Nat)(p:List Nat)(hp:Q5 U.frz T V 1 p λ n vs=>vs=[.int .u16 (n:Int)]/\n<65536) :
  Qb S 33 #[h.v,.slice T V pc] (λ v U'=>Jd U'.frz v ((b.pickO p b.cs.length []).map λ(k:Nat)=>(k:Int))/\U.le U') U:=by
 refine Qb.ints (e:=3) (Qb.of (args:=[_,_]) Qlg Qf S1 ?_);have ab:=hb.cs.1;have bg:=O.nc
 repeat refine⟨rfl,?_⟩
 conv=>whnf
 intro B U1 w hB;have hB:Zi U1 B #[.slice h.ra h.rl h.rc,.slice h.ca h.cl h.cc]:=hB;have a5:=hb.lg w.lg.frz2
 refine⟨List Nat×Value,λ y=>[(1,.slice T V pc),(2,.pointer (some ⟨B,0,none⟩)),(5,y.2)],
  λ y U'=>U1.frz.lg U'/\Acc 3 1 y.2 ((y.1.map λ(k:Nat)=>(k:Int)).map λ n=>.int .i64 n) U'.M U.M/\b.Beg y.1/\b.pickO p (h.cl-y.1.length) y.1=b.pickO p h.cl [],λ y=>h.cl-y.1.length,([],.slice none 0 0),T1,⟨Qp,by rw[w.own];exact .nil,.nil,rfl⟩,?_⟩
 rintro⟨o,v⟩f H⟨N,l,s,a⟩;simp only at l s a;obtain⟨oa,oc,rfl,hO⟩:=SY (U:=H) l;rw[length_map]at hO l ⊢;have bh:=s.le;have X:=hB.imI N.imm;have a6:=a5.lg N.frz2;refine⟨_,X.sees3 (o:=1) rfl,?_⟩
 repeat refine⟨rfl,?_⟩
 conv=>whnf
 apply Qe<;>intro F
 .have hlt:o.length<h.cl:=by simpa using F
  refine⟨Nat×Value,λ y=>[(1,.slice T V pc),(2,.pointer (some ⟨B,0,none⟩)),(5,.slice oa o.length oc),(6,y.2),(7,.int .i64 y.1)],
   λ y U'=>H.frz.lg U'/\Acc 3 1 y.2 (((b.nextsTo o y.1).map λ(k:Nat)=>(k:Int)).map λ n=>.int .i64 n) U'.M H.M/\y.1<=h.cl,λ y=>h.cl-y.1,(0,.slice none 0 0),T1,⟨Qp,.nil,S1⟩,?_⟩
  rintro⟨i,vc⟩f U3⟨r,d,hi⟩;simp only at d hi;obtain⟨A,hA,-⟩:=d.split;have D:H.lg U3:=⟨λ x o Q=>r.imm x o Q,⟨A,hA⟩,r.tok⟩;obtain⟨ca,cc,rfl,hC⟩:=SY (U:=U3) d;rw[length_map]at hC d ⊢;have Y:=hO.lg D;have I:=X.lg D;have a7:=a6.lg D.frz2;have ak:Zu ((i:Int)+1):=I1
  have a8:=b.nextsTo_len o i;refine⟨_,I.sees3 (o:=1) rfl,?_⟩
  repeat refine⟨rfl,?_⟩
  conv=>whnf
  apply Qe<;>intro F
  .have hlti:i<h.cl:=by simpa using F
   obtain⟨ad,c,ga,gl,gc,aa,R,ac,Q,ae,bi,ao,-,-,ha,bf,am⟩:=a7.case hlti;have a4:=Bk.aft1_at Q;have a3:=O.af c am;have bc:=ha.1;refine⟨Qaq.any,(Qae oa o.length oc (o.map λ(k:Nat)=>(k:Int)) Y O1 (i:Int)).go λ _=>?_⟩;rw[Qp5]
   refine⟨Nat×Bool,λ y=>[(1,.slice T V pc),(2,.pointer (some ⟨B,0,none⟩)),(5,.slice oa o.length oc),(6,.slice ca (b.nextsTo o i).length cc),(7,.int .i64 i),(8,.bool y.2),(9,.int .i64 y.1)],
    λ y U'=>U'=U3/\y.1<=R/\(!o.contains i&&((c.af.take y.1).map Int.toNat).all λ k=>o.contains k)=y.2,λ y=>R-y.1,(0,!o.contains i),T1,⟨rfl,S1,S1⟩,?_⟩
   rintro⟨k,t⟩f U4⟨hU,hk,ht⟩;obtain rfl:=hU.symm;simp only at hk ht;have G:Zu ((k:Int)+1):=I1
   refine⟨_,I.sees3 (o:=1) rfl,ad,i,⟨ae,rfl,hlti⟩,_,(ao.lg Qp).cell (i:=3) rfl,?_⟩
   repeat refine⟨rfl,?_⟩
   conv=>whnf
   apply Qe<;>intro F
   .have hltk:k<R:=by simpa using F
    obtain⟨ax,n,av,ag,bd,a9⟩:=(ha.lg Qp).at hltk;obtain⟨q,rfl⟩:=Int.eq_ofNat_of_zero_le (a3 n (mem_of_getElem? av)).1
    have E:(!o.contains i&&((c.af.take (k+1)).map Int.toNat).all λ k=>o.contains k)=(t&&o.contains q):=by
     rw[Ji av,map_append,all_append,<- Bool.and_assoc,ht];simp
    cases t with
    |false=>
     refine⟨G,?_⟩
     conv=>whnf
     exact⟨rfl,(k+1,false),T1,⟨rfl,by show k+1<=R;omega,E⟩,L1⟩
    |true=>
     refine⟨_,I.sees3 (o:=1) rfl,ad,i,⟨ae,rfl,hlti⟩,_,(ao.lg Qp).cell (i:=3) rfl,ax,k,⟨ag,rfl,hltk⟩,_,a9,Qaq.any,(Qae oa o.length oc (o.map λ(k:Nat)=>(k:Int)) Y O1 (q:Int)).go λ _=>?_⟩;rw[Qp5];refine⟨G,?_⟩
     conv=>whnf
     exact⟨rfl,(k+1,o.contains q),T1,⟨rfl,by show k+1<=R;omega,E⟩,L1⟩
   have K:k=R:=by simp at F;omega
   rw[take_of_length_le O1,<- a4]at ht;have Z:b.can o i=t:=ht;have g:=b.nextsTo_succ o i;rw[Z]at g;cases t with
   |false=>
    rw[if_neg S1,append_nil]at g;refine⟨ak,?_⟩
    conv=>whnf
    exact⟨rfl,(i+1,.slice ca (b.nextsTo o i).length cc),T1,⟨r,by rw[g];exact d,by show i+1<=h.cl;omega⟩,L1⟩
   |true=>
    rw[if_pos rfl]at g
    conv=>whnf
    intro az ai;refine Zk ai λ W h5 z=>?_;have z:Zi W az #[.int .i64 i]:=z
    conv=>whnf
    refine Ws (v:=.slice ca (b.nextsTo o i).length cc) (cs:=((b.nextsTo o i).map λ(k:Nat)=>(k:Int)).map λ n=>.int .i64 n) (new:=[.int .i64 (i:Int)]) (M₀:=H.M) Hf rfl rfl (by rw[h5.own];exact d) (.inr ⟨_,rfl,z.rd⟩) rfl (by simp[Value.single]) S3 λ v' M' J _=>?_;have j:Acc 3 1 v' (((b.nextsTo o (i+1)).map λ(k:Nat)=>(k:Int)).map λ n=>.int .i64 n) M' H.M:=by rw[g,map_append,map_append];exact J
    obtain⟨ta,tl,tc,rfl,-,-⟩:=Acc.src (U:={ W with M:=M' }) j;refine⟨ak,?_⟩
    conv=>whnf
    exact⟨rfl,(i+1,.slice ta tl tc),T1,⟨⟨λ x o Q=>h5.imm x o (r.imm x o Q),⟨_,(append_nil _).symm⟩,h5.tok.trans r.tok⟩,j,by show i+1<=h.cl;omega⟩,L1⟩
  have K:i=h.cl:=by simp at F;omega
  subst K;have E:b.nextsTo o h.cl=b.nexts o:=by unfold Bk.nextsTo Bk.nexts;rw[ab]
  rw[E]at hC a8 ⊢;have an:=s.next O O1;obtain⟨q,P⟩:∃q,q=p.getD o.length 0 % (b.nexts o).length:=⟨_,rfl⟩;have hq:q<(b.nexts o).length:=P▸Nat.mod_lt _ an;obtain⟨aq,ar⟩:=Bk.nexts_at hq;obtain⟨m,hm⟩:∃m,h.cl-o.length=m+1:=⟨h.cl-o.length-1,O1⟩;rw[hm,b.pickO_succ,<- P]at a;obtain⟨x,aw⟩:∃x,x=(b.nexts o).getD q 0:=⟨_,rfl⟩;rw[<- aw]at aq ar a
  have L:(b.nexts o)[q]?=some x:=by
   rw[aw,getD_eq_getElem?_getD,getElem?_eq_getElem hq];rfl
  obtain⟨ay,x4,au,ah,be,ba⟩:=hC.at hq;obtain rfl:(x:Int)=x4:=by rw[getElem?_map,L]at au;exact Option.some.inj au
  have ap:((p.getD o.length 0:Nat):Int).tmod ((b.nexts o).length:Nat)=(q:Nat):=by rw[P];exact(Int.ofNat_tmod _ _).symm
  refine⟨Qpf.any,(Qdc T V pc p (Q5.lg (R':=λ(n:Nat)vs=>vs=[.int .u16 (n:Int)]/\n<65536) hp ((w.lg.frz2.trans (N.frz2.trans D.frz2)).trans Qp) λ _ _ h=>h) o.length).go λ _=>?_⟩;refine⟨rfl,O1,?_⟩;rw[ap];refine⟨ay,q,⟨ah,rfl,hq⟩,_,ba,?_⟩
  conv=>whnf
  intro a0 aj;refine xM (M':=H.M) (M₀:=A) aj (by rw[hA];exact perm_append_comm) λ W a1 bb a2 C=>?_;have C:Zi W a0 #[.int .i64 x]:=C
  conv=>whnf
  refine Ws (v:=.slice oa o.length oc) (cs:=(o.map λ(k:Nat)=>(k:Int)).map λ n=>.int .i64 n) (new:=[.int .i64 (x:Int)]) (M₀:=U.M) Hf rfl rfl (by rw[a2];exact l) (.inr ⟨_,rfl,C.rd⟩) rfl (by simp[Value.single]) S3 λ v' M' J _=>?_;have j:Acc 3 1 v' (((o++[x]).map λ(k:Nat)=>(k:Int)).map λ n=>.int .i64 n) M' U.M:=by rw[map_append,map_append];exact J
  obtain⟨ta,tl,tc,rfl,-,-⟩:=Acc.src (U:={ W with M:=M' }) j
  conv=>whnf
  exact⟨rfl,(o++[x],.slice ta tl tc),T1,⟨⟨λ y u hy=>a1 y u (r.imm y u (N.imm y u hy)),⟨_,(append_nil _).symm⟩,bb.trans (r.tok.trans N.tok)⟩,j,s.snoc aq ar,by simp only[length_append,length_singleton];rw[show h.cl-(o.length+1)=m by omega];exact a⟩,by simp only[length_append,length_singleton];omega⟩
 .have K:o.length=h.cl:=by simp at F;omega
  rw[show h.cl-o.length=0 by omega]at a;have a:o=b.pickO p h.cl []:=a
  repeat refine⟨rfl,?_⟩
  conv=>whnf
  exact⟨by rw[ab,<- a];exact l,λ x o Q=>N.imm x o (w.imm x o Q),N.tok.trans w.tok⟩
end Go.Proofs
namespace Go.TM
variable{T:Type}{P:Program}{S:Sys P T}
structure Hlr(U:Qa T)(b:Nat)(e:TypeId)(c:Array Value)(U':Qa T):Prop where
 imm:∀x o,U.I x=some o->U'.I x=some o
 own:U'.M=.obj b (.cells c e (0,0))::U.M
 tok:U'.tok=U.tok
 new:U.I b=none
def Hlr.le{U U' a:Qa T}{b:Nat}{e:TypeId}{c:Array Value}(h:Hlr U b e c U')(k:U'.le a):Hlr U b e c a:=⟨λ x o i=>k.imm x o (h.imm x o i),k.own.trans h.own,k.tok.trans h.tok,h.new⟩
def Hlr.frz2{U U':Qa T}{b:Nat}{e:TypeId}{c:Array Value}(h:Hlr U b e c U'):U.frz.lg U'.frz:=⟨h.imm,⟨[],rfl⟩,h.tok⟩
def Hlr.frz1{U U':Qa T}{b:Nat}{e:TypeId}{c:Array Value}(h:Hlr U b e c U'):U.frz.lg U':=⟨h.imm,⟨_,(append_nil _).symm⟩,h.tok⟩
def Hlr.made{U U':Qa T}{b:Nat}{e:TypeId}{c:Array Value}(h:U.le U')(d:U'.free b):Hlr U b e c (U'.put b (.cells c e)):=by
 refine⟨h.imm,by show _::U'.M=_;rw[h.own],h.tok,?_⟩;cases a:U.I b with
 |none=>rfl
 |some o=>have:=h.imm b o a;rw[d.1]at this;cases this
def Hlr.write{U U':Qa T}{b:Nat}{e:TypeId}{c:Array Value}{vs:List Value}{Q:Qa T->Prop}(h:Hlr U b e c U')(d:c.size=vs.length)(g:∀v∈vs,v.single=true)(f:∀a,U.le a->Zi a b vs.toArray->Q a):ZA ⟨b,0,none⟩ vs 0 (λ U'=>∃a,Qw U' a/\Q a) U':=by
 refine VP [] vs 0 c U' h.own g O1 ?_;rw[Y7 d];refine⟨_,We (b:=b) (M':=U.M) (Perm.refl _),f _ ⟨λ x o i=>?_,rfl,h.tok⟩ Zi.new⟩;show JI U'.I b _ x=_;unfold JI;rw[if_neg]
 .exact h.imm x o i
 .rintro rfl;rw[h.new]at i;cases i
end Go.TM
namespace Go.TM
variable{T:Type}{U U':Qa T}{e:TypeId}{z:Array Value}{b b7 b8:Nat}{vs:List Value}
def Tw1(U:Qa T)(e:TypeId)(z:Array Value)(b:Nat)(U':Qa T):Prop:=U.free b/\Hlr U b e z U'
def Tw1.le{a:Qa T}(h:Tw1 U e z b U')(k:U'.le a):Tw1 U e z b a:=⟨h.1,h.2.le k⟩
def Zbz(h:U.le U')(a:U'.free b):U.free b:=by
 refine⟨?_,λ r d=>a.2 r (by rw[h.own];exact d)⟩;cases c:U.I b with
 |none=>rfl
 |some o=>have:=h.imm b o c;rw[a.1]at this;cases this
def Tw1.made(h:U.le U')(a:U'.free b):Tw1 U e z b (U'.put b (.cells z e)):=⟨Zbz h a,.made h a⟩
structure Tw2(U:Qa T)(e:TypeId)(z:Array Value)(b7 b8:Nat)(U':Qa T):Prop where
 imm:∀x o,U.I x=some o->U'.I x=some o
 own:U'.M=.obj b8 (.cells z e (0,0))::.obj b7 (.cells z e (0,0))::U.M
 tok:U'.tok=U.tok
 f7:U.free b7
 f8:U.free b8
 ne:b8≠b7
def Tw2.le{a:Qa T}(h:Tw2 U e z b7 b8 U')(k:U'.le a):Tw2 U e z b7 b8 a:=⟨λ x o i=>k.imm x o (h.imm x o i),k.own.trans h.own,k.tok.trans h.tok,h.f7,h.f8,h.ne⟩
def Tw2.frz(h:Tw2 U e z b7 b8 U'):U.frz.lg U':=⟨h.imm,⟨_,(append_nil _).symm⟩,h.tok⟩
def Tw1.free2(h:Tw1 U e z b U'){c:Nat}(a:U'.free c):U.free c/\c≠b:=by
 refine⟨⟨?_,λ r g=>a.2 r (by rw[h.2.own];exact mem_cons_of_mem _ g)⟩,λ d=>a.2 (.obj b (.cells z e (0,0))) (by rw[h.2.own];exact mem_cons_self ..) d.symm⟩;cases f:U.I c with
 |none=>rfl
 |some o=>have:=h.2.imm c o f;rw[a.1]at this;cases this
def Tw1.made1(h:Tw1 U e z b7 U')(b:U'.free b8):∃a,Qw (U'.put b8 (.cells z e)) a/\Tw2 U e z b7 b8 a:=
 ⟨_,.refl _,h.2.imm,by show _::U'.M=_;rw[h.2.own],h.2.tok,h.1,(h.free2 b).1,(h.free2 b).2⟩
def Tw1.made2(h:Tw1 U e z b8 U')(b:U'.free b7):∃a,Qw (U'.put b7 (.cells z e)) a/\Tw2 U e z b7 b8 a:=
 ⟨_,W7 (M':=.obj b8 (.cells z e (0,0))::.obj b7 (.cells z e (0,0))::U.M) (by show(_::U'.M).Perm _;rw[h.2.own];exact Perm.swap _ _ _),h.2.imm,rfl,h.2.tok,(h.free2 b).1,h.1,(h.free2 b).2.symm⟩
def Tw3(U:Qa T)(e:TypeId)(z:Array Value)(vs:List Value)(b7 b8:Nat)(U':Qa T):Prop:=∃a,U.le a/\Zi a b7 vs.toArray/\Hlr a b8 e z U'
def Tw3.le{b:Qa T}(h:Tw3 U e z vs b7 b8 U')(k:U'.le b):Tw3 U e z vs b7 b8 b:=let ⟨a,h1,h2,h3⟩:=h;⟨a,h1,h2,h3.le k⟩
def Tw3.frz(h:Tw3 U e z vs b7 b8 U'):U.frz.lg U':=let ⟨_,h1,_,h3⟩:=h;⟨λ x o i=>h3.imm x o (h1.imm x o i),⟨_,(append_nil _).symm⟩,h3.tok.trans h1.tok⟩
def Tw2.write(h:Tw2 U e z b7 b8 U')(c:z.size=vs.length)(f:∀v∈vs,v.single=true):ZA ⟨b7,0,none⟩ vs 0 (λ a=>∃d,Qw a d/\Tw3 U e z vs b7 b8 d) U':=by
 refine VP [.obj b8 (.cells z e (0,0))] vs 0 z U' (M₀:=U.M) h.own f O1 ?_;rw[Y7 c];refine⟨_,We (b:=b7) (M':=.obj b8 (.cells z e (0,0))::U.M) (Perm.swap ..),{ U with I:=JI U.I b7 (.cells vs.toArray e) },GF h.f7,Zi.new,?_,rfl,h.tok,?_⟩
 .intro x o hx;simp only[JI]at hx ⊢;split at hx
  .rename_i hxb;rw[if_pos hxb];exact hx
  .rename_i hxb;rw[if_neg hxb];exact h.imm x o hx
 .show JI U.I b7 _ b8=none;unfold JI;rw[if_neg h.ne];exact h.f8.1
def Tw3.write{ws:List Value}{Q:Qa T->Prop}(h:Tw3 U e z vs b7 b8 U')(c:z.size=ws.length)(g:∀v∈ws,v.single=true)(f:∀a,U.le a->Zi a b7 vs.toArray->Zi a b8 ws.toArray->Q a):ZA ⟨b8,0,none⟩ ws 0 (λ b=>∃a,Qw b a/\Q a) U':=
 let ⟨_,h1,h2,h3⟩:=h
 h3.write c g λ a d i=>f a (h1.trans d) (h2.le d) i
end Go.TM
namespace Go.TM
def Bk.freeB(b:Bk)(i k:Nat):Bool:=!((b.cas i).gs.any λ g=>g.contains (b.cas k).ag)&&(!((b.cas k).gs.any λ g=>g.contains (b.cas i).ag)&&(!(b.cas i).af.contains (k:Int)&&!(b.cas k).af.contains (i:Int)))
def Bk.free_of{b:Bk}{i k:Nat}(h:b.freeB i k=true):b.Free i k:=by
 unfold Bk.freeB at h;simp only[Bool.and_eq_true,Bool.not_eq_true',any_eq_false,contains_iff_mem]at h;obtain⟨c,d,e,f⟩:=h;exact⟨λ g a=>by simpa using c g a,λ g a=>by simpa using d g a,by simpa using e,by simpa using f⟩
def Qp3{α:Type}{l:List α}{p:α->Bool}{j:Nat}{x:α}(b:l[j]?=some x)(h:(l.take j).any p=false)(a:p x=false):(l.take (j+1)).any p=false:=by
 rw[Ji b,any_append,h];simp[a]
def Q4u{α:Type}{l:List α}{p:α->Bool}{j:Nat}{x:α}(b:l[j]?=some x)(a:p x=true):l.any p=true:=any_eq_true.2 ⟨x,mem_of_getElem? b,a⟩
def Zi.sees3F{T:Type}{U:Qa T}{B o:Nat}{c:Array Value}{v:Value}(h:Zi U B c)(a:c[o]?=some v):U.frz.sees ((Addr.mk B 0 none).add o) v:=(show Zi U.frz B c from h).sees3 a
end Go.TM
namespace Go.Proofs
open Go.TM
def Qcf:List (List (Nat×St)):=[[(0,.xo 11 1 3),(0,.xl 12 11),(0,.m 13 1),(0,.xi 14 4 12 13),(0,.xd 15 4 14),(0,.xo 16 1 3),(0,.xl 17 16),(0,.m 18 2),(0,.xi 19 4 17 18),(0,.xd 20 4 19),(2,.d 7 (.alloc 49 #[(.string ⟨#[]⟩),(.int .i64 0),(.slice none 0 0),(.slice none 0 0)])),(2,.d 8 (.alloc 49 #[(.string ⟨#[]⟩),(.int .i64 0),(.slice none 0 0),(.slice none 0 0)])),(2,⟨.st 4 (.t 7) (.t 15),none,none,none⟩)],
 [(0,.xo 11 1 3),(0,.xl 12 11),(0,.m 13 1),(0,.xi 14 4 12 13),(0,.xd 15 4 14),(0,.xo 16 1 3),(0,.xl 17 16),(0,.m 18 2),(0,.xi 19 4 17 18),(0,.xd 20 4 19),(2,.d 8 (.alloc 49 #[(.string ⟨#[]⟩),(.int .i64 0),(.slice none 0 0),(.slice none 0 0)])),(2,.d 7 (.alloc 49 #[(.string ⟨#[]⟩),(.int .i64 0),(.slice none 0 0),(.slice none 0 0)])),(2,⟨.st 4 (.t 7) (.t 15),none,none,none⟩)]]
def Qpj:List St:=[⟨.st 4 (.t 8) (.t 20),none,none,none⟩]
variable{T:Type}{S:TM.Sys Tryz.prog T}{U:Qa T}
attribute [local irreducible] Qb Zl Wt
set_option maxHeartbeats 1000000 in
def Qga(h:BH)(b:Bk)(hb:Zq U.frz h b)(i k:Nat)(hi:i<h.cl)(hk:k<h.cl) :
  Qb S 37 #[h.v,.int .i64 i,.int .i64 k] (λ v U'=>v=.bool (b.freeB i k)/\U'=U) U:=by
 refine Qb.pure' (Qb.of (args:=[_,_,_]) Qoa Qf S1 ?_)
 let t:Array Value:=#[.string ⟨#[]⟩,.int .i64 0,.slice none 0 0,.slice none 0 0]
 repeat refine⟨rfl,?_⟩
 conv=>whnf
 intro B P ao hB;have hB:Zi P B #[.slice h.ra h.rl h.rc,.slice h.ca h.cl h.cc]:=hB;have au:=hb.lg ao.lg.frz2;obtain⟨ad,c,ga,J,gc,T,X,V,hx,aw,bj,a2,hg,bi,ha,a6,be⟩:=au.case hi;obtain⟨am,q,Y,r,ab,K,M,L,bb,Q,bf,R,ay,bd,a4,ar,ba⟩:=au.case hk;have av:b.cas i=c:=by simp[Bk.cas,getD_eq_getElem?_getD,hx]
 have ai:b.cas k=q:=by simp[Bk.cas,getD_eq_getElem?_getD,bb]
 unfold Bk.freeB;rw[av,ai];have bh:=hg.1;have bc:=ay.1
 conv=>whnf
 intro bg E
 refine SQ (mu:=[]) (ops:=Pl Tryz.f37 1) (id:=1) E [10,11,12] [[0,1,2,3,4,5,6,7,8,9,10,11,12],[0,1,2,3,4,5,6,7,8,9,11,10,12]] [13] Qcf Qpj Qf K1 K1 K1 K1 K1
  (λ f' an U'=>an=[]/\∃b7 b8,XF f' [(1,.int .i64 i),(2,.int .i64 k),(7,.pointer (some ⟨b7,0,none⟩)),(8,.pointer (some ⟨b8,0,none⟩)),(20,.agg #[.string q.nm,.int .i64 q.ag,.slice Y r ab,.slice K M L])]/\Tw3 P 49 t [.string c.nm,.int .i64 c.ag,.slice ga J gc,.slice T X V] b7 b8 U') ?_ ?_
 .intro l hl;simp only[Qcf,mem_cons,not_mem_nil,or_false]at hl;rcases hl with rfl|rfl
  .refine⟨_,hB.sees3F (o:=1) rfl,ad,i,⟨aw,rfl,hi⟩,_,⟨rfl,a2⟩,_,hB.sees3F (o:=1) rfl,am,k,⟨Q,rfl,hk⟩,_,⟨rfl,R⟩,λ v U'=>∃p,v=.pointer (some ⟨p,0,none⟩)/\Tw1 P 49 t p U',λ v s x2⟨p,e,d⟩n=>⟨p,e,d.le n⟩,λ v U'⟨p,e,d⟩=>d.2.frz1,λ U' y=>?_,λ v H=>?_⟩
   .conv=>whnf
    intro p hp;exact⟨_,.refl _,_,.refl _,p,rfl,.made y hp⟩
   obtain⟨_,b7,rfl,-⟩:=H;refine⟨λ v U'=>∃p,v=.pointer (some ⟨p,0,none⟩)/\Tw2 P 49 t b7 p U',λ v s x2⟨p,e,d⟩n=>⟨p,e,d.le n⟩,λ v U'⟨p,e,d⟩=>d.frz,λ U' y=>?_,λ v H=>?_⟩
   .obtain⟨p',e,d⟩:=y;obtain rfl:b7=p':=by simpa using e
    conv=>whnf
    intro p hp;obtain⟨s,k1,k2⟩:=d.made1 hp;exact⟨s,k1,_,.refl _,p,rfl,k2⟩
   obtain⟨_,b8,rfl,-⟩:=H;refine⟨λ v U'=>Tw3 P 49 t [.string c.nm,.int .i64 c.ag,.slice ga J gc,.slice T X V] b7 b8 U',λ v s x2 d n=>d.le n,λ v U' d=>d.frz,λ U' y=>?_,λ v H=>?_⟩
   .obtain⟨p',e,d⟩:=y;obtain rfl:b8=p':=by simpa using e
    conv=>whnf
    exact⟨rfl,ZA.mono (λ _⟨s,k1,k2⟩=>⟨s,k1,s,.refl _,k2⟩) _ _ _ (d.write (vs:=[.string c.nm,.int .i64 c.ag,.slice ga J gc,.slice T X V]) rfl (by simp[Value.single]))⟩
   clear H
   conv=>whnf
   intro U' d;exact⟨rfl,b7,b8,T1,d⟩
  .refine⟨_,hB.sees3F (o:=1) rfl,ad,i,⟨aw,rfl,hi⟩,_,⟨rfl,a2⟩,_,hB.sees3F (o:=1) rfl,am,k,⟨Q,rfl,hk⟩,_,⟨rfl,R⟩,λ v U'=>∃p,v=.pointer (some ⟨p,0,none⟩)/\Tw1 P 49 t p U',λ v s x2⟨p,e,d⟩n=>⟨p,e,d.le n⟩,λ v U'⟨p,e,d⟩=>d.2.frz1,λ U' y=>?_,λ v H=>?_⟩
   .conv=>whnf
    intro p hp;exact⟨_,.refl _,_,.refl _,p,rfl,.made y hp⟩
   obtain⟨_,b8,rfl,-⟩:=H;refine⟨λ v U'=>∃p,v=.pointer (some ⟨p,0,none⟩)/\Tw2 P 49 t p b8 U',λ v s x2⟨p,e,d⟩n=>⟨p,e,d.le n⟩,λ v U'⟨p,e,d⟩=>d.frz,λ U' y=>?_,λ v H=>?_⟩
   .obtain⟨p',e,d⟩:=y;obtain rfl:b8=p':=by simpa using e
    conv=>whnf
    intro p hp;obtain⟨s,k1,k2⟩:=d.made2 hp;exact⟨s,k1,_,.refl _,p,rfl,k2⟩
   obtain⟨_,b7,rfl,-⟩:=H;refine⟨λ v U'=>Tw3 P 49 t [.string c.nm,.int .i64 c.ag,.slice ga J gc,.slice T X V] b7 b8 U',λ v s x2 d n=>d.le n,λ v U' d=>d.frz,λ U' y=>?_,λ v H=>?_⟩
   .obtain⟨p',e,d⟩:=y;obtain rfl:b7=p':=by simpa using e
    conv=>whnf
    exact⟨rfl,ZA.mono (λ _⟨s,k1,k2⟩=>⟨s,k1,s,.refl _,k2⟩) _ _ _ (d.write (vs:=[.string c.nm,.int .i64 c.ag,.slice ga J gc,.slice T X V]) rfl (by simp[Value.single]))⟩
   clear H
   conv=>whnf
   intro U' d;exact⟨rfl,b7,b8,T1,d⟩
 rintro f' an U2⟨rfl,b7,b8,ax,d⟩;rw[<- ax.ovr];clear ax;refine⟨rfl,d.write (ws:=[.string q.nm,.int .i64 q.ag,.slice Y r ab,.slice K M L]) rfl (by simp[Value.single]) λ U3 z w x=>?_⟩;have w:Zi U3 b7 #[.string c.nm,.int .i64 c.ag,.slice ga J gc,.slice T X V]:=w;have x:Zi U3 b8 #[.string q.nm,.int .i64 q.ag,.slice Y r ab,.slice K M L]:=x;have N:=ao.trans z;have a7:=hg.lg z.lg.frz2;have az:=ay.lg z.lg.frz2;have a5:=(ha.lg z.lg.frz2).lg Qp;have aq:=(a4.lg z.lg.frz2).lg Qp
 conv=>whnf
 intro a' O;refine⟨by rw[O.size,E.size],_,O.get,?_⟩;rw[O.ds];clear O E d;refine⟨Nat,λ j=>[(1,.int .i64 i),(2,.int .i64 k),(7,.pointer (some ⟨b7,0,none⟩)),(8,.pointer (some ⟨b8,0,none⟩)),(9,.int .i64 j)],λ j U'=>U3.le U'/\j<=J/\((c.gs.take j).any λ g=>g.contains q.ag)=false,λ j=>J-j,0,T1,⟨.refl _,O1,rfl⟩,?_⟩;rintro j f U4⟨ap,hj,a⟩;have G:Zu ((j:Int)+1):=I1
 have u:=ap;refine⟨_,(w.le u).sees3 (o:=2) rfl,?_⟩
 repeat refine⟨rfl,?_⟩
 conv=>whnf
 apply Qe<;>intro hc
 .have hlt:j<J:=by simpa using hc
  obtain⟨W,g2,Z,ah,ae,I,D,a3,ak,aj,F,a9⟩:=((a7.lg u.lg.frz2).lg Qp).at hlt;refine⟨_,(w.le u).sees3 (o:=2) rfl,W,j,⟨D,rfl,hlt⟩,_,ak,_,(x.le u).sees3 (o:=1) rfl,?_⟩
  conv=>whnf
  intro U9 h9 _;refine⟨Qaq.any,(Qae Z ah ae g2 (aj.lg h9.lg) F q.ag).go λ _=>?_⟩;cases C:g2.contains q.ag with
  |true=>
   have A:(c.gs.any λ g=>g.contains q.ag)=true:=Q4u I C
   repeat refine⟨rfl,?_⟩
   conv=>whnf
   exact⟨by rw[A];simp,(N.trans (u.trans h9)).lg⟩
  |false=>
   repeat refine⟨rfl,?_⟩
   refine⟨G,?_⟩
   conv=>whnf
   exact⟨rfl,j+1,T1,⟨ap.trans h9,O1,Qp3 I a C⟩,L1⟩
 have a8:j=J:=by simp at hc;omega
 rw[take_of_length_le O1]at a;have a0:(c.gs.any λ g=>g.contains q.ag)=false:=a;clear a;refine⟨Nat,λ j=>[(1,.int .i64 i),(2,.int .i64 k),(7,.pointer (some ⟨b7,0,none⟩)),(8,.pointer (some ⟨b8,0,none⟩)),(10,.int .i64 j)],λ j U'=>U4.le U'/\j<=r/\((q.gs.take j).any λ g=>g.contains c.ag)=false,λ j=>r-j,0,T1,⟨.refl _,O1,rfl⟩,?_⟩;rintro j f U6⟨h6,hj,a⟩;have G:Zu ((j:Int)+1):=I1
 have m:=u.trans h6;refine⟨_,(x.le m).sees3 (o:=2) rfl,?_⟩
 repeat refine⟨rfl,?_⟩
 conv=>whnf
 apply Qe<;>intro hc
 .have hlt:j<r:=by simpa using hc
  obtain⟨W,g2,Z,ah,ae,I,D,a3,ak,aj,F,a9⟩:=((az.lg m.lg.frz2).lg Qp).at hlt;refine⟨_,(x.le m).sees3 (o:=2) rfl,W,j,⟨D,rfl,hlt⟩,_,ak,_,(w.le m).sees3 (o:=1) rfl,?_⟩
  conv=>whnf
  intro U9 h9 _;refine⟨Qaq.any,(Qae Z ah ae g2 (aj.lg h9.lg) F c.ag).go λ _=>?_⟩;cases C:g2.contains c.ag with
  |true=>
   have A:(q.gs.any λ g=>g.contains c.ag)=true:=Q4u I C
   repeat refine⟨rfl,?_⟩
   conv=>whnf
   exact⟨by rw[A];simp,(N.trans (m.trans h9)).lg⟩
  |false=>
   repeat refine⟨rfl,?_⟩
   refine⟨G,?_⟩
   conv=>whnf
   exact⟨rfl,j+1,T1,⟨h6.trans h9,O1,Qp3 I a C⟩,L1⟩
 have a8:j=r:=by simp at hc;omega
 rw[take_of_length_le O1]at a;have a1:(q.gs.any λ g=>g.contains c.ag)=false:=a;clear a;refine⟨_,(w.le m).sees3 (o:=3) rfl,Qaq.any,(Qae T X V c.af (a5.lg m.lg) a6 (k:Int)).go λ _=>?_⟩;cases c.af.contains (k:Int)with
 |true=>
  repeat refine⟨rfl,?_⟩
  conv=>whnf
  exact⟨by rw[a0,a1];rfl,(N.trans m).lg⟩
 |false=>
  refine⟨_,(x.le m).sees3 (o:=3) rfl,Qaq.any,(Qae K M L q.af (aq.lg m.lg) ar (i:Int)).go λ _=>?_⟩
  repeat refine⟨rfl,?_⟩
  conv=>whnf
  exact⟨by rw[a0,a1];rfl,(N.trans m).lg⟩
end Go.Proofs
namespace Go.TM
def Qdg(o:List Nat):(Qjj o).map Int.toNat=o:=by
 rw[map_map];exact(map_congr_left (λ _ _=>rfl)).trans (map_id o)
def Zcx{o:List Nat}{q x y:Nat}(b:o[q]?=some x)(c:o[q+1]?=some y):o=o.take q++x::y::o.drop (q+2)/\(o.set q y).set (q+1) x=o.take q++y::x::o.drop (q+2):=by
 obtain⟨d,rfl⟩:=List.getElem?_eq_some_iff.1 b;obtain⟨f,rfl⟩:=List.getElem?_eq_some_iff.1 c
 have e:o=o.take q++o[q]::o[q+1]::o.drop (q+2):=by
  rw[getElem_cons_drop,getElem_cons_drop,take_append_drop]
 refine⟨e,?_⟩;generalize o[q]=x at *;generalize o[q+1]=y at *;have a:(o.take q).length=q:=by rw[length_take];omega
 generalize o.take q=X at *;generalize o.drop (q+2)=Y at *;subst e;rw[set_append_right _ _ O1,set_append_right _ _ O1];simp[a]
end Go.TM
namespace Go.Proofs
open Go.TM
attribute [local irreducible] Qb Zl Wt
set_option maxHeartbeats 4000000 in
def Q0j{U:Qa Tk}(Y:U.tok=⟨0,.out,none⟩)(hk:WA U)(h:BH)(b:Bk)(hb:Zq U.frz h b)(bg:DH b)(bh:h.rl<=h.rc)(bp:h.cl<=h.cc)(rt:Nat)(bx:rt<256)(pa:Option Addr)(pl pc:Nat)(p:List Nat)(hp:Q5 U.frz pa pl 1 p λ(n:Nat)vs=>vs=[.int .u16 (n:Int)]/\n<65536)(bv:pl<2^60) :
  J (Zb Tryz.prog 209 6) (QA Tryz.prog λ v U'=>v=.bool true/\U.lg U') true (Rf (Frame.enter Tryz.prog 7 #[h.v,.int .u8 (rt:Int),.slice pa pl pc] .normal) []) U:=by
 refine Zpy (args:=[_,_,_]) (Q:=λ v U'=>v=.bool true/\U.lg U') Q41 Qf K1 S1 (λ v U' q=>q.2.tok.trans Y) ?_;have bd:=hb.cs.1;have bw:=hb.rs.1;have ac:∀U2:Qa Tk,U.lg U2->Qb (Zb Tryz.prog 209 6) 20 #[] (λ v U'=>v=.bool true/\U'=U2) U2:=λ U2 h=>Zm2 (h.tok.trans Y) (hk.lg h)
 repeat refine⟨rfl,?_⟩
 conv=>whnf
 intro B U1 d hB;have hB:Zi U1 B #[.slice h.ra h.rl h.rc,.slice h.ca h.cl h.cc]:=hB;have F:=hb.lg d.lg.frz2;have L:∀w:Qa Tk,U1.lg w->Jn w ⟨B,0,none⟩ [.slice h.ra h.rl h.rc,.slice h.ca h.cl h.cc]:=λ w N=>(hB.lg N).rd;refine⟨_,⟨rfl,L _ (Qa.le.refl _).lg⟩,kh.any,(Zm1 h b F bg bh).mono ?_⟩;rintro _ U'⟨⟨g,rfl,hg⟩,a8⟩-;obtain rfl:=a8.symm;have WD:Qb (Zb Tryz.prog 209 6) 20 #[] (λ v U'=>v=.bool true/\U'=U1) U1:=ac _ d.lg;cases g with
 |false=>
  refine⟨yL.any,WD.go λ _=>?_⟩
  repeat refine⟨rfl,?_⟩
  conv=>whnf
  exact d.lg
 |true=>
 have hf:b.flaw Qu=0:=hg rfl;refine⟨_,hB.sees3 (o:=1) rfl,?_⟩
 repeat refine⟨rfl,?_⟩
 conv=>whnf
 apply Qe<;>intro hc
 .refine⟨yL.any,WD.go λ _=>?_⟩
  repeat refine⟨rfl,?_⟩
  conv=>whnf
  exact d.lg
 have bo:2<=h.cl:=by simp at hc;omega
 have C:=Bk.ok_of hf;have bt:=C.nc;refine⟨_,⟨rfl,L _ (Qa.le.refl _).lg⟩,Qlg.any,(Qdh h b F C pa pl pc p (Q5.lg (R':=λ(n:Nat)vs=>vs=[.int .u16 (n:Int)]/\n<65536) hp d.lg.frz2 λ _ _ h=>h)).mono ?_⟩;rintro _ U2⟨⟨oa,oc,rfl,hO⟩,R⟩-;have ho:=Bk.pick_ord C p;generalize b.pickO p b.cs.length []=o at ho hO ⊢;rw[length_map]at hO ⊢;have K:o.length=h.cl:=by rw[ho.len,bd]
 rw[K]at hO ⊢;obtain⟨q,ay⟩:∃q,q=rt % (h.cl-1):=⟨_,rfl⟩;have hq:q<h.cl-1:=ay▸Nat.mod_lt _ O1;have bb:(h.cl:Int)-1=((h.cl-1:Nat):Int):=O1
 have az:(IntKind.wrap .i64 (rt:Int)).tmod ((h.cl:Int)-1)=(q:Nat):=by rw[ZZ O1,bb,ay];exact(Int.ofNat_tmod _ _).symm
 have ah:(q:Int)+1=((q+1:Nat):Int):=O1
 have H:Zu ((q:Int)+1):=I1
 obtain⟨x,m⟩:∃x,o[q]?=some x:=⟨_,getElem?_eq_getElem O1⟩;obtain⟨y,hy⟩:∃y,o[q+1]?=some y:=⟨_,getElem?_eq_getElem O1⟩;have bi:=ho.low x (mem_of_getElem? m);have bj:=ho.low y (mem_of_getElem? hy);obtain⟨Z,x',a3,ar,bm,a0⟩:=hO.at (show q<h.cl by omega);obtain rfl:(x:Int)=x':=by rw[getElem?_map,m]at a3;exact Option.some.inj a3
 obtain⟨aa,y',a4,au,bn,a1⟩:=hO.at (show q+1<h.cl by omega);obtain rfl:(y:Int)=y':=by rw[getElem?_map,hy]at a4;exact Option.some.inj a4
 have a9:=F.lg R.lg.frz2;have a5:=d.trans R;refine⟨I1,?_⟩;refine⟨rfl,O1,?_⟩;rw[az];refine⟨_,⟨rfl,L _ R.lg⟩,Z,q,⟨ar,rfl,O1⟩,_,a0.lg Qp,H,aa,q+1,⟨au,ah,O1⟩,_,a1.lg Qp,?_⟩
 conv=>whnf
 intro t A _;have f:=R.trans A;have ak:=a5.trans A;refine⟨Qoa.any,(Qga h b (a9.lg A.lg.frz2) x y O1 O1).go λ _=>?_⟩;cases be:b.freeB x y with
 |false=>
  refine⟨yL.any,(ac _ ak.lg).go λ _=>?_⟩
  repeat refine⟨rfl,?_⟩
  conv=>whnf
  exact ak.lg
 |true=>
 have hF:=Bk.free_of be
 conv=>whnf
 intro E bk;refine⟨_,.refl _,?_⟩;have ao:Z5 t.frz oa h.cl _:=hO.lg A.lg.frz2;have ai:QS (t.put E (.cells #[] 3)) oa ((o.map λ(k:Nat)=>(k:Int)).map λ n=>.int .i64 n):=((ao.lg Qp).lg (Z4 E (.cells #[] 3))).src'
 conv=>whnf
 refine Ws (v:=.slice (some ⟨E,0,none⟩) 0 0) (cs:=[]) (new:=(o.map λ(k:Nat)=>(k:Int)).map λ n=>.int .i64 n) (M₀:=t.M) Hf rfl rfl (.inr ⟨E,#[],0,0,rfl,rfl,Nat.le_refl _,rfl,rfl,S1⟩) ai (by simp[K]) (by simp[Value.single]) S3 λ v' M' ap _=>?_;rw[nil_append]at ap;rcases ap with⟨-,W,-⟩|⟨T,c,len,cap,rfl,bf,br,bs,hM,aq⟩
 .exfalso;rw[map_eq_nil_iff,map_eq_nil_iff]at W;rw[W]at K;simp at K;omega
 have bl:o.length=len:=by simpa using bf
 obtain rfl:len=h.cl:=O1
 have S:HI c (o.map λ(k:Nat)=>(k:Int)):=λ i z hz=>aq i _ (by rw[getElem?_map,hz];rfl)
 let P:List Nat:=(o.set q y).set (q+1) x
 have hP:P.length=h.cl:=by simp[P,K]
 let c':Array Value:=(c.setIfInBounds q (.int .i64 (y:Int))).setIfInBounds (q+1) (.int .i64 (x:Int))
 have G:HI c' (P.map λ(k:Nat)=>(k:Int)):=by
  have:=(S.set S3 q (y:Int)).set S3 (q+1) (x:Int);simpa[P,c',map_set]using this
 obtain⟨eo,eP⟩:=Zcx m hy
 have ag:b.Ord P:=by
  have:=ho;rw[eo]at this;rw[show P=_ from eP];exact Bk.swap_ord C this hF
 have af:b.ends P=b.ends o:=by
  rw[show P=_ from eP]
  conv=>rhs;rw[eo]
  exact(Bk.swap_ends C bi bj hF _ _).symm
 refine⟨λ U'=>(∀x o,t.I x=some o->U'.I x=some o)/\U'.tok=t.tok/\U'.M=.obj T (.cells (c.setIfInBounds q (.int .i64 (y:Int))) 3 (0,0))::t.M,λ x1 x2⟨a,b,c⟩j=>⟨λ x o h=>j.imm x o (a x o h),j.tok.trans b,j.own.trans c⟩,?_⟩;have av:∀w:Qa Tk,t.frz.lg w->w.sees (Z.add (q*1)) (.int .i64 (x:Int))/\w.sees (aa.add ((q+1)*1)) (.int .i64 (y:Int)):=λ w N=>⟨(a0.lg A.lg.frz2).lg N,(a1.lg A.lg.frz2).lg N⟩;have V:t.frz.lg ({ (t.put E (.cells #[] 3))with M:=M' }:Qa Tk):=⟨λ _ _ h=>h,⟨_,(append_nil _).symm⟩,rfl⟩;refine⟨H,H,aa,q+1,⟨au,ah,O1⟩,_,(av _ V).2,Z,q,⟨ar,rfl,O1⟩,_,(av _ V).1,_,q,⟨rfl,rfl,O1⟩,?_⟩
 conv=>whnf
 intro U4 ae _;refine⟨⟨rfl,?_⟩,λ U5 hG=>?_⟩
 .show ZA ((Addr.mk T 0 none).add (q*1)) [.int .i64 (y:Int)] 0 _ _;rw[Nat.mul_one];exact P_ [] (ae.own.trans hM) O1 rfl ⟨rfl,_,.refl _,λ x o hh=>ae.imm x o hh,ae.tok,rfl⟩
 obtain⟨am,a2,a6⟩:=hG;refine⟨_,q+1,⟨rfl,ah,O1⟩,rfl,?_⟩;show ZA ((Addr.mk T 0 none).add ((q+1)*1)) [.int .i64 (x:Int)] 0 _ _;rw[Nat.mul_one];refine P_ [] a6 S3 rfl ?_;have ax:b.outF (Qjj o)=0:=by unfold Bk.outF;rw[if_pos hf];exact ho.flaw
 have X:b.outF (Qjj P)=0:=by unfold Bk.outF;rw[if_pos hf];exact ag.flaw
 have ab:∀w:Qa Tk,t.frz.lg w->w.M=.obj T (.cells c' 3 (0,0))::t.M->Qb (Zb Tryz.prog 209 6) 21 #[h.v,.slice oa h.cl oc] (λ v U'=>(∃v1 v2,v=.tuple #[v1,v2,.int .i64 0]/\WQ U'.frz v1 (b.ends o).1/\WQ U'.frz v2 (b.ends o).2)/\t.le U'/\Zi U' T c') w:=λ w N an=>by
  have aw:U1.lg w:=⟨λ x u m=>N.imm x u (f.imm x u m),⟨[_],by rw[an,f.own];rfl⟩,N.tok.trans f.tok⟩;refine(IR h b (F.lg aw.frz2) ((hk.lg d.lg).lg aw) oa h.cl oc (Qjj o) (ao.lg N.frz2) O1).sep λ v U' hs⟨⟨v1,v2,e,b1,b2⟩,j⟩=>?_;rw[ax,if_pos rfl,Qdg]at b1 b2;rw[ax]at e;obtain⟨x1,k1,k2,k3⟩:=EF (U:={ U' with M:=t.M }) hs (j.own.trans an) (λ _ _ h=>h) rfl rfl;have hz:U'.frz.lg x1.frz:=⟨k2.imm,⟨[],rfl⟩,k2.tok⟩;exact⟨x1,k1,⟨v1,v2,e,b1.lg hz,b2.lg hz⟩,⟨λ x u m=>k2.imm x u (j.imm x u (N.imm x u m)),k2.own,k2.tok.trans (j.tok.trans N.tok)⟩,⟨_,_,k3⟩⟩
 refine⟨_,⟨rfl,L _ ⟨λ x u m=>am x u (f.imm x u m),⟨[_],by show _=[_]++U1.M;rw[<- f.own];rfl⟩,a2.trans f.tok⟩⟩,?_⟩;refine⟨YQ.any,(ab { U5 with M:=.obj T (.cells c' 3 (0,0))::t.M } ⟨λ x u m=>am x u m,⟨_,(append_nil _).symm⟩,a2⟩ rfl).mono ?_⟩;rintro _ U6⟨⟨_,_,rfl,⟨xa,xc,rfl,hX⟩,⟨ya,yc,rfl,hY⟩⟩,h6,ba⟩-;have O:=f.trans h6
 have a7:Z5 U6.frz (some ⟨T,0,none⟩) h.cl (Qjj P):=by
  have:=(show Zi U6.frz T c' from ba).ints (l:=Qjj P) G;rw[show(Qjj P).length=h.cl by simp[Qjj,hP]]at this;exact this
 refine⟨_,⟨rfl,L _ O.lg⟩,YQ.any,(IR h b (F.lg O.lg.frz2) (hk.lg (d.trans O).lg) (some ⟨T,0,none⟩) h.cl cap (Qjj P) a7 O1).mono ?_⟩;rintro _ U7⟨⟨v1,v2,rfl,b1,b2⟩,h7⟩-;rw[X,if_pos rfl,Qdg,af]at b1 b2;rw[X];obtain⟨ua,uc,rfl,hU⟩:=b1;obtain⟨va,vc,rfl,hV⟩:=b2;have al:=O.trans h7;have bq:=b.end_len o;have bu:=C.nr;have bc:∀{a:Option Addr}{l:List Bool}{w:Qa Tk},(∀(i:Nat)x,l[i]?=some x->∃D,a=some D/\D.spot=none/\U6.frz.sees (D.add (i*1)) (.bool x))->WX U7 a l.length l:=λ hh=>⟨rfl,λ i x m=>let ⟨D,e,s,r⟩:=hh i x m;⟨D,e,s,(r.lg h7.lg.frz2).lg Qp⟩⟩;have aj:∀{a:Option Addr}{l:List Bool},(∀(i:Nat)x,l[i]?=some x->∃D,a=some D/\D.spot=none/\U7.frz.sees (D.add (i*1)) (.bool x))->WX U7 a l.length l:=λ hh=>⟨rfl,λ i x m=>let ⟨D,e,s,r⟩:=hh i x m;⟨D,e,s,r.lg Qp⟩⟩;refine⟨rfl,rfl,PR.any,(W0 xa ua _ xc _ uc _ _ (bc (w:=U7) hX) (aj hU) O1).go λ _=>?_⟩;rw[decide_eq_true rfl];refine⟨PR.any,(W0 ya va _ yc _ vc _ _ (bc (w:=U7) hY) (aj hV) O1).go λ _=>?_⟩;rw[decide_eq_true rfl];refine⟨yL.any,(ac _ (d.trans al).lg).go λ _=>?_⟩
 repeat refine⟨rfl,?_⟩
 conv=>whnf
 exact(d.trans al).lg
end Go.Proofs

