/- Lemmas. No conditions. -/
import Derived.Test.YtnpfcnfhfkflhaaGreatDoorC00
set_option linter.all false
set_option maxRecDepth 100000
open List
namespace Go.TM
variable{T:Type}{P:Program}{S:Sys P T}
structure Hlr(U:Qa T)(b:Nat)(e:TypeId)(c:Array Value)(U':Qa T):Prop where
 imm:∀x o,U.I x=some o->U'.I x=some o
 own:U'.M=.obj b (.cells c e (0,0))::U.M
 tok:U'.tok=U.tok
 new:U.I b=none
def Hlr.le{U U' d:Qa T}{b:Nat}{e:TypeId}{c:Array Value}(h:Hlr U b e c U')(k:U'.le d):Hlr U b e c d:=⟨λ x o i=>k.imm x o (h.imm x o i),k.own.trans h.own,k.tok.trans h.tok,h.new⟩
def Hlr.frz2{U U':Qa T}{b:Nat}{e:TypeId}{c:Array Value}(h:Hlr U b e c U'):U.frz.lg U'.frz:=⟨h.imm,⟨[],rfl⟩,h.tok⟩
def Hlr.frz1{U U':Qa T}{b:Nat}{e:TypeId}{c:Array Value}(h:Hlr U b e c U'):U.frz.lg U':=⟨h.imm,⟨_,(append_nil _).symm⟩,h.tok⟩
def Hlr.made{U U':Qa T}{b:Nat}{e:TypeId}{c:Array Value}(h:U.le U')(f:U'.free b):Hlr U b e c (U'.put b (.cells c e)):=by
 refine⟨h.imm,by show _::U'.M=_;rw[h.own],h.tok,?_⟩;cases d:U.I b with
 |none=>rfl
 |some o=>have:=h.imm b o d;rw[f.1]at this;cases this
def Hlr.write{U U':Qa T}{b:Nat}{e:TypeId}{c:Array Value}{vs:List Value}{Q:Qa T->Prop}(h:Hlr U b e c U')(f:c.size=vs.length)(j:∀v∈vs,v.single=true)(g:∀d,U.le d->Zi d b vs.toArray->Q d):ZA ⟨b,0,none⟩ vs 0 (λ U'=>∃d,Qw U' d/\Q d) U':=by
 refine VP [] vs 0 c U' h.own j O1 ?_;rw[Y7 f];refine⟨_,We (b:=b) (M':=U.M) (Perm.refl _),g _ ⟨λ x o i=>?_,rfl,h.tok⟩ Zi.new⟩;show JI U'.I b _ x=_;unfold JI;rw[if_neg]
 .exact h.imm x o i
 .rintro rfl;rw[h.new]at i;cases i
end Go.TM
namespace Go.TM
variable{T:Type}{U U':Qa T}{e:TypeId}{z:Array Value}{b b7 b8:Nat}{vs:List Value}
def Tw1(U:Qa T)(e:TypeId)(z:Array Value)(b:Nat)(U':Qa T):Prop:=U.free b/\Hlr U b e z U'
def Tw1.le{d:Qa T}(h:Tw1 U e z b U')(k:U'.le d):Tw1 U e z b d:=⟨h.1,h.2.le k⟩
def Zof(h:U.le U')(d:U'.free b):U.free b:=by
 refine⟨?_,λ r f=>d.2 r (by rw[h.own];exact f)⟩;cases e:U.I b with
 |none=>rfl
 |some o=>have:=h.imm b o e;rw[d.1]at this;cases this
def Tw1.made(h:U.le U')(d:U'.free b):Tw1 U e z b (U'.put b (.cells z e)):=⟨Zof h d,.made h d⟩
structure Tw2(U:Qa T)(e:TypeId)(z:Array Value)(b7 b8:Nat)(U':Qa T):Prop where
 imm:∀x o,U.I x=some o->U'.I x=some o
 own:U'.M=.obj b8 (.cells z e (0,0))::.obj b7 (.cells z e (0,0))::U.M
 tok:U'.tok=U.tok
 f7:U.free b7
 f8:U.free b8
 ne:b8≠b7
def Tw2.le{b:Qa T}(h:Tw2 U e z b7 b8 U')(k:U'.le b):Tw2 U e z b7 b8 b:=⟨λ x o i=>k.imm x o (h.imm x o i),k.own.trans h.own,k.tok.trans h.tok,h.f7,h.f8,h.ne⟩
def Tw2.frz(h:Tw2 U e z b7 b8 U'):U.frz.lg U':=⟨h.imm,⟨_,(append_nil _).symm⟩,h.tok⟩
def Tw1.free2(h:Tw1 U e z b U'){c:Nat}(d:U'.free c):U.free c/\c≠b:=by
 refine⟨⟨?_,λ r i=>d.2 r (by rw[h.2.own];exact mem_cons_of_mem _ i)⟩,λ f=>d.2 (.obj b (.cells z e (0,0))) (by rw[h.2.own];exact mem_cons_self ..) f.symm⟩;cases g:U.I c with
 |none=>rfl
 |some o=>have:=h.2.imm c o g;rw[d.1]at this;cases this
def Tw1.made1(h:Tw1 U e z b7 U')(d:U'.free b8):∃b,Qw (U'.put b8 (.cells z e)) b/\Tw2 U e z b7 b8 b:=
 ⟨_,.refl _,h.2.imm,by show _::U'.M=_;rw[h.2.own],h.2.tok,h.1,(h.free2 d).1,(h.free2 d).2⟩
def Tw1.made2(h:Tw1 U e z b8 U')(d:U'.free b7):∃b,Qw (U'.put b7 (.cells z e)) b/\Tw2 U e z b7 b8 b:=
 ⟨_,W7 (M':=.obj b8 (.cells z e (0,0))::.obj b7 (.cells z e (0,0))::U.M) (by show(_::U'.M).Perm _;rw[h.2.own];exact Perm.swap _ _ _),h.2.imm,rfl,h.2.tok,(h.free2 d).1,h.1,(h.free2 d).2.symm⟩
def Tw3(U:Qa T)(e:TypeId)(z:Array Value)(vs:List Value)(b7 b8:Nat)(U':Qa T):Prop:=∃b,U.le b/\Zi b b7 vs.toArray/\Hlr b b8 e z U'
def Tw3.le{b:Qa T}(h:Tw3 U e z vs b7 b8 U')(k:U'.le b):Tw3 U e z vs b7 b8 b:=let ⟨a,h1,h2,h3⟩:=h;⟨a,h1,h2,h3.le k⟩
def Tw3.frz(h:Tw3 U e z vs b7 b8 U'):U.frz.lg U':=let ⟨_,h1,_,h3⟩:=h;⟨λ x o i=>h3.imm x o (h1.imm x o i),⟨_,(append_nil _).symm⟩,h3.tok.trans h1.tok⟩
def Tw2.write(h:Tw2 U e z b7 b8 U')(f:z.size=vs.length)(i:∀v∈vs,v.single=true):ZA ⟨b7,0,none⟩ vs 0 (λ d=>∃g,Qw d g/\Tw3 U e z vs b7 b8 g) U':=by
 refine VP [.obj b8 (.cells z e (0,0))] vs 0 z U' (M₀:=U.M) h.own i O1 ?_;rw[Y7 f];refine⟨_,We (b:=b7) (M':=.obj b8 (.cells z e (0,0))::U.M) (Perm.swap ..),{ U with I:=JI U.I b7 (.cells vs.toArray e) },GF h.f7,Zi.new,?_,rfl,h.tok,?_⟩
 .intro x o hx;simp only[JI]at hx ⊢;split at hx
  .rename_i hxb;rw[if_pos hxb];exact hx
  .rename_i hxb;rw[if_neg hxb];exact h.imm x o hx
 .show JI U.I b7 _ b8=none;unfold JI;rw[if_neg h.ne];exact h.f8.1
def Tw3.write{ws:List Value}{Q:Qa T->Prop}(h:Tw3 U e z vs b7 b8 U')(f:z.size=ws.length)(j:∀v∈ws,v.single=true)(i:∀b,U.le b->Zi b b7 vs.toArray->Zi b b8 ws.toArray->Q b):ZA ⟨b8,0,none⟩ ws 0 (λ d=>∃b,Qw d b/\Q b) U':=
 let ⟨_,h1,h2,h3⟩:=h
 h3.write f j λ b g l=>i b (h1.trans g) (h2.le g) l
end Go.TM
namespace Go.TM
variable{T:Type}{U:Qa T}
def Bk.nextsTo(b:Bk)(o:List Nat)(i:Nat):List Nat:=(range i).filter λ i=>b.can o i
def Bk.nextsTo_succ(b:Bk)(o:List Nat)(i:Nat):b.nextsTo o (i+1)=b.nextsTo o i++(if b.can o i then[i]else[]):=by
 unfold Bk.nextsTo;rw[range_succ,filter_append];cases h:b.can o i <;> simp[h]
def Bk.nextsTo_len(b:Bk)(o:List Nat)(i:Nat):(b.nextsTo o i).length<=i:=Nat.le_trans (length_filter_le _ _) S1
def Q0o(o:List Nat)(i:Nat):(o.map λ(k:Nat)=>(k:Int)).contains (i:Int)=o.contains i:=by
 rw[Bool.eq_iff_iff,contains_iff_mem,contains_iff_mem,mem_map];constructor
 .rintro⟨k,hk,e⟩;have:k=i:=O1
  exact this▸hk
 .intro h;exact⟨i,h,rfl⟩
def Bk.pickO_succ(b:Bk)(p:List Nat)(k:Nat)(o:List Nat):b.pickO p (k+1) o=b.pickO p k (o++[(b.nexts o).getD (p.getD o.length 0 % (b.nexts o).length) 0]):=rfl
end Go.TM
namespace Go.Proofs
open Go.TM
variable{T:Type}{S:TM.Sys Tryz.prog T}{U:Qa T}
attribute [local irreducible] Qb Zl Wt
def Qpf(a:Option Addr)(len cap:Nat)(p:List Nat)(g:Q5 U a len 1 p λ n vs=>vs=[.int .u16 (n:Int)]/\n<65536)(k:Nat):Qb S 83 #[.slice a len cap,.int .i64 k] (λ v U'=>v=.int .i64 (p.getD k 0:Nat)/\U'=U) U:=by
 refine Qb.of (args:=[_,_]) Q0j Qf S1 ?_;have i:=g.1
 repeat refine⟨rfl,?_⟩
 conv=>whnf
 apply Qe<;>intro f
 .have hlt:k<len:=by simpa using f
  obtain⟨h,n,vs,l,b,j,⟨rfl,m⟩,-,d⟩:=g.at hlt;have e:p.getD k 0=n:=by simp[getD_eq_getElem?_getD,l]
  rw[e];refine⟨h,k,⟨b,rfl,hlt⟩,_,d 0 _ rfl,?_⟩
  repeat refine⟨rfl,?_⟩
  conv=>whnf
  rw[ZZ O1];exact⟨rfl,rfl⟩
 .have hge:len<=k:=by simp at f;omega
  have e:p.getD k 0=0:=by simp[getD_eq_getElem?_getD,getElem?_eq_none (show p.length<=k by omega)]
  rw[e]
  repeat refine⟨rfl,?_⟩
  conv=>whnf
set_option maxHeartbeats 2000000 in
def Qp3(h:BH)(b:Bk)(hb:Zq U.frz h b)(T:b.Ok)(Y:Option Addr)(pl pc:Nat)(p:List Nat)(hp:Q5 U.frz Y pl 1 p λ n vs=>vs=[.int .u16 (n:Int)]/\n<65536) :
  Qb S 33 #[h.v,.slice Y pl pc] (λ v U'=>Jd U'.frz v ((b.pickO p b.cs.length []).map λ(k:Nat)=>(k:Int))/\U.le U') U:=by
 refine Qb.ints (e:=3) (Qb.of (args:=[_,_]) Qvz Qf S1 ?_);have ag:=hb.cs.1;have bi:=T.nc
 repeat refine⟨rfl,?_⟩
 conv=>whnf
 intro B U1 D hB;have hB:Zi U1 B #[.slice h.ra h.rl h.rc,.slice h.ca h.cl h.cc]:=hB;have a7:=hb.lg D.lg.frz2
 refine⟨List Nat×Value,λ y=>[(1,.slice Y pl pc),(2,.pointer (some ⟨B,0,none⟩)),(5,y.2)],
  λ y U'=>U1.frz.lg U'/\Acc 3 1 y.2 ((y.1.map λ(k:Nat)=>(k:Int)).map λ n=>.int .i64 n) U'.M U.M/\b.Beg y.1/\b.pickO p (h.cl-y.1.length) y.1=b.pickO p h.cl [],λ y=>h.cl-y.1.length,([],.slice none 0 0),T1,⟨Qp,by rw[D.own];exact .nil,.nil,rfl⟩,?_⟩
 rintro⟨o,v⟩f L⟨R,r,z,d⟩;simp only at r z d;obtain⟨oa,oc,rfl,hO⟩:=SY (U:=L) r;rw[length_map]at hO r ⊢;have bj:=z.le;have I:=hB.imI R.imm;have a8:=a7.lg R.frz2;refine⟨_,I.sees3 (o:=1) rfl,?_⟩
 repeat refine⟨rfl,?_⟩
 conv=>whnf
 apply Qe<;>intro J
 .have hlt:o.length<h.cl:=by simpa using J
  refine⟨Nat×Value,λ y=>[(1,.slice Y pl pc),(2,.pointer (some ⟨B,0,none⟩)),(5,.slice oa o.length oc),(6,y.2),(7,.int .i64 y.1)],
   λ y U'=>L.frz.lg U'/\Acc 3 1 y.2 (((b.nextsTo o y.1).map λ(k:Nat)=>(k:Int)).map λ n=>.int .i64 n) U'.M L.M/\y.1<=h.cl,λ y=>h.cl-y.1,(0,.slice none 0 0),T1,⟨Qp,.nil,S1⟩,?_⟩
  rintro⟨i,vc⟩f U3⟨w,g,hi⟩;simp only at g hi;obtain⟨A,hA,-⟩:=g.split;have G:L.lg U3:=⟨λ x o W=>w.imm x o W,⟨A,hA⟩,w.tok⟩;obtain⟨ca,cc,rfl,hC⟩:=SY (U:=U3) g;rw[length_map]at hC g ⊢;have ab:=hO.lg G;have C:=I.lg G;have a9:=a8.lg G.frz2;have an:Zu ((i:Int)+1):=I1
  have ba:=b.nextsTo_len o i;refine⟨_,C.sees3 (o:=1) rfl,?_⟩
  repeat refine⟨rfl,?_⟩
  conv=>whnf
  apply Qe<;>intro J
  .have hlti:i<h.cl:=by simpa using J
   obtain⟨ad,c,ga,gl,gc,aa,X,ac,W,ah,bk,aq,-,-,ha,bh,ao⟩:=a9.case hlti;have a6:=Bk.aft1_at W;have a5:=T.af c ao;have be:=ha.1;refine⟨Qdh.any,(Qbj oa o.length oc (o.map λ(k:Nat)=>(k:Int)) ab O1 (i:Int)).go λ _=>?_⟩;rw[Q0o]
   refine⟨Nat×Bool,λ y=>[(1,.slice Y pl pc),(2,.pointer (some ⟨B,0,none⟩)),(5,.slice oa o.length oc),(6,.slice ca (b.nextsTo o i).length cc),(7,.int .i64 i),(8,.bool y.2),(9,.int .i64 y.1)],
    λ y U'=>U'=U3/\y.1<=X/\(!o.contains i&&((c.af.take y.1).map Int.toNat).all λ k=>o.contains k)=y.2,λ y=>X-y.1,(0,!o.contains i),T1,⟨rfl,S1,S1⟩,?_⟩
   rintro⟨k,t⟩f U4⟨hU,hk,ht⟩;obtain rfl:=hU.symm;simp only at hk ht;have K:Zu ((k:Int)+1):=I1
   refine⟨_,C.sees3 (o:=1) rfl,ad,i,⟨ah,rfl,hlti⟩,_,(aq.lg Qp).cell (i:=3) rfl,?_⟩
   repeat refine⟨rfl,?_⟩
   conv=>whnf
   apply Qe<;>intro J
   .have hltk:k<X:=by simpa using J
    obtain⟨az,n,ax,ai,bf,bb⟩:=(ha.lg Qp).at hltk;obtain⟨q,rfl⟩:=Int.eq_ofNat_of_zero_le (a5 n (mem_of_getElem? ax)).1
    have H:(!o.contains i&&((c.af.take (k+1)).map Int.toNat).all λ k=>o.contains k)=(t&&o.contains q):=by
     rw[Ji ax,map_append,all_append,<- Bool.and_assoc,ht];simp
    cases t with
    |false=>
     refine⟨K,?_⟩
     conv=>whnf
     exact⟨rfl,(k+1,false),T1,⟨rfl,by show k+1<=X;omega,H⟩,L1⟩
    |true=>
     refine⟨_,C.sees3 (o:=1) rfl,ad,i,⟨ah,rfl,hlti⟩,_,(aq.lg Qp).cell (i:=3) rfl,az,k,⟨ai,rfl,hltk⟩,_,bb,Qdh.any,(Qbj oa o.length oc (o.map λ(k:Nat)=>(k:Int)) ab O1 (q:Int)).go λ _=>?_⟩;rw[Q0o];refine⟨K,?_⟩
     conv=>whnf
     exact⟨rfl,(k+1,o.contains q),T1,⟨rfl,by show k+1<=X;omega,H⟩,L1⟩
   have P:k=X:=by simp at J;omega
   rw[take_of_length_le O1,<- a6]at ht;have ae:b.can o i=t:=ht;have j:=b.nextsTo_succ o i;rw[ae]at j;cases t with
   |false=>
    rw[if_neg S1,append_nil]at j;refine⟨an,?_⟩
    conv=>whnf
    exact⟨rfl,(i+1,.slice ca (b.nextsTo o i).length cc),T1,⟨w,by rw[j];exact g,by show i+1<=h.cl;omega⟩,L1⟩
   |true=>
    rw[if_pos rfl]at j
    conv=>whnf
    intro a1 ak;refine Zk ak λ Z N E=>?_;have E:Zi Z a1 #[.int .i64 i]:=E
    conv=>whnf
    refine Ws (v:=.slice ca (b.nextsTo o i).length cc) (cs:=((b.nextsTo o i).map λ(k:Nat)=>(k:Int)).map λ n=>.int .i64 n) (new:=[.int .i64 (i:Int)]) (M₀:=L.M) Hf rfl rfl (by rw[N.own];exact g) (.inr ⟨_,rfl,E.rd⟩) rfl (by simp[Value.single]) S3 λ v' M' O _=>?_;have l:Acc 3 1 v' (((b.nextsTo o (i+1)).map λ(k:Nat)=>(k:Int)).map λ n=>.int .i64 n) M' L.M:=by rw[j,map_append,map_append];exact O
    obtain⟨ta,tl,tc,rfl,-,-⟩:=Acc.src (U:={ Z with M:=M' }) l;refine⟨an,?_⟩
    conv=>whnf
    exact⟨rfl,(i+1,.slice ta tl tc),T1,⟨⟨λ x o W=>N.imm x o (w.imm x o W),⟨_,(append_nil _).symm⟩,N.tok.trans w.tok⟩,l,by show i+1<=h.cl;omega⟩,L1⟩
  have P:i=h.cl:=by simp at J;omega
  subst P;have H:b.nextsTo o h.cl=b.nexts o:=by unfold Bk.nextsTo Bk.nexts;rw[ag]
  rw[H]at hC ba ⊢;have ap:=z.next T O1;obtain⟨q,V⟩:∃q,q=p.getD o.length 0 % (b.nexts o).length:=⟨_,rfl⟩;have hq:q<(b.nexts o).length:=V▸Nat.mod_lt _ ap;obtain⟨au,av⟩:=Bk.nexts_at hq;obtain⟨m,hm⟩:∃m,h.cl-o.length=m+1:=⟨h.cl-o.length-1,O1⟩;rw[hm,b.pickO_succ,<- V]at d;obtain⟨x,ay⟩:∃x,x=(b.nexts o).getD q 0:=⟨_,rfl⟩;rw[<- ay]at au av d
  have Q:(b.nexts o)[q]?=some x:=by
   rw[ay,getD_eq_getElem?_getD,getElem?_eq_getElem hq];rfl
  obtain⟨a0,x4,aw,aj,bg,bc⟩:=hC.at hq;obtain rfl:(x:Int)=x4:=by rw[getElem?_map,Q]at aw;exact Option.some.inj aw
  have ar:((p.getD o.length 0:Nat):Int).tmod ((b.nexts o).length:Nat)=(q:Nat):=by rw[V];exact(Int.ofNat_tmod _ _).symm
  refine⟨Q0j.any,(Qpf Y pl pc p (Q5.lg (R':=λ(n:Nat)vs=>vs=[.int .u16 (n:Int)]/\n<65536) hp ((D.lg.frz2.trans (R.frz2.trans G.frz2)).trans Qp) λ _ _ h=>h) o.length).go λ _=>?_⟩;refine⟨rfl,O1,?_⟩;rw[ar];refine⟨a0,q,⟨aj,rfl,hq⟩,_,bc,?_⟩
  conv=>whnf
  intro a2 am;refine xM (M':=L.M) (M₀:=A) am (by rw[hA];exact perm_append_comm) λ Z a3 bd a4 F=>?_;have F:Zi Z a2 #[.int .i64 x]:=F
  conv=>whnf
  refine Ws (v:=.slice oa o.length oc) (cs:=(o.map λ(k:Nat)=>(k:Int)).map λ n=>.int .i64 n) (new:=[.int .i64 (x:Int)]) (M₀:=U.M) Hf rfl rfl (by rw[a4];exact r) (.inr ⟨_,rfl,F.rd⟩) rfl (by simp[Value.single]) S3 λ v' M' O _=>?_;have l:Acc 3 1 v' (((o++[x]).map λ(k:Nat)=>(k:Int)).map λ n=>.int .i64 n) M' U.M:=by rw[map_append,map_append];exact O
  obtain⟨ta,tl,tc,rfl,-,-⟩:=Acc.src (U:={ Z with M:=M' }) l
  conv=>whnf
  exact⟨rfl,(o++[x],.slice ta tl tc),T1,⟨⟨λ y u hy=>a3 y u (w.imm y u (R.imm y u hy)),⟨_,(append_nil _).symm⟩,bd.trans (w.tok.trans R.tok)⟩,l,z.snoc au av,by simp only[length_append,length_singleton];rw[show h.cl-(o.length+1)=m by omega];exact d⟩,by simp only[length_append,length_singleton];omega⟩
 .have P:o.length=h.cl:=by simp at J;omega
  rw[show h.cl-o.length=0 by omega]at d;have d:o=b.pickO p h.cl []:=d
  repeat refine⟨rfl,?_⟩
  conv=>whnf
  exact⟨by rw[ag,<- d];exact r,λ x o W=>R.imm x o (D.imm x o W),R.tok.trans D.tok⟩
end Go.Proofs
namespace Go.TM
variable{T:Type}{P:Program}{S:Sys P T}{U U':Qa T}
def Qb.pre{f:FuncId}{args:Array Value}{Q:Value->Qa T->Prop}{d:Qa T}(e:Qw U d)(h:Qb S f args Q d):Qb S f args Q U:=λ b m c cs k=>.shift e (h b m c cs k)
def Qoa(U:Qa T)(l:List Int)(v:Value)(U':Qa T):Prop:=(∃a l c,v=.slice a l c)/\U.frz.lg U'/\Acc 3 1 v (l.map λ n=>.int .i64 n) U'.M U.M
def Qoa.le{l:List Int}{v:Value}{b:Qa T}(h:Qoa U l v U')(k:U'.le b):Qoa U l v b:=⟨h.1,h.2.1.trans k.lg,by rw[k.own];exact h.2.2⟩
def Qoa.new{p:Nat}(h:U.le U'):Qoa U [] (.slice (some ⟨p,0,none⟩) 0 0) (U'.put p (.cells #[] 3)):=
 ⟨⟨_,_,_,rfl⟩,⟨λ x o b=>h.imm x o b,⟨_,(append_nil _).symm⟩,h.tok⟩,.inr ⟨p,#[],0,0,rfl,rfl,Nat.le_refl _,rfl,by show _::U'.M=_;rw[h.own],S1⟩⟩
def Qoa.give{f:FuncId}{xs:Value->Array Value}{l:List Int}{v:Value}{Q:Value->Qa T->Prop}(h:Qoa U l v U')
  (k:∀(b:Qa T)a cap,v=.slice a l.length cap->U.le b->Z5 b.frz a l.length l->Qb S f (xs v) Q b):Qb S f (xs v) Q U':=by
 refine Qb.sep0 λ i=>?_;obtain⟨b,m,n,a,len,cap,rfl,g,d,e,-⟩:=h.2.2.freeze i (λ x o j=>h.2.1.imm x o j) h.2.1.tok;simp at g;subst g;exact .pre m (k b a cap rfl n (Vf d e))
end Go.TM
namespace Go.TM
def Zi.sees3F{T:Type}{U:Qa T}{B o:Nat}{c:Array Value}{v:Value}(h:Zi U B c)(b:c[o]?=some v):U.frz.sees ((Addr.mk B 0 none).add o) v:=(show Zi U.frz B c from h).sees3 b
end Go.TM

