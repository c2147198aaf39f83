/- Lemmas. No conditions. -/
import Derived.Test.YtnpfcnfhfkflhaaGreatDoorC00
set_option linter.all false
set_option maxRecDepth 100000
open List
namespace Go.TM
variable{T:Type}{U:Qa T}
def Bk.nextsTo(b:Bk)(o:List Nat)(i:Nat):List Nat:=(range i).filter λ i=>b.can o i
def Bk.nextsTo_succ(b:Bk)(o:List Nat)(i:Nat):b.nextsTo o (i+1)=b.nextsTo o i++(if b.can o i then[i]else[]):=by
 unfold Bk.nextsTo;rw[range_succ,filter_append];cases h:b.can o i <;> simp[h]
def Bk.nextsTo_len(b:Bk)(o:List Nat)(i:Nat):(b.nextsTo o i).length<=i:=Nat.le_trans (length_filter_le _ _) S1
def Qvy(o:List Nat)(i:Nat):(o.map λ(k:Nat)=>(k:Int)).contains (i:Int)=o.contains i:=by
 rw[Bool.eq_iff_iff,contains_iff_mem,contains_iff_mem,mem_map];constructor
 .rintro⟨k,hk,e⟩;have:k=i:=O1
  exact this▸hk
 .intro h;exact⟨i,h,rfl⟩
def Bk.pickO_succ(b:Bk)(p:List Nat)(k:Nat)(o:List Nat):b.pickO p (k+1) o=b.pickO p k (o++[(b.nexts o).getD (p.getD o.length 0 % (b.nexts o).length) 0]):=rfl
end Go.TM
namespace Go.Proofs
open Go.TM
variable{T:Type}{S:TM.Sys Tryz.prog T}{U:Qa T}
attribute [local irreducible] Qb Zl Wt
def Qae(a:Option Addr)(len cap:Nat)(p:List Nat)(g:Q5 U a len 1 p λ n vs=>vs=[.int .u16 (n:Int)]/\n<65536)(k:Nat):Qb S 83 #[.slice a len cap,.int .i64 k] (λ v U'=>v=.int .i64 (p.getD k 0:Nat)/\U'=U) U:=by
 refine Qb.of (args:=[_,_]) Qbj Qf S1 ?_;have j:=g.1
 repeat refine⟨rfl,?_⟩
 conv=>whnf
 apply Qe<;>intro f
 .have hlt:k<len:=by simpa using f
  obtain⟨h,n,vs,m,b,l,⟨rfl,o⟩,-,d⟩:=g.at hlt;have e:p.getD k 0=n:=by simp[getD_eq_getElem?_getD,m]
  rw[e];refine⟨h,k,⟨b,rfl,hlt⟩,_,d 0 _ rfl,?_⟩
  repeat refine⟨rfl,?_⟩
  conv=>whnf
  rw[ZZ O1];exact⟨rfl,rfl⟩
 .have hge:len<=k:=by simp at f;omega
  have e:p.getD k 0=0:=by simp[getD_eq_getElem?_getD,getElem?_eq_none (show p.length<=k by omega)]
  rw[e]
  repeat refine⟨rfl,?_⟩
  conv=>whnf
set_option maxHeartbeats 2000000 in
def Qoa(h:BH)(b:Bk)(hb:Zq U.frz h b)(Q:b.Ok)(W:Option Addr)(pl pc:Nat)(p:List Nat)(hp:Q5 U.frz W pl 1 p λ n vs=>vs=[.int .u16 (n:Int)]/\n<65536) :
  Qb S 33 #[h.v,.slice W pl pc] (λ v U'=>Jd U'.frz v ((b.pickO p b.cs.length []).map λ(k:Nat)=>(k:Int))/\U.le U') U:=by
 refine Qb.ints (e:=3) (Qb.of (args:=[_,_]) Qp5 Qf S1 ?_);have ae:=hb.cs.1;have bh:=Q.nc
 repeat refine⟨rfl,?_⟩
 conv=>whnf
 intro B U1 z hB;have hB:Zi U1 B #[.slice h.ra h.rl h.rc,.slice h.ca h.cl h.cc]:=hB;have a6:=hb.lg z.lg.frz2
 refine⟨List Nat×Value,λ y=>[(1,.slice W pl pc),(2,.pointer (some ⟨B,0,none⟩)),(5,y.2)],
  λ y U'=>U1.frz.lg U'/\Acc 3 1 y.2 ((y.1.map λ(k:Nat)=>(k:Int)).map λ n=>.int .i64 n) U'.M U.M/\b.Beg y.1/\b.pickO p (h.cl-y.1.length) y.1=b.pickO p h.cl [],λ y=>h.cl-y.1.length,([],.slice none 0 0),T1,⟨Qp,by rw[z.own];exact .nil,.nil,rfl⟩,?_⟩
 rintro⟨o,v⟩f I⟨P,l,w,a⟩;simp only at l w a;obtain⟨oa,oc,rfl,hO⟩:=SY (U:=I) l;rw[length_map]at hO l ⊢;have bi:=w.le;have Y:=hB.imI P.imm;have a7:=a6.lg P.frz2;refine⟨_,Y.sees3 (o:=1) rfl,?_⟩
 repeat refine⟨rfl,?_⟩
 conv=>whnf
 apply Qe<;>intro G
 .have hlt:o.length<h.cl:=by simpa using G
  refine⟨Nat×Value,λ y=>[(1,.slice W pl pc),(2,.pointer (some ⟨B,0,none⟩)),(5,.slice oa o.length oc),(6,y.2),(7,.int .i64 y.1)],
   λ y U'=>I.frz.lg U'/\Acc 3 1 y.2 (((b.nextsTo o y.1).map λ(k:Nat)=>(k:Int)).map λ n=>.int .i64 n) U'.M I.M/\y.1<=h.cl,λ y=>h.cl-y.1,(0,.slice none 0 0),T1,⟨Qp,.nil,S1⟩,?_⟩
  rintro⟨i,vc⟩f U3⟨r,d,hi⟩;simp only at d hi;obtain⟨A,hA,-⟩:=d.split;have E:I.lg U3:=⟨λ x o T=>r.imm x o T,⟨A,hA⟩,r.tok⟩;obtain⟨ca,cc,rfl,hC⟩:=SY (U:=U3) d;rw[length_map]at hC d ⊢;have Z:=hO.lg E;have J:=Y.lg E;have a8:=a7.lg E.frz2;have am:Zu ((i:Int)+1):=I1
  have a9:=b.nextsTo_len o i;refine⟨_,J.sees3 (o:=1) rfl,?_⟩
  repeat refine⟨rfl,?_⟩
  conv=>whnf
  apply Qe<;>intro G
  .have hlti:i<h.cl:=by simpa using G
   obtain⟨ad,c,ga,gl,gc,aa,V,ac,T,ag,bj,ap,-,-,ha,bg,an⟩:=a8.case hlti;have a5:=Bk.aft1_at T;have a4:=Q.af c an;have bd:=ha.1;refine⟨Qf7.any,(Qaq oa o.length oc (o.map λ(k:Nat)=>(k:Int)) Z O1 (i:Int)).go λ _=>?_⟩;rw[Qvy]
   refine⟨Nat×Bool,λ y=>[(1,.slice W pl pc),(2,.pointer (some ⟨B,0,none⟩)),(5,.slice oa o.length oc),(6,.slice ca (b.nextsTo o i).length cc),(7,.int .i64 i),(8,.bool y.2),(9,.int .i64 y.1)],
    λ y U'=>U'=U3/\y.1<=V/\(!o.contains i&&((c.af.take y.1).map Int.toNat).all λ k=>o.contains k)=y.2,λ y=>V-y.1,(0,!o.contains i),T1,⟨rfl,S1,S1⟩,?_⟩
   rintro⟨k,t⟩f U4⟨hU,hk,ht⟩;obtain rfl:=hU.symm;simp only at hk ht;have H:Zu ((k:Int)+1):=I1
   refine⟨_,J.sees3 (o:=1) rfl,ad,i,⟨ag,rfl,hlti⟩,_,(ap.lg Qp).cell (i:=3) rfl,?_⟩
   repeat refine⟨rfl,?_⟩
   conv=>whnf
   apply Qe<;>intro G
   .have hltk:k<V:=by simpa using G
    obtain⟨ay,n,aw,ah,be,ba⟩:=(ha.lg Qp).at hltk;obtain⟨q,rfl⟩:=Int.eq_ofNat_of_zero_le (a4 n (mem_of_getElem? aw)).1
    have F:(!o.contains i&&((c.af.take (k+1)).map Int.toNat).all λ k=>o.contains k)=(t&&o.contains q):=by
     rw[Ji aw,map_append,all_append,<- Bool.and_assoc,ht];simp
    cases t with
    |false=>
     refine⟨H,?_⟩
     conv=>whnf
     exact⟨rfl,(k+1,false),T1,⟨rfl,by show k+1<=V;omega,F⟩,L1⟩
    |true=>
     refine⟨_,J.sees3 (o:=1) rfl,ad,i,⟨ag,rfl,hlti⟩,_,(ap.lg Qp).cell (i:=3) rfl,ay,k,⟨ah,rfl,hltk⟩,_,ba,Qf7.any,(Qaq oa o.length oc (o.map λ(k:Nat)=>(k:Int)) Z O1 (q:Int)).go λ _=>?_⟩;rw[Qvy];refine⟨H,?_⟩
     conv=>whnf
     exact⟨rfl,(k+1,o.contains q),T1,⟨rfl,by show k+1<=V;omega,F⟩,L1⟩
   have N:k=V:=by simp at G;omega
   rw[take_of_length_le O1,<- a5]at ht;have ab:b.can o i=t:=ht;have g:=b.nextsTo_succ o i;rw[ab]at g;cases t with
   |false=>
    rw[if_neg S1,append_nil]at g;refine⟨am,?_⟩
    conv=>whnf
    exact⟨rfl,(i+1,.slice ca (b.nextsTo o i).length cc),T1,⟨r,by rw[g];exact d,by show i+1<=h.cl;omega⟩,L1⟩
   |true=>
    rw[if_pos rfl]at g
    conv=>whnf
    intro a0 aj;refine Zk aj λ X K C=>?_;have C:Zi X a0 #[.int .i64 i]:=C
    conv=>whnf
    refine Ws (v:=.slice ca (b.nextsTo o i).length cc) (cs:=((b.nextsTo o i).map λ(k:Nat)=>(k:Int)).map λ n=>.int .i64 n) (new:=[.int .i64 (i:Int)]) (M₀:=I.M) Hf rfl rfl (by rw[K.own];exact d) (.inr ⟨_,rfl,C.rd⟩) rfl (by simp[Value.single]) S3 λ v' M' L _=>?_;have j:Acc 3 1 v' (((b.nextsTo o (i+1)).map λ(k:Nat)=>(k:Int)).map λ n=>.int .i64 n) M' I.M:=by rw[g,map_append,map_append];exact L
    obtain⟨ta,tl,tc,rfl,-,-⟩:=Acc.src (U:={ X with M:=M' }) j;refine⟨am,?_⟩
    conv=>whnf
    exact⟨rfl,(i+1,.slice ta tl tc),T1,⟨⟨λ x o T=>K.imm x o (r.imm x o T),⟨_,(append_nil _).symm⟩,K.tok.trans r.tok⟩,j,by show i+1<=h.cl;omega⟩,L1⟩
  have N:i=h.cl:=by simp at G;omega
  subst N;have F:b.nextsTo o h.cl=b.nexts o:=by unfold Bk.nextsTo Bk.nexts;rw[ae]
  rw[F]at hC a9 ⊢;have ao:=w.next Q O1;obtain⟨q,R⟩:∃q,q=p.getD o.length 0 % (b.nexts o).length:=⟨_,rfl⟩;have hq:q<(b.nexts o).length:=R▸Nat.mod_lt _ ao;obtain⟨ar,au⟩:=Bk.nexts_at hq;obtain⟨m,hm⟩:∃m,h.cl-o.length=m+1:=⟨h.cl-o.length-1,O1⟩;rw[hm,b.pickO_succ,<- R]at a;obtain⟨x,ax⟩:∃x,x=(b.nexts o).getD q 0:=⟨_,rfl⟩;rw[<- ax]at ar au a
  have O:(b.nexts o)[q]?=some x:=by
   rw[ax,getD_eq_getElem?_getD,getElem?_eq_getElem hq];rfl
  obtain⟨az,x4,av,ai,bf,bb⟩:=hC.at hq;obtain rfl:(x:Int)=x4:=by rw[getElem?_map,O]at av;exact Option.some.inj av
  have aq:((p.getD o.length 0:Nat):Int).tmod ((b.nexts o).length:Nat)=(q:Nat):=by rw[R];exact(Int.ofNat_tmod _ _).symm
  refine⟨Qbj.any,(Qae W pl pc p (Q5.lg (R':=λ(n:Nat)vs=>vs=[.int .u16 (n:Int)]/\n<65536) hp ((z.lg.frz2.trans (P.frz2.trans E.frz2)).trans Qp) λ _ _ h=>h) o.length).go λ _=>?_⟩;refine⟨rfl,O1,?_⟩;rw[aq];refine⟨az,q,⟨ai,rfl,hq⟩,_,bb,?_⟩
  conv=>whnf
  intro a1 ak;refine xM (M':=I.M) (M₀:=A) ak (by rw[hA];exact perm_append_comm) λ X a2 bc a3 D=>?_;have D:Zi X a1 #[.int .i64 x]:=D
  conv=>whnf
  refine Ws (v:=.slice oa o.length oc) (cs:=(o.map λ(k:Nat)=>(k:Int)).map λ n=>.int .i64 n) (new:=[.int .i64 (x:Int)]) (M₀:=U.M) Hf rfl rfl (by rw[a3];exact l) (.inr ⟨_,rfl,D.rd⟩) rfl (by simp[Value.single]) S3 λ v' M' L _=>?_;have j:Acc 3 1 v' (((o++[x]).map λ(k:Nat)=>(k:Int)).map λ n=>.int .i64 n) M' U.M:=by rw[map_append,map_append];exact L
  obtain⟨ta,tl,tc,rfl,-,-⟩:=Acc.src (U:={ X with M:=M' }) j
  conv=>whnf
  exact⟨rfl,(o++[x],.slice ta tl tc),T1,⟨⟨λ y u hy=>a2 y u (r.imm y u (P.imm y u hy)),⟨_,(append_nil _).symm⟩,bc.trans (r.tok.trans P.tok)⟩,j,w.snoc ar au,by simp only[length_append,length_singleton];rw[show h.cl-(o.length+1)=m by omega];exact a⟩,by simp only[length_append,length_singleton];omega⟩
 .have N:o.length=h.cl:=by simp at G;omega
  rw[show h.cl-o.length=0 by omega]at a;have a:o=b.pickO p h.cl []:=a
  repeat refine⟨rfl,?_⟩
  conv=>whnf
  exact⟨by rw[ae,<- a];exact l,λ x o T=>P.imm x o (z.imm x o T),P.tok.trans z.tok⟩
end Go.Proofs
namespace Go.TM
variable{T:Type}{P:Program}{S:Sys P T}{U U':Qa T}
def Qb.pre{f:FuncId}{args:Array Value}{Q:Value->Qa T->Prop}{b:Qa T}(d:Qw U b)(h:Qb S f args Q b):Qb S f args Q U:=λ a m c cs k=>.shift d (h a m c cs k)
def Q4v(U:Qa T)(l:List Int)(v:Value)(U':Qa T):Prop:=(∃a l c,v=.slice a l c)/\U.frz.lg U'/\Acc 3 1 v (l.map λ n=>.int .i64 n) U'.M U.M
def Q4v.le{l:List Int}{v:Value}{a:Qa T}(h:Q4v U l v U')(k:U'.le a):Q4v U l v a:=⟨h.1,h.2.1.trans k.lg,by rw[k.own];exact h.2.2⟩
def Q4v.new{p:Nat}(h:U.le U'):Q4v U [] (.slice (some ⟨p,0,none⟩) 0 0) (U'.put p (.cells #[] 3)):=
 ⟨⟨_,_,_,rfl⟩,⟨λ x o a=>h.imm x o a,⟨_,(append_nil _).symm⟩,h.tok⟩,.inr ⟨p,#[],0,0,rfl,rfl,Nat.le_refl _,rfl,by show _::U'.M=_;rw[h.own],S1⟩⟩
end Go.TM
namespace Go.TM
variable{T:Type}{P:Program}{S:Sys P T}
structure Hlr(U:Qa T)(b:Nat)(e:TypeId)(c:Array Value)(U':Qa T):Prop where
 imm:∀x o,U.I x=some o->U'.I x=some o
 own:U'.M=.obj b (.cells c e (0,0))::U.M
 tok:U'.tok=U.tok
 new:U.I b=none
def Hlr.le{U U' a:Qa T}{b:Nat}{e:TypeId}{c:Array Value}(h:Hlr U b e c U')(k:U'.le a):Hlr U b e c a:=⟨λ x o i=>k.imm x o (h.imm x o i),k.own.trans h.own,k.tok.trans h.tok,h.new⟩
def Hlr.frz2{U U':Qa T}{b:Nat}{e:TypeId}{c:Array Value}(h:Hlr U b e c U'):U.frz.lg U'.frz:=⟨h.imm,⟨[],rfl⟩,h.tok⟩
def Hlr.frz1{U U':Qa T}{b:Nat}{e:TypeId}{c:Array Value}(h:Hlr U b e c U'):U.frz.lg U':=⟨h.imm,⟨_,(append_nil _).symm⟩,h.tok⟩
def Hlr.made{U U':Qa T}{b:Nat}{e:TypeId}{c:Array Value}(h:U.le U')(d:U'.free b):Hlr U b e c (U'.put b (.cells c e)):=by
 refine⟨h.imm,by show _::U'.M=_;rw[h.own],h.tok,?_⟩;cases a:U.I b with
 |none=>rfl
 |some o=>have:=h.imm b o a;rw[d.1]at this;cases this
def Hlr.write{U U':Qa T}{b:Nat}{e:TypeId}{c:Array Value}{vs:List Value}{Q:Qa T->Prop}(h:Hlr U b e c U')(d:c.size=vs.length)(g:∀v∈vs,v.single=true)(f:∀a,U.le a->Zi a b vs.toArray->Q a):ZA ⟨b,0,none⟩ vs 0 (λ U'=>∃a,Qw U' a/\Q a) U':=by
 refine VP [] vs 0 c U' h.own g O1 ?_;rw[Y7 d];refine⟨_,We (b:=b) (M':=U.M) (Perm.refl _),f _ ⟨λ x o i=>?_,rfl,h.tok⟩ Zi.new⟩;show JI U'.I b _ x=_;unfold JI;rw[if_neg]
 .exact h.imm x o i
 .rintro rfl;rw[h.new]at i;cases i
end Go.TM

