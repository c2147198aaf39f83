/- Lemmas. No conditions. -/
import Derived.Test.YtnpfcnfhfkflhaaGreatDoorC03
import Derived.Test.YtnpfcnfhfkflhaaGreatDoorC00
set_option linter.all false
set_option maxRecDepth 100000
open List
namespace Go.TM
variable{T:Type}{U:Qa T}
def Bk.nextsTo(b:Bk)(o:List Nat)(i:Nat):List Nat:=(range i).filter λ i=>b.can o i
def Bk.nextsTo_succ(b:Bk)(o:List Nat)(i:Nat):b.nextsTo o (i+1)=b.nextsTo o i++(if b.can o i then[i]else[]):=by
 unfold Bk.nextsTo;rw[range_succ,filter_append];cases h:b.can o i <;> simp[h]
def Bk.nextsTo_len(b:Bk)(o:List Nat)(i:Nat):(b.nextsTo o i).length<=i:=Nat.le_trans (length_filter_le _ _) S1
def Qp3(o:List Nat)(i:Nat):(o.map λ(k:Nat)=>(k:Int)).contains (i:Int)=o.contains i:=by
 rw[Bool.eq_iff_iff,contains_iff_mem,contains_iff_mem,mem_map];constructor
 .rintro⟨k,hk,e⟩;have:k=i:=O1
  exact this▸hk
 .intro h;exact⟨i,h,rfl⟩
def Bk.pickO_succ(b:Bk)(p:List Nat)(k:Nat)(o:List Nat):b.pickO p (k+1) o=b.pickO p k (o++[(b.nexts o).getD (p.getD o.length 0 % (b.nexts o).length) 0]):=rfl
end Go.TM
namespace Go.Proofs
open Go.TM
variable{T:Type}{S:TM.Sys Tryz.prog T}{U:Qa T}
attribute [local irreducible] Qb Zl Wt
def Qdh(a:Option Addr)(len cap:Nat)(p:List Nat)(f:Q5 U a len 1 p λ n vs=>vs=[.int .u16 (n:Int)]/\n<65536)(k:Nat):Qb S 83 #[.slice a len cap,.int .i64 k] (λ v U'=>v=.int .i64 (p.getD k 0:Nat)/\U'=U) U:=by
 refine Qb.of (args:=[_,_]) Qpj Qf S1 ?_;have h:=f.1
 repeat refine⟨rfl,?_⟩
 conv=>whnf
 apply Qe<;>intro d
 .have hlt:k<len:=by simpa using d
  obtain⟨g,n,vs,l,b,j,⟨rfl,m⟩,-,c⟩:=f.at hlt;have e:p.getD k 0=n:=by simp[getD_eq_getElem?_getD,l]
  rw[e];refine⟨g,k,⟨b,rfl,hlt⟩,_,c 0 _ rfl,?_⟩
  repeat refine⟨rfl,?_⟩
  conv=>whnf
  rw[ZZ O1];exact⟨rfl,rfl⟩
 .have hge:len<=k:=by simp at d;omega
  have e:p.getD k 0=0:=by simp[getD_eq_getElem?_getD,getElem?_eq_none (show p.length<=k by omega)]
  rw[e]
  repeat refine⟨rfl,?_⟩
  conv=>whnf
set_option maxHeartbeats 2000000 in
def Qga(h:BH)(b:Bk)(hb:Zq U.frz h b)(O:b.Ok)(T:Option Addr)(V pc:Nat)(p:List Nat)(hp:Q5 U.frz T V 1 p λ n vs=>vs=[.int .u16 (n:Int)]/\n<65536) :
  Qb S 33 #[h.v,.slice T V pc] (λ v U'=>Jd U'.frz v ((b.pickO p b.cs.length []).map λ(k:Nat)=>(k:Int))/\U.le U') U:=by
 refine Qb.ints (e:=3) (Qb.of (args:=[_,_]) Qpf Qf S1 ?_);have ae:=hb.cs.1;have bg:=O.nc
 repeat refine⟨rfl,?_⟩
 conv=>whnf
 intro B U1 w hB;have hB:Zi U1 B #[.slice h.ra h.rl h.rc,.slice h.ca h.cl h.cc]:=hB;have a5:=hb.lg w.lg.frz2
 refine⟨List Nat×Value,λ y=>[(1,.slice T V pc),(2,.pointer (some ⟨B,0,none⟩)),(5,y.2)],
  λ y U'=>U1.frz.lg U'/\Acc 3 1 y.2 ((y.1.map λ(k:Nat)=>(k:Int)).map λ n=>.int .i64 n) U'.M U.M/\b.Beg y.1/\b.pickO p (h.cl-y.1.length) y.1=b.pickO p h.cl [],λ y=>h.cl-y.1.length,([],.slice none 0 0),T1,⟨Qp,by rw[w.own];exact .nil,.nil,rfl⟩,?_⟩
 rintro⟨o,v⟩f H⟨N,l,s,a⟩;simp only at l s a;obtain⟨oa,oc,rfl,hO⟩:=SY (U:=H) l;rw[length_map]at hO l ⊢;have bh:=s.le;have X:=hB.imI N.imm;have a6:=a5.lg N.frz2;refine⟨_,X.sees3 (o:=1) rfl,?_⟩
 repeat refine⟨rfl,?_⟩
 conv=>whnf
 apply Qe<;>intro F
 .have hlt:o.length<h.cl:=by simpa using F
  refine⟨Nat×Value,λ y=>[(1,.slice T V pc),(2,.pointer (some ⟨B,0,none⟩)),(5,.slice oa o.length oc),(6,y.2),(7,.int .i64 y.1)],
   λ y U'=>H.frz.lg U'/\Acc 3 1 y.2 (((b.nextsTo o y.1).map λ(k:Nat)=>(k:Int)).map λ n=>.int .i64 n) U'.M H.M/\y.1<=h.cl,λ y=>h.cl-y.1,(0,.slice none 0 0),T1,⟨Qp,.nil,S1⟩,?_⟩
  rintro⟨i,vc⟩f U3⟨r,d,hi⟩;simp only at d hi;obtain⟨A,hA,-⟩:=d.split;have D:H.lg U3:=⟨λ x o Q=>r.imm x o Q,⟨A,hA⟩,r.tok⟩;obtain⟨ca,cc,rfl,hC⟩:=SY (U:=U3) d;rw[length_map]at hC d ⊢;have Z:=hO.lg D;have I:=X.lg D;have a7:=a6.lg D.frz2;have am:Zu ((i:Int)+1):=I1
  have a8:=b.nextsTo_len o i;refine⟨_,I.sees3 (o:=1) rfl,?_⟩
  repeat refine⟨rfl,?_⟩
  conv=>whnf
  apply Qe<;>intro F
  .have hlti:i<h.cl:=by simpa using F
   obtain⟨ad,c,ga,gl,gc,aa,R,ac,Q,ag,bi,ap,-,-,ha,bf,an⟩:=a7.case hlti;have a4:=Bk.aft1_at Q;have a3:=O.af c an;have bc:=ha.1;refine⟨Qf7.any,(Qcf oa o.length oc (o.map λ(k:Nat)=>(k:Int)) Z O1 (i:Int)).go λ _=>?_⟩;rw[Qp3]
   refine⟨Nat×Bool,λ y=>[(1,.slice T V pc),(2,.pointer (some ⟨B,0,none⟩)),(5,.slice oa o.length oc),(6,.slice ca (b.nextsTo o i).length cc),(7,.int .i64 i),(8,.bool y.2),(9,.int .i64 y.1)],
    λ y U'=>U'=U3/\y.1<=R/\(!o.contains i&&((c.af.take y.1).map Int.toNat).all λ k=>o.contains k)=y.2,λ y=>R-y.1,(0,!o.contains i),T1,⟨rfl,S1,S1⟩,?_⟩
   rintro⟨k,t⟩f U4⟨hU,hk,ht⟩;obtain rfl:=hU.symm;simp only at hk ht;have G:Zu ((k:Int)+1):=I1
   refine⟨_,I.sees3 (o:=1) rfl,ad,i,⟨ag,rfl,hlti⟩,_,(ap.lg Qp).cell (i:=3) rfl,?_⟩
   repeat refine⟨rfl,?_⟩
   conv=>whnf
   apply Qe<;>intro F
   .have hltk:k<R:=by simpa using F
    obtain⟨ay,n,aw,ah,bd,a9⟩:=(ha.lg Qp).at hltk;obtain⟨q,rfl⟩:=Int.eq_ofNat_of_zero_le (a3 n (mem_of_getElem? aw)).1
    have E:(!o.contains i&&((c.af.take (k+1)).map Int.toNat).all λ k=>o.contains k)=(t&&o.contains q):=by
     rw[Ji aw,map_append,all_append,<- Bool.and_assoc,ht];simp
    cases t with
    |false=>
     refine⟨G,?_⟩
     conv=>whnf
     exact⟨rfl,(k+1,false),T1,⟨rfl,by show k+1<=R;omega,E⟩,L1⟩
    |true=>
     refine⟨_,I.sees3 (o:=1) rfl,ad,i,⟨ag,rfl,hlti⟩,_,(ap.lg Qp).cell (i:=3) rfl,ay,k,⟨ah,rfl,hltk⟩,_,a9,Qf7.any,(Qcf oa o.length oc (o.map λ(k:Nat)=>(k:Int)) Z O1 (q:Int)).go λ _=>?_⟩;rw[Qp3];refine⟨G,?_⟩
     conv=>whnf
     exact⟨rfl,(k+1,o.contains q),T1,⟨rfl,by show k+1<=R;omega,E⟩,L1⟩
   have K:k=R:=by simp at F;omega
   rw[take_of_length_le O1,<- a4]at ht;have ab:b.can o i=t:=ht;have g:=b.nextsTo_succ o i;rw[ab]at g;cases t with
   |false=>
    rw[if_neg S1,append_nil]at g;refine⟨am,?_⟩
    conv=>whnf
    exact⟨rfl,(i+1,.slice ca (b.nextsTo o i).length cc),T1,⟨r,by rw[g];exact d,by show i+1<=h.cl;omega⟩,L1⟩
   |true=>
    rw[if_pos rfl]at g
    conv=>whnf
    intro a0 aj;refine Zk aj λ W h5 z=>?_;have z:Zi W a0 #[.int .i64 i]:=z
    conv=>whnf
    refine Ws (v:=.slice ca (b.nextsTo o i).length cc) (cs:=((b.nextsTo o i).map λ(k:Nat)=>(k:Int)).map λ n=>.int .i64 n) (new:=[.int .i64 (i:Int)]) (M₀:=H.M) Hf rfl rfl (by rw[h5.own];exact d) (.inr ⟨_,rfl,z.rd⟩) rfl (by simp[Value.single]) S3 λ v' M' J _=>?_;have j:Acc 3 1 v' (((b.nextsTo o (i+1)).map λ(k:Nat)=>(k:Int)).map λ n=>.int .i64 n) M' H.M:=by rw[g,map_append,map_append];exact J
    obtain⟨ta,tl,tc,rfl,-,-⟩:=Acc.src (U:={ W with M:=M' }) j;refine⟨am,?_⟩
    conv=>whnf
    exact⟨rfl,(i+1,.slice ta tl tc),T1,⟨⟨λ x o Q=>h5.imm x o (r.imm x o Q),⟨_,(append_nil _).symm⟩,h5.tok.trans r.tok⟩,j,by show i+1<=h.cl;omega⟩,L1⟩
  have K:i=h.cl:=by simp at F;omega
  subst K;have E:b.nextsTo o h.cl=b.nexts o:=by unfold Bk.nextsTo Bk.nexts;rw[ae]
  rw[E]at hC a8 ⊢;have ao:=s.next O O1;obtain⟨q,P⟩:∃q,q=p.getD o.length 0 % (b.nexts o).length:=⟨_,rfl⟩;have hq:q<(b.nexts o).length:=P▸Nat.mod_lt _ ao;obtain⟨ar,au⟩:=Bk.nexts_at hq;obtain⟨m,hm⟩:∃m,h.cl-o.length=m+1:=⟨h.cl-o.length-1,O1⟩;rw[hm,b.pickO_succ,<- P]at a;obtain⟨x,ax⟩:∃x,x=(b.nexts o).getD q 0:=⟨_,rfl⟩;rw[<- ax]at ar au a
  have L:(b.nexts o)[q]?=some x:=by
   rw[ax,getD_eq_getElem?_getD,getElem?_eq_getElem hq];rfl
  obtain⟨az,x4,av,ai,be,ba⟩:=hC.at hq;obtain rfl:(x:Int)=x4:=by rw[getElem?_map,L]at av;exact Option.some.inj av
  have aq:((p.getD o.length 0:Nat):Int).tmod ((b.nexts o).length:Nat)=(q:Nat):=by rw[P];exact(Int.ofNat_tmod _ _).symm
  refine⟨Qpj.any,(Qdh T V pc p (Q5.lg (R':=λ(n:Nat)vs=>vs=[.int .u16 (n:Int)]/\n<65536) hp ((w.lg.frz2.trans (N.frz2.trans D.frz2)).trans Qp) λ _ _ h=>h) o.length).go λ _=>?_⟩;refine⟨rfl,O1,?_⟩;rw[aq];refine⟨az,q,⟨ai,rfl,hq⟩,_,ba,?_⟩
  conv=>whnf
  intro a1 ak;refine xM (M':=H.M) (M₀:=A) ak (by rw[hA];exact perm_append_comm) λ W a2 bb Y C=>?_;have C:Zi W a1 #[.int .i64 x]:=C
  conv=>whnf
  refine Ws (v:=.slice oa o.length oc) (cs:=(o.map λ(k:Nat)=>(k:Int)).map λ n=>.int .i64 n) (new:=[.int .i64 (x:Int)]) (M₀:=U.M) Hf rfl rfl (by rw[Y];exact l) (.inr ⟨_,rfl,C.rd⟩) rfl (by simp[Value.single]) S3 λ v' M' J _=>?_;have j:Acc 3 1 v' (((o++[x]).map λ(k:Nat)=>(k:Int)).map λ n=>.int .i64 n) M' U.M:=by rw[map_append,map_append];exact J
  obtain⟨ta,tl,tc,rfl,-,-⟩:=Acc.src (U:={ W with M:=M' }) j
  conv=>whnf
  exact⟨rfl,(o++[x],.slice ta tl tc),T1,⟨⟨λ y u hy=>a2 y u (r.imm y u (N.imm y u hy)),⟨_,(append_nil _).symm⟩,bb.trans (r.tok.trans N.tok)⟩,j,s.snoc ar au,by simp only[length_append,length_singleton];rw[show h.cl-(o.length+1)=m by omega];exact a⟩,by simp only[length_append,length_singleton];omega⟩
 .have K:o.length=h.cl:=by simp at F;omega
  rw[show h.cl-o.length=0 by omega]at a;have a:o=b.pickO p h.cl []:=a
  repeat refine⟨rfl,?_⟩
  conv=>whnf
  exact⟨by rw[ae,<- a];exact l,λ x o Q=>N.imm x o (w.imm x o Q),N.tok.trans w.tok⟩
def Qaq(U:Qa T)(s:Int)(a:s=0\/s=1\/s=2)(is:Bool):Qb S 35 #[.int .i64 s,.bool is] (λ v U'=>v=.bool (s==0|| ((s==1)==is))/\U'=U) U:=by
 refine Qb.of (args:=[_,_]) Qdg Qf S1 ?_;rcases a with rfl|rfl|rfl
 .repeat refine⟨rfl,?_⟩
  conv=>whnf
 .cases is
  .repeat refine⟨rfl,?_⟩
   conv=>whnf
  .repeat refine⟨rfl,?_⟩
   conv=>whnf
 .cases is
  .repeat refine⟨rfl,?_⟩
   conv=>whnf
  .repeat refine⟨rfl,?_⟩
   conv=>whnf
def Qdc(a:Option Addr)(len cap:Nat)(l:List Int)(o:Z5 U a len l)(g:len<2^60)(h:∀n∈l,n=0\/n=1\/n=2):Qb S 34 #[.slice a len cap] (λ v U'=>v=.bool true/\U'=U) U:=by
 refine Qb.of (args:=[_]) Qek Qf S1 ?_;refine⟨Nat,λ i=>[(0,.slice a len cap),(3,.int .i64 i)],λ i U'=>U'=U/\i<=len,λ i=>len-i,0,T1,⟨rfl,O1⟩,?_⟩;rintro i f s⟨j,t⟩;obtain rfl:=j.symm;have c:Zu ((i:Int)+1):=I1
 repeat refine⟨rfl,?_⟩
 conv=>whnf
 apply Qe<;>intro m
 .have hlt:i<len:=by simpa using m
  obtain⟨d,x,r,b,q,e⟩:=o.at hlt;refine⟨d,i,⟨b,rfl,hlt⟩,_,e,?_⟩;rcases h x (mem_of_getElem? r)with rfl|rfl|rfl
  .repeat refine⟨rfl,?_⟩
   refine⟨c,?_⟩
   conv=>whnf
   exact⟨rfl,i+1,T1,⟨rfl,O1⟩,L1⟩
  .repeat refine⟨rfl,?_⟩
   refine⟨d,i,⟨b,rfl,hlt⟩,_,e,?_⟩
   repeat refine⟨rfl,?_⟩
   refine⟨c,?_⟩
   conv=>whnf
   exact⟨rfl,i+1,T1,⟨rfl,O1⟩,L1⟩
  .repeat refine⟨rfl,?_⟩
   refine⟨d,i,⟨b,rfl,hlt⟩,_,e,?_⟩
   repeat refine⟨rfl,?_⟩
   refine⟨d,i,⟨b,rfl,hlt⟩,_,e,?_⟩
   repeat refine⟨rfl,?_⟩
   refine⟨c,?_⟩
   conv=>whnf
   exact⟨rfl,i+1,T1,⟨rfl,O1⟩,L1⟩
 .repeat refine⟨rfl,?_⟩
  conv=>whnf
  first|done|exact⟨rfl,rfl⟩
end Go.Proofs
namespace Go.TM
variable{T:Type}{P:Program}{S:Sys P T}
structure Hlr(U:Qa T)(b:Nat)(e:TypeId)(c:Array Value)(U':Qa T):Prop where
 imm:∀x o,U.I x=some o->U'.I x=some o
 own:U'.M=.obj b (.cells c e (0,0))::U.M
 tok:U'.tok=U.tok
 new:U.I b=none
def Hlr.le{U U' a:Qa T}{b:Nat}{e:TypeId}{c:Array Value}(h:Hlr U b e c U')(k:U'.le a):Hlr U b e c a:=⟨λ x o i=>k.imm x o (h.imm x o i),k.own.trans h.own,k.tok.trans h.tok,h.new⟩
def Hlr.frz2{U U':Qa T}{b:Nat}{e:TypeId}{c:Array Value}(h:Hlr U b e c U'):U.frz.lg U'.frz:=⟨h.imm,⟨[],rfl⟩,h.tok⟩
end Go.TM
namespace Go.TM
variable{T:Type}{U:Qa T}
def boC(l:List Bool):List Value:=l.map .bool
def Zc3(l:List Bool)(i:Nat)(x:Bool):(boC l).toArray.setIfInBounds i (.bool x)=(boC (l.set i x)).toArray:=by
 simp[boC,map_set]
def WX.of{b:Nat}{l:List Bool}(h:Jn U ⟨b,0,none⟩ (boC l)):WX U (some ⟨b,0,none⟩) l.length l:=
 ⟨rfl,λ i x a=>⟨_,rfl,rfl,by rw[Nat.mul_one];exact h i _ (by simp[boC,a])⟩⟩
def Q4v{P:Program}{t:TypeId}(h:(match P.info? t with|some a=>a.zero.isSome&&(match a.zero with|some (.bool false)=>true|_=>false)&&a.size==1&&decide (a.bytes<=64)|none=>false)=true):∃a,P.info? t=some a/\a.zero=some (.bool false)/\a.size=1/\a.bytes<=64:=by
 split at h
 .rename_i a hi;simp only[Bool.and_eq_true,beq_iff_eq,decide_eq_true_eq]at h;obtain⟨⟨⟨e,b⟩,c⟩,d⟩:=h;refine⟨a,hi,?_,c,d⟩;split at b
  .assumption
  .cases b
 .cases h
end Go.TM
namespace Go.Proofs
open Go.TM
variable{T:Type}{S:TM.Sys Tryz.prog T}{U:Qa T}
attribute [local irreducible] Qb Zl Wt
def Zbz:∃a,Tryz.prog.info? 4=some a/\a.zero=some (.bool false)/\a.size=1/\a.bytes<=64:=Q4v K1
def Q0o:Tryz.prog.underlying 29=some (.slice 4):=K1
end Go.Proofs
namespace Go.TM
def Qoa(l:List Bool):List Bool:=l.map (!·)
def Q4x(l:List Bool)(i:Nat):(Qoa l).set i true=Qoa (l.set i false):=by simp[Qoa,map_set]
def Qvv{l:List Bool}{i:Nat}(h:i<l.length):(boC (Qoa l))[i]?=some (.bool (!l.getD i false)):=by
 simp[boC,Qoa,getD_eq_getElem?_getD,h]
end Go.TM
namespace Go.Proofs
open Go.TM
attribute [local irreducible] Qb Zl Wt
set_option maxHeartbeats 4000000 in
def Q4z{U:Qa Tk}(ax:U.tok=⟨0,.out,none⟩)(hk:WA U)(h:BH)(b:Bk)(hb:Zq U.frz h b)(cj:DH b)(cm:h.rl<=h.rc)(db:h.cl<=h.cc)(pa:Option Addr)(pl pc:Nat)(p:List Nat)(hp:Q5 U.frz pa pl 1 p λ(n:Nat)vs=>vs=[.int .u16 (n:Int)]/\n<65536)(di:pl<2^60) :
  J (Zb Tryz.prog 209 6) (QA Tryz.prog λ v U'=>v=.bool true/\U.lg U') true (Rf (Frame.enter Tryz.prog 5 #[h.v,.slice pa pl pc] .normal) []) U:=by
 refine Zpy (args:=[_,_]) (Q:=λ v U'=>v=.bool true/\U.lg U') Zcx Qf K1 S1 (λ v U' q=>q.2.tok.trans ax) ?_;have af:=hb.cs.1;have R:=hb.rs.1;have a7:∀U2:Qa Tk,U.lg U2->Qb (Zb Tryz.prog 209 6) 20 #[] (λ v U'=>v=.bool true/\U'=U2) U2:=λ U2 h=>Zm2 (h.tok.trans ax) (hk.lg h)
 repeat refine⟨rfl,?_⟩
 conv=>whnf
 intro B U1 E hB;have hB:Zi U1 B #[.slice h.ra h.rl h.rc,.slice h.ca h.cl h.cc]:=hB;have V:=hb.lg E.lg.frz2;have am:∀w:Qa Tk,U1.le w->Jn w ⟨B,0,none⟩ [.slice h.ra h.rl h.rc,.slice h.ca h.cl h.cc]:=λ w hw=>(hB.lg hw.lg).rd;refine⟨_,⟨rfl,am _ (.refl _)⟩,kh.any,(Zm1 h b V cj cm).mono ?_⟩;rintro _ U'⟨⟨g,rfl,hg⟩,b7⟩-;obtain rfl:=b7.symm
 repeat refine⟨rfl,?_⟩
 conv=>whnf
 apply Qe<;>intro z
 .refine⟨yL.any,(a7 _ E.lg).go λ _=>?_⟩
  repeat refine⟨rfl,?_⟩
  conv=>whnf
  exact E.lg
 have hf:b.flaw Qu=0:=hg (by simpa using z);have A:=Bk.ok_of hf;have dg:=A.nr;have df:=A.nc;have ba:∀i,i<h.cl->b.fatesC[i]?=some (b.fatC i):=λ i hi=>by simp[Bk.fatesC,af,hi]
 have bb:∀i,i<h.rl->b.fatesR[i]?=some (b.fatR i):=λ i hi=>by simp[Bk.fatesR,R,hi]
 refine⟨_,⟨rfl,am _ (.refl _)⟩,Qpf.any,(Qga h b V A pa pl pc p (Q5.lg (R':=λ(n:Nat)vs=>vs=[.int .u16 (n:Int)]/\n<65536) hp E.lg.frz2 λ _ _ h=>h)).mono ?_⟩;rintro _ U2⟨⟨oa,oc,rfl,hO⟩,ab⟩-;have ho:=Bk.pick_ord A p;generalize b.pickO p b.cs.length []=o at ho hO ⊢;rw[length_map]at hO ⊢;have dh:o.length=h.cl:=by rw[ho.len,af]
 have bo:b.outF (o.map λ(k:Nat)=>(k:Int))=0:=by unfold Bk.outF;rw[if_pos hf];exact ho.flaw
 have ck:(o.map λ(k:Nat)=>(k:Int)).map Int.toNat=o:=by
  rw[map_map];exact(map_congr_left (λ _ _=>rfl)).trans (map_id o)
 refine⟨_,⟨rfl,am _ ab⟩,YQ.any,(IR h b (V.lg ab.lg.frz2) (hk.lg (E.trans ab).lg) oa o.length oc _ hO O1).mono ?_⟩;rintro _ U3⟨⟨v1,v2,rfl,b1,b2⟩,a9⟩-;rw[bo,if_pos rfl,ck]at b1 b2;rw[bo];obtain⟨xa,xc,rfl,hX⟩:=b1;obtain⟨ya,yc,rfl,hY⟩:=b2;have ai:=b.end_len o;rw[ai.1,R,ai.2,af];have I:=ab.trans a9;refine⟨_,⟨rfl,am _ I⟩,Fj.any,(yC h b (V.lg I.lg.frz2) (hk.lg (E.trans I).lg)).mono ?_⟩;rintro _ U4⟨⟨_,_,rfl,⟨ra,rc,rfl,hR⟩,⟨ca,cc,rfl,hC⟩⟩,ae⟩-;rw[hf]at hR hC ⊢;rw[if_pos rfl]at hR hC;rw[if_pos rfl,if_pos rfl];rw[show b.fatesC.length=h.cl by simp[Bk.fatesC,af]]at hC ⊢;rw[show b.fatesR.length=h.rl by simp[Bk.fatesR,R]]at hR ⊢;have Y:=I.trans ae;have az:=hB.lg Y.lg;have cd:=V.lg Y.lg.frz2;have W:=(E.trans Y).lg;have b0:U4.M=U.M:=(E.trans Y).own;have b5:Z5 U4.frz oa o.length _:=hO.lg (a9.trans ae).lg.frz2;have b8:∀i x,(b.ends o).1[i]?=some x->∃H,xa=some H/\H.spot=none/\U4.frz.sees (H.add (i*1)) (.bool x):=λ i x hx=>let ⟨H,e,s,r⟩:=hX i x hx;⟨H,e,s,r.lg ae.lg.frz2⟩;have b9:∀i x,(b.ends o).2[i]?=some x->∃H,ya=some H/\H.spot=none/\U4.frz.sees (H.add (i*1)) (.bool x):=λ i x hx=>let ⟨H,e,s,r⟩:=hY i x hx;⟨H,e,s,r.lg ae.lg.frz2⟩
 repeat refine⟨rfl,?_⟩
 refine⟨_,az.sees3 (o:=0) rfl,?_⟩
 repeat refine⟨rfl,?_⟩
 conv=>whnf
 apply Zr<;>intro z
 rotate_left
 .exact absurd z S1
 refine⟨_,az.sees3 (o:=1) rfl,?_⟩
 repeat refine⟨rfl,?_⟩
 conv=>whnf
 apply Zr<;>intro z
 rotate_left
 .exact absurd z S1
 repeat refine⟨rfl,?_⟩
 conv=>whnf
 apply Zr<;>intro z
 rotate_left
 .exact absurd z S1
 repeat refine⟨rfl,?_⟩
 conv=>whnf
 apply Zr<;>intro z
 rotate_left
 .exact absurd z S1
 refine⟨Qek.any,(Qdc ra h.rl rc b.fatesR (hR.lg Qp) O1 (λ n hn=>by obtain⟨i,-,rfl⟩:=mem_map.1 hn;exact Qae _ _)).go λ _=>?_⟩;refine⟨Qek.any,(Qdc ca h.cl cc b.fatesC (hC.lg Qp) O1 (λ n hn=>by obtain⟨i,-,rfl⟩:=mem_map.1 hn;exact Qae _ _)).go λ _=>?_⟩;obtain⟨i4,cu,cv,cw,cx⟩:=Zbz
 conv=>whnf
 refine EK (n:=h.rl) Q0o cu cv rfl cw cx rfl rfl O1 λ fb dc=>?_
 let MM:List Bool->List Qx:=λ s=>.obj fb (.cells (boC (Qoa s)).toArray 4 (0,0))::U.M
 have bk:(replicate h.rl (Value.bool false)).toArray=(boC (Qoa b.ini.1)).toArray:=by simp[boC,Qoa,Bk.ini,R]
 refine⟨Nat,λ i=>[(2,.pointer (some ⟨B,0,none⟩)),(5,.slice oa o.length oc),(6,.slice xa h.rl xc),(7,.slice ya h.cl yc),(9,.slice ra h.rl rc),(10,.slice ca h.cl cc),(12,.slice (some ⟨fb,0,none⟩) h.rl h.rl),(13,.int .i64 i)],λ i U'=>U4.frz.lg U'/\i<=o.length/\U'.M=MM (b.ends (o.take i)).1,λ i=>o.length-i,0,T1,⟨⟨λ _ _ h=>h,⟨_,(append_nil _).symm⟩,rfl⟩,O1,?_⟩,?_⟩
 .show _::U4.M=_;rw[b0,bk];rfl
 rintro i f U5⟨aj,hi,P⟩;have bj:Zu ((i:Int)+1):=I1
 repeat refine⟨rfl,?_⟩
 conv=>whnf
 apply Qe<;>intro z
 .have hlt:i<o.length:=by simpa using z
  obtain⟨n,an⟩:∃n,o[i]?=some n:=⟨_,getElem?_eq_getElem hlt⟩;have hn:=ho.low n (mem_of_getElem? an);have d:n<h.cl:=O1
  obtain⟨C,x2,bt,F,c2,G⟩:=b5.at hlt;obtain rfl:(n:Int)=x2:=by rw[getElem?_map,an]at bt;exact Option.some.inj bt
  obtain⟨H,c,ga,gl,gc,aa,al,ac,hx,ah,dj,L,hg,dd,ha,da,aw⟩:=cd.case d;have aq:b.cas n=c:=by simp[Bk.cas,getD_eq_getElem?_getD,hx]
  have cb:=A.ag c aw;have cf:=A.gs c aw;have c9:(b.ends (o.take i)).1.length=h.rl:=by rw[(b.end_len _).1,R]
  have m:b.ends (o.take (i+1))=b.stp (b.ends (o.take i)) n:=by rw[Ji an,b.ends_snoc]
  have N:=b.won_at A ho an;rw[aq]at N;unfold Bk.stp at m;rw[aq]at m;generalize hS:(b.ends (o.take i)).1=s at *;have a:∀w:Qa Tk,U5.le w->U4.frz.lg w:=λ w hw=>aj.trans hw.lg;have Z:∀w:Qa Tk,U5.le w->Zi w B #[.slice h.ra h.rl h.rc,.slice h.ca h.cl h.cc]:=λ w hw=>az.imI (a w hw).imm;refine⟨Nat×Bool,λ y=>[(2,.pointer (some ⟨B,0,none⟩)),(5,.slice oa o.length oc),(6,.slice xa h.rl xc),(7,.slice ya h.cl yc),(9,.slice ra h.rl rc),(10,.slice ca h.cl cc),(12,.slice (some ⟨fb,0,none⟩) h.rl h.rl),(13,.int .i64 i),(14,.bool y.2),(15,.int .i64 y.1)],λ y U'=>U5.le U'/\y.1<=gl/\Iq (c.gs.take y.1) s=y.2,λ y=>gl-y.1,(0,false),T1,⟨.refl _,S1,rfl⟩,?_⟩;rintro⟨k,t⟩f U6⟨X,hk,ht⟩;simp only at hk ht;have K:Zu ((k:Int)+1):=I1
  refine⟨_,(Z _ X).sees3 (o:=1) rfl,C,i,⟨F,rfl,hlt⟩,_,G.lg (a _ X),H,n,⟨ah,rfl,d⟩,_,(L.lg (a _ X)).cell (i:=2) rfl,?_⟩
  conv=>whnf
  intro U7 h7 _;have l:=X.trans h7
  repeat refine⟨rfl,?_⟩
  conv=>whnf
  apply Qe<;>intro z
  .have hltk:k<gl:=by simpa using z
   obtain⟨a3,g2,c5,O,c6,cr,ar,c0,bp,bi,cz,ce⟩:=hg.at hltk;have cy:=bi.1;have bh:=(cf g2 ce).2
   have a2:Iq (c.gs.take (k+1)) s=(t|| g2.all λ r=>s.getD r.toNat false):=by
    unfold Iq at ht ⊢;rw[Ji cr,any_append,ht];simp
   refine⟨Nat×Bool,λ y=>[(2,.pointer (some ⟨B,0,none⟩)),(5,.slice oa o.length oc),(6,.slice xa h.rl xc),(7,.slice ya h.cl yc),(9,.slice ra h.rl rc),(10,.slice ca h.cl cc),(12,.slice (some ⟨fb,0,none⟩) h.rl h.rl),(13,.int .i64 i),(14,.bool t),(15,.int .i64 k),(16,.bool y.2),(17,.int .i64 y.1)],λ y U'=>U7.le U'/\y.1<=O/\((g2.take y.1).all λ r=>s.getD r.toNat false)=y.2,λ y=>O-y.1,(0,true),T1,⟨.refl _,S1,rfl⟩,?_⟩;rintro⟨j,u⟩f U8⟨h8,hj,hu⟩;simp only at hj hu;have av:Zu ((j:Int)+1):=I1
   have S:=l.trans h8;refine⟨_,(Z _ S).sees3 (o:=1) rfl,C,i,⟨F,rfl,hlt⟩,_,G.lg (a _ S),H,n,⟨ah,rfl,d⟩,_,(L.lg (a _ S)).cell (i:=2) rfl,a3,k,⟨ar,rfl,hltk⟩,_,bp.lg (a _ S),?_⟩
   conv=>whnf
   intro U9 h9 _;have D:=S.trans h9
   repeat refine⟨rfl,?_⟩
   conv=>whnf
   apply Qe<;>intro z
   .have hltj:j<O:=by simpa using z
    obtain⟨bv,n2,ay,be,c1,cn⟩:=bi.at hltj;obtain⟨cg,ch⟩:=bh n2 (mem_of_getElem? ay);have ci:n2.toNat<h.rl:=by unfold Bk.nr at ch;omega
    have bn:((g2.take (j+1)).all λ r=>s.getD r.toNat false)=(u&&s.getD n2.toNat false):=by rw[Ji ay,all_append,hu];simp
    cases u with
    |false=>
     conv=>whnf
     intro Ua ka _;refine⟨av,?_⟩
     conv=>whnf
     exact⟨rfl,(j+1,false),T1,⟨(h8.trans h9).trans ka,by show j+1<=O;omega,bn⟩,L1⟩
    |true=>
     refine⟨_,(Z _ D).sees3 (o:=1) rfl,C,i,⟨F,rfl,hlt⟩,_,G.lg (a _ D),H,n,⟨ah,rfl,d⟩,_,(L.lg (a _ D)).cell (i:=2) rfl,a3,k,⟨ar,rfl,hltk⟩,_,bp.lg (a _ D),bv,j,⟨be,rfl,hltj⟩,_,cn.lg (a _ D),?_⟩
     conv=>whnf
     intro Ua ka _;have bx:=D.trans ka;have b4:Ua.M=MM s:=by rw[bx.own,P]
     have a0:Ua.sees ((Addr.mk fb 0 none).add (n2.toNat*1)) (.bool (!s.getD n2.toNat false)):=by rw[Nat.mul_one];exact Za [] b4 _ _ (Qvv O1)
     refine⟨_,n2.toNat,⟨rfl,(Int.toNat_of_nonneg cg).symm,ci⟩,_,a0,av,?_⟩
     conv=>whnf
     exact⟨rfl,(j+1,!(!s.getD n2.toNat false)),T1,⟨(h8.trans h9).trans ka,by show j+1<=O;omega,by rw[bn];simp⟩,L1⟩
   have bg:j=O:=by simp at z;omega
   rw[take_of_length_le O1]at hu;rw[hu]at a2;cases t with
   |true=>
    refine⟨K,?_⟩
    conv=>whnf
    exact⟨rfl,(k+1,true),T1,⟨D,by show k+1<=gl;omega,a2⟩,L1⟩
   |false=>
    refine⟨K,?_⟩
    conv=>whnf
    exact⟨rfl,(k+1,u),T1,⟨D,by show k+1<=gl;omega,a2⟩,L1⟩
  have bg:k=gl:=by simp at z;omega
  rw[take_of_length_le (by rw[hg.1];omega)]at ht;rw[ht]at N m
  have ct:(b.ends o).2[n]?=some t:=by
   have hl:n<(b.ends o).2.length:=by rw[ai.2];exact hn
   rw[getElem?_eq_getElem hl,<- N,getD_eq_getElem?_getD,getElem?_eq_getElem hl];rfl
  obtain⟨a6,bd,c4,bs⟩:=b9 n t ct;obtain⟨a4,xC,cp,a8,c7,bq⟩:=hC.at d;obtain rfl:b.fatC n=xC:=Option.some.inj ((ba n d).symm.trans cp);have T:=b.agC A ho n;rw[N]at T;have ao:c.ag=(c.ag.toNat:Int)/\c.ag.toNat<h.rl:=by unfold Bk.nr at cb;omega
  cases t with
  |true=>
   refine⟨C,i,⟨F,rfl,hlt⟩,_,G.lg (a _ l),a6,n,⟨bd,rfl,d⟩,_,bs.lg (a _ l),?_⟩
   repeat refine⟨rfl,?_⟩
   refine⟨C,i,⟨F,rfl,hlt⟩,_,G.lg (a _ l),a4,n,⟨a8,rfl,d⟩,_,bq.lg (a _ l),Qdg.any,(Qaq U7 (b.fatC n) (Qae _ _) true).go λ _=>?_⟩;rw[T];refine⟨_,(Z _ l).sees3 (o:=1) rfl,C,i,⟨F,rfl,hlt⟩,_,G.lg (a _ l),H,n,⟨ah,rfl,d⟩,_,(L.lg (a _ l)).cell (i:=1) rfl,?_⟩
   conv=>whnf
   intro Ua ka _;refine⟨_,c.ag.toNat,⟨rfl,ao.1,ao.2⟩,rfl,gb (L₁:=[]) (by rw[ka.own,l.own,P];first|done|exact Perm.refl _) (by rw[Nat.mul_one];simp[boC,Qoa];omega) rfl λ x1 k1 k2 k3=>?_⟩
   have bz:x1.M=MM (s.set c.ag.toNat false):=by
    rw[k3,Nat.mul_one];show([]:List Qx)++Qx.obj fb (.cells ((boC (Qoa s)).toArray.setIfInBounds c.ag.toNat (.bool true)) 4 (0,0))::_=_;rw[Zc3,Q4x];rfl
   have bm:=a _ (l.trans ka);simp only[if_true]at m;refine⟨bj,?_⟩
   conv=>whnf
   exact⟨rfl,i+1,T1,⟨⟨λ x o hx=>by rw[k1];exact bm.imm x o hx,⟨_,(append_nil _).symm⟩,by rw[k2];exact bm.tok⟩,O1,by rw[bz,m]⟩,L1⟩
  |false=>
   refine⟨C,i,⟨F,rfl,hlt⟩,_,G.lg (a _ l),a6,n,⟨bd,rfl,d⟩,_,bs.lg (a _ l),?_⟩
   repeat refine⟨rfl,?_⟩
   refine⟨C,i,⟨F,rfl,hlt⟩,_,G.lg (a _ l),a4,n,⟨a8,rfl,d⟩,_,bq.lg (a _ l),Qdg.any,(Qaq U7 (b.fatC n) (Qae _ _) false).go λ _=>?_⟩;rw[T];refine⟨bj,?_⟩
   conv=>whnf
   have ak:(b.ends (o.take (i+1))).1=s:=by rw[m,if_neg S1];exact hS
   exact⟨rfl,i+1,T1,⟨a _ l,O1,by rw[ak,l.own,P]⟩,L1⟩
 have bg:i=o.length:=by simp at z;omega
 rw[take_of_length_le O1]at P;refine⟨Nat,λ k=>[(6,.slice xa h.rl xc),(9,.slice ra h.rl rc),(12,.slice (some ⟨fb,0,none⟩) h.rl h.rl),(18,.int .i64 k)],λ k U'=>U5.le U'/\k<=h.rl,λ k=>h.rl-k,0,T1,⟨.refl _,O1⟩,?_⟩;rintro k f U6⟨X,de⟩;have K:Zu ((k:Int)+1):=I1
 have b3:U6.M=MM (b.ends o).1:=X.own.trans P;have a1:U4.frz.lg U6:=aj.trans X.lg;have au:∀w:Qa Tk,U5.le w->U.lg w:=λ w hw=>⟨λ x u hx=>hw.imm x u (aj.imm x u (W.imm x u hx)),⟨[_],hw.own.trans P⟩,hw.tok.trans (aj.tok.trans W.tok)⟩
 repeat refine⟨rfl,?_⟩
 conv=>whnf
 apply Qe<;>intro z
 .have hlt:k<h.rl:=by simpa using z
  have bl:k<(b.ends o).1.length:=by rw[ai.1,R];exact hlt
  obtain⟨x,bu⟩:∃x,(b.ends o).1[k]?=some x:=⟨_,getElem?_eq_getElem bl⟩;have bf:(b.ends o).1.getD k false=x:=by simp[getD_eq_getElem?_getD,bu]
  obtain⟨a5,bc,c3,br⟩:=b8 k x bu;obtain⟨bw,xR,cq,b6,c8,co⟩:=hR.at hlt;obtain rfl:b.fatR k=xR:=Option.some.inj ((bb k hlt).symm.trans cq);have ap:=b.agR A ho k;rw[bf]at ap;have a0:U6.sees ((Addr.mk fb 0 none).add (k*1)) (.bool (!x)):=by rw[Nat.mul_one,<- bf];exact Za [] b3 _ _ (Qvv bl)
  cases x
  all_goals
   refine⟨a5,k,⟨bc,rfl,hlt⟩,_,br.lg a1,_,k,⟨rfl,rfl,hlt⟩,_,a0,?_⟩
   repeat refine⟨rfl,?_⟩
   refine⟨bw,k,⟨b6,rfl,hlt⟩,_,co.lg a1,a5,k,⟨bc,rfl,hlt⟩,_,br.lg a1,?_⟩
   conv=>whnf
   intro Ua ka _;refine⟨Qdg.any,(Qaq Ua (b.fatR k) (Qae _ _) _).go λ _=>?_⟩;rw[ap];refine⟨K,?_⟩
   conv=>whnf
   exact⟨rfl,k+1,T1,⟨X.trans ka,O1⟩,L1⟩
 .refine⟨yL.any,(a7 _ (au _ X)).go λ _=>?_⟩
  repeat refine⟨rfl,?_⟩
  conv=>whnf
  exact au _ X
end Go.Proofs

