/- Lemmas. No conditions. -/
import Derived.Test.YtnpfcnfhfkflhaaGreatDoorC00
set_option linter.all false
set_option maxRecDepth 100000
open List
namespace Go.TM
variable{T:Type}{U:Qa T}
def Bk.nextsTo(b:Bk)(o:List Nat)(i:Nat):List Nat:=(range i).filter λ i=>b.can o i
def Bk.nextsTo_succ(b:Bk)(o:List Nat)(i:Nat):b.nextsTo o (i+1)=b.nextsTo o i++(if b.can o i then[i]else[]):=by
 unfold Bk.nextsTo;rw[range_succ,filter_append];cases h:b.can o i <;> simp[h]
def Bk.nextsTo_len(b:Bk)(o:List Nat)(i:Nat):(b.nextsTo o i).length<=i:=Nat.le_trans (length_filter_le _ _) S1
def Qp5(o:List Nat)(i:Nat):(o.map λ(k:Nat)=>(k:Int)).contains (i:Int)=o.contains i:=by
 rw[Bool.eq_iff_iff,contains_iff_mem,contains_iff_mem,mem_map];constructor
 .rintro⟨k,hk,e⟩;have:k=i:=O1
  exact this▸hk
 .intro h;exact⟨i,h,rfl⟩
def Bk.pickO_succ(b:Bk)(p:List Nat)(k:Nat)(o:List Nat):b.pickO p (k+1) o=b.pickO p k (o++[(b.nexts o).getD (p.getD o.length 0 % (b.nexts o).length) 0]):=rfl
end Go.TM
namespace Go.Proofs
open Go.TM
variable{T:Type}{S:TM.Sys Tryz.prog T}{U:Qa T}
attribute [local irreducible] Qb Zl Wt
def Qdc(a:Option Addr)(len cap:Nat)(p:List Nat)(f:Q5 U a len 1 p λ n vs=>vs=[.int .u16 (n:Int)]/\n<65536)(k:Nat):Qb S 83 #[.slice a len cap,.int .i64 k] (λ v U'=>v=.int .i64 (p.getD k 0:Nat)/\U'=U) U:=by
 refine Qb.of (args:=[_,_]) Qp3 Qf S1 ?_;have h:=f.1
 repeat refine⟨rfl,?_⟩
 conv=>whnf
 apply Qe<;>intro d
 .have hlt:k<len:=by simpa using d
  obtain⟨g,n,vs,l,b,j,⟨rfl,m⟩,-,c⟩:=f.at hlt;have e:p.getD k 0=n:=by simp[getD_eq_getElem?_getD,l]
  rw[e];refine⟨g,k,⟨b,rfl,hlt⟩,_,c 0 _ rfl,?_⟩
  repeat refine⟨rfl,?_⟩
  conv=>whnf
  rw[ZZ O1];exact⟨rfl,rfl⟩
 .have hge:len<=k:=by simp at d;omega
  have e:p.getD k 0=0:=by simp[getD_eq_getElem?_getD,getElem?_eq_none (show p.length<=k by omega)]
  rw[e]
  repeat refine⟨rfl,?_⟩
  conv=>whnf
set_option maxHeartbeats 2000000 in
def Qga(h:BH)(b:Bk)(hb:Zq U.frz h b)(O:b.Ok)(T:Option Addr)(V pc:Nat)(p:List Nat)(hp:Q5 U.frz T V 1 p λ n vs=>vs=[.int .u16 (n:Int)]/\n<65536) :
  Qb S 33 #[h.v,.slice T V pc] (λ v U'=>Jd U'.frz v ((b.pickO p b.cs.length []).map λ(k:Nat)=>(k:Int))/\U.le U') U:=by
 refine Qb.ints (e:=3) (Qb.of (args:=[_,_]) Qpj Qf S1 ?_);have ab:=hb.cs.1;have bg:=O.nc
 repeat refine⟨rfl,?_⟩
 conv=>whnf
 intro B U1 w hB;have hB:Zi U1 B #[.slice h.ra h.rl h.rc,.slice h.ca h.cl h.cc]:=hB;have a5:=hb.lg w.lg.frz2
 refine⟨List Nat×Value,λ y=>[(1,.slice T V pc),(2,.pointer (some ⟨B,0,none⟩)),(5,y.2)],
  λ y U'=>U1.frz.lg U'/\Acc 3 1 y.2 ((y.1.map λ(k:Nat)=>(k:Int)).map λ n=>.int .i64 n) U'.M U.M/\b.Beg y.1/\b.pickO p (h.cl-y.1.length) y.1=b.pickO p h.cl [],λ y=>h.cl-y.1.length,([],.slice none 0 0),T1,⟨Qp,by rw[w.own];exact .nil,.nil,rfl⟩,?_⟩
 rintro⟨o,v⟩f H⟨N,l,s,a⟩;simp only at l s a;obtain⟨oa,oc,rfl,hO⟩:=SY (U:=H) l;rw[length_map]at hO l ⊢;have bh:=s.le;have X:=hB.imI N.imm;have a6:=a5.lg N.frz2;refine⟨_,X.sees3 (o:=1) rfl,?_⟩
 repeat refine⟨rfl,?_⟩
 conv=>whnf
 apply Qe<;>intro F
 .have hlt:o.length<h.cl:=by simpa using F
  refine⟨Nat×Value,λ y=>[(1,.slice T V pc),(2,.pointer (some ⟨B,0,none⟩)),(5,.slice oa o.length oc),(6,y.2),(7,.int .i64 y.1)],
   λ y U'=>H.frz.lg U'/\Acc 3 1 y.2 (((b.nextsTo o y.1).map λ(k:Nat)=>(k:Int)).map λ n=>.int .i64 n) U'.M H.M/\y.1<=h.cl,λ y=>h.cl-y.1,(0,.slice none 0 0),T1,⟨Qp,.nil,S1⟩,?_⟩
  rintro⟨i,vc⟩f U3⟨r,d,hi⟩;simp only at d hi;obtain⟨A,hA,-⟩:=d.split;have D:H.lg U3:=⟨λ x o Q=>r.imm x o Q,⟨A,hA⟩,r.tok⟩;obtain⟨ca,cc,rfl,hC⟩:=SY (U:=U3) d;rw[length_map]at hC d ⊢;have Y:=hO.lg D;have I:=X.lg D;have a7:=a6.lg D.frz2;have ak:Zu ((i:Int)+1):=I1
  have a8:=b.nextsTo_len o i;refine⟨_,I.sees3 (o:=1) rfl,?_⟩
  repeat refine⟨rfl,?_⟩
  conv=>whnf
  apply Qe<;>intro F
  .have hlti:i<h.cl:=by simpa using F
   obtain⟨ad,c,ga,gl,gc,aa,R,ac,Q,ae,bi,ao,-,-,ha,bf,am⟩:=a7.case hlti;have a4:=Bk.aft1_at Q;have a3:=O.af c am;have bc:=ha.1;refine⟨Qdh.any,(Qaq oa o.length oc (o.map λ(k:Nat)=>(k:Int)) Y O1 (i:Int)).go λ _=>?_⟩;rw[Qp5]
   refine⟨Nat×Bool,λ y=>[(1,.slice T V pc),(2,.pointer (some ⟨B,0,none⟩)),(5,.slice oa o.length oc),(6,.slice ca (b.nextsTo o i).length cc),(7,.int .i64 i),(8,.bool y.2),(9,.int .i64 y.1)],
    λ y U'=>U'=U3/\y.1<=R/\(!o.contains i&&((c.af.take y.1).map Int.toNat).all λ k=>o.contains k)=y.2,λ y=>R-y.1,(0,!o.contains i),T1,⟨rfl,S1,S1⟩,?_⟩
   rintro⟨k,t⟩f U4⟨hU,hk,ht⟩;obtain rfl:=hU.symm;simp only at hk ht;have G:Zu ((k:Int)+1):=I1
   refine⟨_,I.sees3 (o:=1) rfl,ad,i,⟨ae,rfl,hlti⟩,_,(ao.lg Qp).cell (i:=3) rfl,?_⟩
   repeat refine⟨rfl,?_⟩
   conv=>whnf
   apply Qe<;>intro F
   .have hltk:k<R:=by simpa using F
    obtain⟨ax,n,av,ag,bd,a9⟩:=(ha.lg Qp).at hltk;obtain⟨q,rfl⟩:=Int.eq_ofNat_of_zero_le (a3 n (mem_of_getElem? av)).1
    have E:(!o.contains i&&((c.af.take (k+1)).map Int.toNat).all λ k=>o.contains k)=(t&&o.contains q):=by
     rw[Ji av,map_append,all_append,<- Bool.and_assoc,ht];simp
    cases t with
    |false=>
     refine⟨G,?_⟩
     conv=>whnf
     exact⟨rfl,(k+1,false),T1,⟨rfl,by show k+1<=R;omega,E⟩,L1⟩
    |true=>
     refine⟨_,I.sees3 (o:=1) rfl,ad,i,⟨ae,rfl,hlti⟩,_,(ao.lg Qp).cell (i:=3) rfl,ax,k,⟨ag,rfl,hltk⟩,_,a9,Qdh.any,(Qaq oa o.length oc (o.map λ(k:Nat)=>(k:Int)) Y O1 (q:Int)).go λ _=>?_⟩;rw[Qp5];refine⟨G,?_⟩
     conv=>whnf
     exact⟨rfl,(k+1,o.contains q),T1,⟨rfl,by show k+1<=R;omega,E⟩,L1⟩
   have K:k=R:=by simp at F;omega
   rw[take_of_length_le O1,<- a4]at ht;have Z:b.can o i=t:=ht;have g:=b.nextsTo_succ o i;rw[Z]at g;cases t with
   |false=>
    rw[if_neg S1,append_nil]at g;refine⟨ak,?_⟩
    conv=>whnf
    exact⟨rfl,(i+1,.slice ca (b.nextsTo o i).length cc),T1,⟨r,by rw[g];exact d,by show i+1<=h.cl;omega⟩,L1⟩
   |true=>
    rw[if_pos rfl]at g
    conv=>whnf
    intro az ai;refine Zk ai λ W h5 z=>?_;have z:Zi W az #[.int .i64 i]:=z
    conv=>whnf
    refine Ws (v:=.slice ca (b.nextsTo o i).length cc) (cs:=((b.nextsTo o i).map λ(k:Nat)=>(k:Int)).map λ n=>.int .i64 n) (new:=[.int .i64 (i:Int)]) (M₀:=H.M) Hf rfl rfl (by rw[h5.own];exact d) (.inr ⟨_,rfl,z.rd⟩) rfl (by simp[Value.single]) S3 λ v' M' J _=>?_;have j:Acc 3 1 v' (((b.nextsTo o (i+1)).map λ(k:Nat)=>(k:Int)).map λ n=>.int .i64 n) M' H.M:=by rw[g,map_append,map_append];exact J
    obtain⟨ta,tl,tc,rfl,-,-⟩:=Acc.src (U:={ W with M:=M' }) j;refine⟨ak,?_⟩
    conv=>whnf
    exact⟨rfl,(i+1,.slice ta tl tc),T1,⟨⟨λ x o Q=>h5.imm x o (r.imm x o Q),⟨_,(append_nil _).symm⟩,h5.tok.trans r.tok⟩,j,by show i+1<=h.cl;omega⟩,L1⟩
  have K:i=h.cl:=by simp at F;omega
  subst K;have E:b.nextsTo o h.cl=b.nexts o:=by unfold Bk.nextsTo Bk.nexts;rw[ab]
  rw[E]at hC a8 ⊢;have an:=s.next O O1;obtain⟨q,P⟩:∃q,q=p.getD o.length 0 % (b.nexts o).length:=⟨_,rfl⟩;have hq:q<(b.nexts o).length:=P▸Nat.mod_lt _ an;obtain⟨aq,ar⟩:=Bk.nexts_at hq;obtain⟨m,hm⟩:∃m,h.cl-o.length=m+1:=⟨h.cl-o.length-1,O1⟩;rw[hm,b.pickO_succ,<- P]at a;obtain⟨x,aw⟩:∃x,x=(b.nexts o).getD q 0:=⟨_,rfl⟩;rw[<- aw]at aq ar a
  have L:(b.nexts o)[q]?=some x:=by
   rw[aw,getD_eq_getElem?_getD,getElem?_eq_getElem hq];rfl
  obtain⟨ay,x4,au,ah,be,ba⟩:=hC.at hq;obtain rfl:(x:Int)=x4:=by rw[getElem?_map,L]at au;exact Option.some.inj au
  have ap:((p.getD o.length 0:Nat):Int).tmod ((b.nexts o).length:Nat)=(q:Nat):=by rw[P];exact(Int.ofNat_tmod _ _).symm
  refine⟨Qp3.any,(Qdc T V pc p (Q5.lg (R':=λ(n:Nat)vs=>vs=[.int .u16 (n:Int)]/\n<65536) hp ((w.lg.frz2.trans (N.frz2.trans D.frz2)).trans Qp) λ _ _ h=>h) o.length).go λ _=>?_⟩;refine⟨rfl,O1,?_⟩;rw[ap];refine⟨ay,q,⟨ah,rfl,hq⟩,_,ba,?_⟩
  conv=>whnf
  intro a0 aj;refine xM (M':=H.M) (M₀:=A) aj (by rw[hA];exact perm_append_comm) λ W a1 bb a2 C=>?_;have C:Zi W a0 #[.int .i64 x]:=C
  conv=>whnf
  refine Ws (v:=.slice oa o.length oc) (cs:=(o.map λ(k:Nat)=>(k:Int)).map λ n=>.int .i64 n) (new:=[.int .i64 (x:Int)]) (M₀:=U.M) Hf rfl rfl (by rw[a2];exact l) (.inr ⟨_,rfl,C.rd⟩) rfl (by simp[Value.single]) S3 λ v' M' J _=>?_;have j:Acc 3 1 v' (((o++[x]).map λ(k:Nat)=>(k:Int)).map λ n=>.int .i64 n) M' U.M:=by rw[map_append,map_append];exact J
  obtain⟨ta,tl,tc,rfl,-,-⟩:=Acc.src (U:={ W with M:=M' }) j
  conv=>whnf
  exact⟨rfl,(o++[x],.slice ta tl tc),T1,⟨⟨λ y u hy=>a1 y u (r.imm y u (N.imm y u hy)),⟨_,(append_nil _).symm⟩,bb.trans (r.tok.trans N.tok)⟩,j,s.snoc aq ar,by simp only[length_append,length_singleton];rw[show h.cl-(o.length+1)=m by omega];exact a⟩,by simp only[length_append,length_singleton];omega⟩
 .have K:o.length=h.cl:=by simp at F;omega
  rw[show h.cl-o.length=0 by omega]at a;have a:o=b.pickO p h.cl []:=a
  repeat refine⟨rfl,?_⟩
  conv=>whnf
  exact⟨by rw[ab,<- a];exact l,λ x o Q=>N.imm x o (w.imm x o Q),N.tok.trans w.tok⟩
def Qcf(a r:Option Addr)(len cap c g:Nat)(l j:List Int)(z:Z5 U a len l)(n:Z5 U r c j)(A:len<2^60)(u:c<2^60) :
  Qb S 36 #[.slice a len cap,.slice r c g] (λ v U'=>v=.bool (Qae l j)/\U'=U) U:=by
 refine Qb.pure' (Qb.of (args:=[_,_]) Qdg Qf S1 ?_);have J:=z.1;have K:=n.1;refine⟨Nat,λ i=>[(0,.slice a len cap),(1,.slice r c g),(5,.int .i64 i)],λ i U'=>U.le U'/\i<=len/\i<=c/\Qae l j=Qae (l.drop i) (j.drop i),λ i=>len-i,0,T1,⟨.refl _,O1,O1,rfl⟩,?_⟩;rintro i f G⟨e,L,C,b⟩;have t:Zu ((i:Int)+1):=I1
 repeat refine⟨rfl,?_⟩
 conv=>whnf
 apply Zr<;>intro h
 .have hlt:i<len:=by simpa using h
  obtain⟨w,x,E,rfl,-,B⟩:=(z.lg e.lg).at hlt;rw[WT E]at b
  repeat refine⟨rfl,?_⟩
  conv=>whnf
  apply Qe<;>intro h
  .have hlt':i<c:=by simpa using h
   obtain⟨m,y,F,rfl,-,q⟩:=(n.lg e.lg).at hlt';rw[WT F,Qae]at b;refine⟨w,i,⟨rfl,rfl,hlt⟩,_,B,m,i,⟨rfl,rfl,hlt'⟩,_,q,?_⟩
   conv=>whnf
   intro H d _
   repeat refine⟨rfl,?_⟩
   conv=>whnf
   apply Qe<;>intro h
   .have hne:x≠y:=by simpa using h
    rw[if_neg hne]at b;refine⟨w,i,⟨rfl,rfl,hlt⟩,_,B.lg d.lg,m,i,⟨rfl,rfl,hlt'⟩,_,q.lg d.lg,?_⟩
    conv=>whnf
    intro I o _
    repeat refine⟨rfl,?_⟩
    conv=>whnf
    exact⟨by rw[b],((e.trans d).trans o).lg⟩
   .have hxy:x=y:=by simpa using h
    rw[if_pos hxy]at b;refine⟨t,?_⟩
    conv=>whnf
    exact⟨rfl,i+1,T1,⟨e.trans d,O1,O1,b⟩,L1⟩
  .have hge:c<=i:=by simpa using h
   have s:j.drop i=[]:=drop_eq_nil_of_le O1;rw[s,Qae]at b
   repeat refine⟨rfl,?_⟩
   refine⟨?_,e.lg⟩;rw[b]
   first|done|(congr 1;simp;omega)
 .have hge:len<=i:=by simpa using h
  have s:l.drop i=[]:=drop_eq_nil_of_le O1;rw[s,Qae]at b
  have D:(!(j.drop i).isEmpty)=decide ((len:Int)<(c:Int)):=by
   rw[Bool.eq_iff_iff];simp[isEmpty_iff,drop_eq_nil_iff];omega
  repeat refine⟨rfl,?_⟩
  conv=>whnf
  exact⟨by rw[b,D],e.lg⟩
end Go.Proofs
namespace Go.TM
def Qf7(o:List Nat):(Qbj o).map Int.toNat=o:=by
 rw[map_map];exact(map_congr_left (λ _ _=>rfl)).trans (map_id o)
def Bk.askF_zero{b:Bk}{r:Nat}(a:b.flaw Qu=0)(c:r<b.rs.length):b.askF (r:Int)=0:=by
 unfold Bk.askF;rw[if_pos a,if_pos];unfold Bk.nr;simp[btw];omega
end Go.TM
namespace Go.Proofs
open Go.TM
attribute [local irreducible] Qb Zl Wt
set_option maxHeartbeats 4000000 in
def Qvo{U:Qa Tk}(I:U.tok=⟨0,.out,none⟩)(hk:WA U)(h:BH)(b:Bk)(hb:Zq U.frz h b)(aq:DH b)(au:h.rl<=h.rc)(a5:h.cl<=h.cc)(rt:Nat)(ba:rt<256)(pa:Option Addr)(pl pc:Nat)(p:List Nat)(hp:Q5 U.frz pa pl 1 p λ(n:Nat)vs=>vs=[.int .u16 (n:Int)]/\n<65536)(a9:pl<2^60) :
  J (Zb Tryz.prog 209 6) (QA Tryz.prog λ v U'=>v=.bool true/\U.lg U') true (Rf (Frame.enter Tryz.prog 6 #[h.v,.int .u8 (rt:Int),.slice pa pl pc] .normal) []) U:=by
 refine Zpy (args:=[_,_,_]) (Q:=λ v U'=>v=.bool true/\U.lg U') Q4w Qf K1 S1 (λ v U' q=>q.2.tok.trans I) ?_;have H:=hb.cs.1;have W:=hb.rs.1;have C:∀U2:Qa Tk,U.lg U2->Qb (Zb Tryz.prog 209 6) 20 #[] (λ v U'=>v=.bool true/\U'=U2) U2:=λ U2 h=>Zm2 (h.tok.trans I) (hk.lg h)
 repeat refine⟨rfl,?_⟩
 conv=>whnf
 intro B U1 a N;have N:Zi U1 B #[.slice h.ra h.rl h.rc,.slice h.ca h.cl h.cc]:=N;have m:=hb.lg a.lg.frz2;have s:∀w:Qa Tk,U1.le w->Jn w ⟨B,0,none⟩ [.slice h.ra h.rl h.rc,.slice h.ca h.cl h.cc]:=λ w hw=>(N.lg hw.lg).rd;refine⟨_,⟨rfl,s _ (.refl _)⟩,kh.any,(Zm1 h b m aq au).mono ?_⟩;rintro _ U'⟨⟨g,rfl,hg⟩,an⟩-;obtain rfl:=an.symm;have WD:Qb (Zb Tryz.prog 209 6) 20 #[] (λ v U'=>v=.bool true/\U'=U1) U1:=C _ a.lg;cases g with
 |false=>
  refine⟨yL.any,WD.go λ _=>?_⟩
  repeat refine⟨rfl,?_⟩
  conv=>whnf
  exact a.lg
 |true=>
 have hf:b.flaw Qu=0:=hg rfl;refine⟨_,N.sees3 (o:=0) rfl,?_⟩
 repeat refine⟨rfl,?_⟩
 conv=>whnf
 apply Qe<;>intro c
 .refine⟨yL.any,WD.go λ _=>?_⟩
  repeat refine⟨rfl,?_⟩
  conv=>whnf
  exact a.lg
 have av:0<h.rl:=by simp at c;omega
 have y:=Bk.ok_of hf;have a7:=y.nr;have a6:=y.nc;obtain⟨q,ah⟩:∃q,q=rt % h.rl:=⟨_,rfl⟩;have Z:q<h.rl:=ah▸Nat.mod_lt _ av;have z:q<b.rs.length:=O1
 have ai:(IntKind.wrap .i64 (rt:Int)).tmod (h.rl:Nat)=(q:Nat):=by rw[ZZ O1,ah];exact(Int.ofNat_tmod _ _).symm
 have hF:b.askF (q:Int)=0:=Bk.askF_zero hf z;refine⟨_,N.sees3 (o:=0) rfl,rfl,O1,?_⟩;rw[ai];refine⟨_,⟨rfl,s _ (.refl _)⟩,Lv.any,(pv h b m (hk.lg a.lg) (q:Int)).mono ?_⟩;rintro _ U2⟨⟨_,_,rfl,⟨a1,c1,rfl,h1⟩,⟨a2,c2,rfl,h2⟩⟩,G⟩-;rw[hF,if_pos rfl,Int.toNat_natCast]at h1 h2;rw[hF,if_pos rfl,if_pos rfl,Int.toNat_natCast];have am:=a.trans G;refine⟨_,⟨rfl,s _ G⟩,Fj.any,(yC h b (m.lg G.lg.frz2) (hk.lg am.lg)).mono ?_⟩;rintro _ U3⟨⟨_,_,rfl,⟨ra,rc,rfl,hR⟩,⟨ca,cc,rfl,hC⟩⟩,R⟩-;rw[hf]at hR hC ⊢;rw[if_pos rfl]at hR hC;rw[if_pos rfl,if_pos rfl];clear hC;rw[show b.fatesR.length=h.rl by simp[Bk.fatesR,W]]at hR ⊢;obtain⟨K,xR,ay,P,a4,X⟩:=hR.at Z;obtain rfl:b.fatR q=xR:=Option.some.inj ((show b.fatesR[q]?=some (b.fatR q) by simp[Bk.fatesR,z]).symm.trans ay);have t:=G.trans R;have M:=a.trans t;have O:=N.lg t.lg;have ao:=m.lg t.lg.frz2;have h1:=h1.lg R.lg.frz2;have h2:=h2.lg R.lg.frz2
 repeat refine⟨rfl,?_⟩
 refine⟨_,O.sees3 (o:=0) rfl,?_⟩
 repeat refine⟨rfl,?_⟩
 conv=>whnf
 apply Qe<;>intro c
 .exact absurd c S1
 refine⟨_,O.sees3 (o:=1) rfl,?_⟩
 repeat refine⟨rfl,?_⟩
 conv=>whnf
 apply Qe<;>intro c
 .have h0:h.cl=0:=by simp at c;omega
  obtain⟨e1,e2,e3⟩:=Bk.dif_zero z (H.trans h0);rw[e1,e2];refine⟨by unfold Zu;simp,?_⟩
  repeat refine⟨rfl,?_⟩
  refine⟨K,q,⟨P,rfl,Z⟩,_,X.lg Qp,?_⟩;rw[e3];refine⟨rfl,yL.any,(C _ M.lg).go λ _=>?_⟩
  repeat refine⟨rfl,?_⟩
  conv=>whnf
  exact M.lg
 have h0:0<b.cs.length:=by simp at c;omega
 obtain⟨t1,t2⟩:=Bk.dif_true y (r:=q) h0;obtain⟨f1,f2⟩:=Bk.dif_false (b:=b) (r:=q) h0
 have k1:(!(decide ((((b.difS q true).map λ(k:Nat)=>(k:Int)).length:Int) > 0)==(b.fatR q != 2)))=false:=by
  rw[Bool.not_eq_false',beq_iff_eq,Bool.eq_iff_iff,length_map];simp only[decide_eq_true_eq,bne_iff_ne];omega
 have k2:(!(decide ((((b.difS q false).map λ(k:Nat)=>(k:Int)).length:Int) > 0)==(b.fatR q != 1)))=false:=by
  rw[Bool.not_eq_false',beq_iff_eq,Bool.eq_iff_iff,length_map];simp only[decide_eq_true_eq,bne_iff_ne];omega
 repeat refine⟨rfl,?_⟩
 refine⟨K,q,⟨P,rfl,Z⟩,_,X.lg Qp,?_⟩
 repeat refine⟨rfl,?_⟩
 conv=>whnf
 apply Zr<;>intro c
 rotate_left
 .exact absurd (k1.symm.trans c) S1
 repeat refine⟨rfl,?_⟩
 refine⟨K,q,⟨P,rfl,Z⟩,_,X.lg Qp,?_⟩
 repeat refine⟨rfl,?_⟩
 conv=>whnf
 apply Qe<;>intro c
 .exact absurd (k2.symm.trans c) S1
 let D:Nat->List Nat:=λ i=>b.difS q (decide (i=0))
 let sa:Nat->Option Addr:=λ i=>if i=0 then a1 else a2
 let sc:Nat->Nat:=λ i=>if i=0 then c1 else c2
 have aw:∀i,i<2->Z5 U3.frz (sa i) (D i).length (Qbj (D i))/\#[Value.slice a1 (List.map (λ(k:Nat)=>(k:Int)) (b.difS q true)).length c1,.slice a2 (List.map (λ(k:Nat)=>(k:Int)) (b.difS q false)).length c2][i]?=some (.slice (sa i) (D i).length (sc i)):=λ i hi=>by
  obtain rfl|rfl:i=0\/i=1:=O1
  .exact⟨by simpa[sa,D,Qbj]using h1,by simp[sa,sc,D]⟩
  .exact⟨by simpa[sa,D,Qbj]using h2,by simp[sa,sc,D]⟩
 have ar:∀i,i<2->0<(D i).length->b.Ord (D i)/\(b.ends (D i)).1.getD q false=decide (i=0):=λ i hi hl=>by
  obtain rfl|rfl:i=0\/i=1:=O1
  .exact t2 (t1.1 hl)
  .exact f2 (f1.1 hl)
 refine⟨Nat,λ i=>[(2,.slice pa pl pc),(3,.pointer (some ⟨B,0,none⟩)),(7,.int .i64 q),(8,.slice a1 (List.map (λ(k:Nat)=>(k:Int)) (b.difS q true)).length c1),(9,.slice a2 (List.map (λ(k:Nat)=>(k:Int)) (b.difS q false)).length c2),(14,.int .i64 i)],λ i U'=>U3.le U'/\i<=2,λ i=>2-i,0,T1,⟨.refl _,O1⟩,?_⟩;rintro i f U4⟨h4,hi⟩;have af:Zu ((i:Int)+1):=I1
 repeat refine⟨rfl,?_⟩
 conv=>whnf
 apply Qe<;>intro c
 .have hlt:i<2:=by simp at c;omega
  obtain⟨aj,ak⟩:=aw i hlt;have ag:=ar i hlt;generalize D i=d at aj ak ag
  conv=>whnf
  intro bl ap;refine Zk ap λ U5 h5 S=>?_;have S:Zi U5 bl #[.slice a1 (List.map (λ(k:Nat)=>(k:Int)) (b.difS q true)).length c1,.slice a2 (List.map (λ(k:Nat)=>(k:Int)) (b.difS q false)).length c2]:=S;have ax:U5.sees ((Addr.mk bl 0 none).add (i*1)) (.slice (sa i) d.length (sc i)):=by rw[Nat.mul_one,Qo];exact S.sees (by rw[Nat.zero_add];exact ak)
  refine⟨_,i,⟨rfl,rfl,hlt⟩,_,ax,?_⟩
  repeat refine⟨rfl,?_⟩
  conv=>whnf
  have l:=h4.trans h5;apply Qe<;>intro c
  .refine⟨af,?_⟩
   conv=>whnf
   exact⟨rfl,i+1,T1,⟨l,O1⟩,L1⟩
  have ae:0<d.length:=by simp at c;exact length_pos_iff.2 c
  obtain⟨V,hw⟩:=ag ae;have u:b.outF (Qbj d)=0:=by unfold Bk.outF;rw[if_pos hf];exact V.flaw
  have a3:=V.len;refine⟨_,⟨rfl,s _ (t.trans l)⟩,YQ.any,(IR h b (ao.lg l.lg.frz2) (hk.lg (M.trans l).lg) (sa i) d.length (sc i) _ (aj.lg l.lg.frz2) O1).mono ?_⟩;rintro _ U6⟨⟨v1,v2,rfl,b1,b2⟩,h6⟩-;rw[u,if_pos rfl,Qf7]at b1 b2;rw[u];obtain⟨xa,xc,rfl,hX⟩:=b1;obtain⟨ya,yc,rfl,hY⟩:=b2;have ab:=l.trans h6;have e:=b.end_len d;rw[e.1,W,e.2,H];obtain⟨x,A⟩:∃x,(b.ends d).1[q]?=some x:=⟨_,getElem?_eq_getElem (by rw[e.1];exact z)⟩;have a0:x=decide (i=0):=by rw[<- hw,getD_eq_getElem?_getD,A];rfl
  obtain⟨L,T,al,Y⟩:=hX q x A
  repeat refine⟨rfl,?_⟩
  refine⟨_,(O.lg ab.lg).sees3 (o:=0) rfl,?_⟩
  repeat refine⟨rfl,?_⟩
  conv=>whnf
  apply Zr<;>intro c
  rotate_left
  .exact absurd c S1
  have az:(!(x==((i:Int)==0)))=false:=by
   rw[a0];obtain rfl|rfl:i=0\/i=1:=O1
   .rfl
   .rfl
  repeat refine⟨rfl,?_⟩
  refine⟨L,q,⟨T,rfl,Z⟩,_,Y.lg Qp,?_⟩;cases x
  all_goals
   repeat refine⟨rfl,?_⟩
   conv=>whnf
   apply Qe<;>intro c
   .exact absurd (az.symm.trans c) S1
   refine⟨af,?_⟩
   conv=>whnf
   exact⟨rfl,i+1,T1,⟨ab,O1⟩,L1⟩
 have E:=t.trans h4;refine⟨_,⟨rfl,s _ E⟩,Qpj.any,(Qga h b (m.lg E.lg.frz2) y pa pl pc p (Q5.lg (R':=λ(n:Nat)vs=>vs=[.int .u16 (n:Int)]/\n<65536) hp (a.trans E).lg.frz2 λ _ _ h=>h)).mono ?_⟩;rintro _ U5⟨⟨oa,oc,rfl,hO⟩,h5⟩-;have V:=Bk.pick_ord y p;generalize b.pickO p b.cs.length []=o at V hO ⊢;rw[show(o.map λ(k:Nat)=>(k:Int)).length=o.length from length_map ..]at hO ⊢;have a8:o.length=h.cl:=by rw[V.len,H]
 have u:b.outF (Qbj o)=0:=by unfold Bk.outF;rw[if_pos hf];exact V.flaw
 have F:=E.trans h5;refine⟨_,⟨rfl,s _ F⟩,YQ.any,(IR h b (m.lg F.lg.frz2) (hk.lg (a.trans F).lg) oa o.length oc (Qbj o) hO O1).mono ?_⟩;rintro _ U6⟨⟨v1,v2,rfl,b1,b2⟩,h6⟩-;rw[u,if_pos rfl,Qf7]at b1 b2;rw[u];obtain⟨xa,xc,rfl,hX⟩:=b1;obtain⟨ya,yc,rfl,hY⟩:=b2;have aa:=F.trans h6;have ac:=h4.trans (h5.trans h6);have e:=b.end_len o;rw[e.1,W,e.2,H];obtain⟨x,A⟩:∃x,(b.ends o).1[q]?=some x:=⟨_,getElem?_eq_getElem (by rw[e.1];exact z)⟩;have hw:(b.ends o).1.getD q false=x:=by rw[getD_eq_getElem?_getD,A];rfl
 obtain⟨L,T,al,Y⟩:=hX q x A;obtain⟨d1,-,d3⟩:=Bk.dif_some V hw;have ae:=d1.len;have ad:=(hO.lg h6.lg.frz2).lg Qp;have j:=(a.trans aa).lg
 repeat refine⟨rfl,?_⟩
 refine⟨_,(N.lg aa.lg).sees3 (o:=0) rfl,?_⟩
 repeat refine⟨rfl,?_⟩
 conv=>whnf
 apply Qe<;>intro c
 .exact absurd c S1
 refine⟨L,q,⟨T,rfl,Z⟩,_,Y.lg Qp,?_⟩;cases x with
 |true=>
  refine⟨Qdg.any,(Qcf oa a1 o.length oc _ c1 (Qbj o) (Qbj (b.difS q true)) ad ((h1.lg ac.lg.frz2).lg Qp) O1 (by rw[length_map];omega)).go λ _=>?_⟩;rw[d3];refine⟨yL.any,(C _ j).go λ _=>?_⟩
  repeat refine⟨rfl,?_⟩
  conv=>whnf
  exact j
 |false=>
  refine⟨Qdg.any,(Qcf oa a2 o.length oc _ c2 (Qbj o) (Qbj (b.difS q false)) ad ((h2.lg ac.lg.frz2).lg Qp) O1 (by rw[length_map];omega)).go λ _=>?_⟩;rw[d3];refine⟨yL.any,(C _ j).go λ _=>?_⟩
  repeat refine⟨rfl,?_⟩
  conv=>whnf
  exact j
end Go.Proofs

